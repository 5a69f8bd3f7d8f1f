import PyProof.Rows.All
import Wide.All
import OpenK.AllK
import Wide.FinOn
import PyProof.Rows.CellsFrame
import PyProof.MeetsDictList
import PyProof.CompFree
import PyProof.DictItems
import PyProof.DictStraight
import PyProof.TupleIter
import PyProof.ForAny
import PyProof.Rows.TupSub
import PyProof.Rows.StrTemp
import PyProof.Rows.Globals
import PyProof.Rows.Method
import PyProof.Rows.IntRules
import PyProof.Rows.RuleB_floordiv
import PyProof.Rows.RuleB_mul
import PyProof.Rows.RuleC_int
import PyProof.Rows.RuleC_bool
import PyProof.Rows.RuleIs
import PyProof.Rows.RuleIs2
import PyProof.Rows.RuleU_int
import PyProof.Rows.StrRules
import PyProof.IsRules
import PyProof.Rows.Exc
import PyProof.ListOps
import PyProof.ListCopy
import PyProof.SliceMore
import PyProof.Rows.RuleN_abs
import PyProof.FactsAll.list_3
import PyProof.FactsAll.dict_1
import PyProof.Rows.Lst
import PyProof.WalksPairs
import PyProof.RangeFor
import PyProof.WalksMore
import PyProof.DelItemList
import PyProof.DictCopy
import PyProof.DictUpdate
import PyProof.DictValues
import PyProof.DictTruth
import PyProof.RulesDelMore
import PyProof.FactsAll.dict_0
import PyProof.FactsAll.dict_3
import PyProof.FactsAll.dict_4
import PyProof.FactsAll.list_0
import PyProof.FactsAll.str_0
import KE.KItemsList
import KE.KDictList
import PyProof.AttrMissHeap
import KE.KDictOf
import KE.KEqDat
import PyProof.TypeOfCall
import PyProof.MaxThree
import PyProof.Rows.Walk
import Wide.BridgeG
import OpenK.KWalk
import PyProof.CompMap
import PyProof.DictWalks
import KE.KPop
import PyProof.EnumFor
import PyProof.EnumMake
import PyProof.SumAny
import PyProof.Rows.SumGenD
import PyProof.ListRange
import PyProof.P3In
import PyProof.Rows.SortStr
import PyProof.Rows.SortShellK
import PyProof.Rows.SortWalk
import PyProof.Rows.StrInSeq3
import PyProof.IsiPairs
import KE.KSortTup
import PyProof.RulesAssignMore
import PySem.Challenge.RW_k6_0091
set_option Elab.async false
namespace Mine
open PySem PyProof.Rows

/-- abstract values -/
inductive V where
  | none
  | bool (b : Bool)
  | int (i : Int)
  | str (x : Str)
  | tup (vs : List V)
  | ref (a : Addr)
  | raw (v : Value)

/-- a tuple object -/
abbrev tupO (cvs : List Value) (n : Nat) : Obj := { cls := .type "tuple", data := .seq cvs.toArray n }
abbrev lstO (cvs : List Value) (n : Nat) : Obj := { cls := .type "list", data := .seq cvs.toArray n }

mutual
inductive VR (h : Heap) : Value → V → Prop
  | none : VR h .none .none
  | bool (b : Bool) : VR h (.bool b) (.bool b)
  | int (i : Int) (t : Tok) : VR h (.int i t) (.int i)
  | str (x : Str) (t : Tok) : VR h (.str x t) (.str x)
  | tup {a : Addr} {cvs : List Value} {n : Nat} {vs : List V} : h.get? a = some (tupO cvs n) → VRs h cvs vs → VR h (.ref a) (.tup vs)
  | ref (a : Addr) : VR h (.ref a) (.ref a)
  | raw (v : Value) : VR h v (.raw v)
inductive VRs (h : Heap) : List Value → List V → Prop
  | nil : VRs h [] []
  | cons {c : Value} {v : V} {cs : List Value} {vs : List V} : VR h c v → VRs h cs vs → VRs h (c :: cs) (v :: vs)
end

/-- all tuples stay -/
def TK (h h' : Heap) : Prop := ∀ a cvs n, h.get? a = some (tupO cvs n) → h'.get? a = some (tupO cvs n)
theorem TK.refl (h : Heap) : TK h h := fun _ _ _ e => e
theorem TK.trans {a b c : Heap} (x : TK a b) (y : TK b c) : TK a c := fun p q r e => y p q r (x p q r e)
theorem TK.of_keep {h h' : Heap} (k : ∀ b o, h.get? b = some o → h'.get? b = some o) : TK h h' := fun _ _ _ e => k _ _ e

mutual
theorem VR.mono {h h' : Heap} (k : TK h h') : ∀ {c v}, VR h c v → VR h' c v
  | _, _, .none => .none
  | _, _, .bool b => .bool b
  | _, _, .int i t => .int i t
  | _, _, .str x t => .str x t
  | _, _, .tup e r => .tup (k _ _ _ e) (VRs.mono k r)
  | _, _, .ref a => .ref a
  | _, _, .raw v => .raw v
theorem VRs.mono {h h' : Heap} (k : TK h h') : ∀ {c v}, VRs h c v → VRs h' c v
  | _, _, .nil => .nil
  | _, _, .cons a r => .cons (VR.mono k a) (VRs.mono k r)
end

theorem VRs.length {h : Heap} : ∀ {c v}, VRs h c v → c.length = v.length
  | _, _, .nil => rfl
  | _, _, .cons _ r => by simp [VRs.length r]
theorem VRs.append {h : Heap} : ∀ {c v d u}, VRs h c v → VRs h d u → VRs h (c ++ d) (v ++ u)
  | _, _, _, _, .nil, k => k
  | _, _, _, _, .cons a r, k => .cons a (VRs.append r k)
theorem VRs.get {h : Heap} : ∀ {c : List Value} {v : List V}, VRs h c v → ∀ {i : Nat} {x : V}, v[i]? = some x → ∃ y, c[i]? = some y ∧ VR h y x
  | _, _, .nil, _, _, e => by simp at e
  | _, _, .cons a r, 0, x, e => by simp at e; subst e; exact ⟨_, rfl, a⟩
  | _, _, .cons a r, i + 1, x, e => by
    simp at e
    obtain ⟨y, hy, hr⟩ := VRs.get r e
    exact ⟨y, by simpa using hy, hr⟩
theorem VRs.get' {h : Heap} : ∀ {c : List Value} {v : List V}, VRs h c v → ∀ {i : Nat} {y : Value}, c[i]? = some y → ∃ x, v[i]? = some x ∧ VR h y x
  | _, _, .nil, _, _, e => by simp at e
  | _, _, .cons a r, 0, x, e => by simp at e; subst e; exact ⟨_, rfl, a⟩
  | _, _, .cons a r, i + 1, x, e => by
    simp at e
    obtain ⟨y, hy, hr⟩ := VRs.get' r e
    exact ⟨y, by simpa using hy, hr⟩
theorem VRs.take {h : Heap} : ∀ {c v} (n : Nat), VRs h c v → VRs h (c.take n) (v.take n)
  | _, _, 0, _ => by simp; exact .nil
  | _, _, n + 1, .nil => .nil
  | _, _, n + 1, .cons a r => by simp; exact .cons a (VRs.take n r)
theorem VRs.drop {h : Heap} : ∀ {c v} (n : Nat), VRs h c v → VRs h (c.drop n) (v.drop n)
  | _, _, 0, x => by simpa using x
  | _, _, n + 1, .nil => .nil
  | _, _, n + 1, .cons a r => by simp; exact VRs.drop n r

/-- abstract objects -/
inductive O where
  | list (vs : List V)
  | dict (kvs : List (Str × V))
  | cell (v : Option V)
  | obj (c : Obj)
  | fix (c : Obj) (o : O)
/-- what it is, however it is held -/
def O.peel : O → O
  | .fix _ o => o.peel
  | o => o

inductive KVR (h : Heap) : List (Str × Value) → List (Str × V) → Prop
  | nil : KVR h [] []
  | cons {k : Str} {c : Value} {v : V} {cs vs} : VR h c v → KVR h cs vs → KVR h ((k, c) :: cs) ((k, v) :: vs)
theorem KVR.mono {h h' : Heap} (k : TK h h') : ∀ {c v}, KVR h c v → KVR h' c v
  | _, _, .nil => .nil
  | _, _, .cons a r => .cons (a.mono k) (KVR.mono k r)

inductive OVR (h : Heap) : Option Value → Option V → Prop
  | none : OVR h .none .none
  | some {c v} : VR h c v → OVR h (some c) (some v)
theorem OVR.mono {h h' : Heap} (k : TK h h') : ∀ {c v}, OVR h c v → OVR h' c v
  | _, _, .none => .none
  | _, _, .some a => .some (a.mono k)

section
variable (prog : Program) (w : World)

def OR (h : Heap) (o : Obj) : O → Prop
  | .list vs => ∃ cvs n, o = lstO cvs n ∧ VRs h cvs vs
  | .dict kvs => ∃ ckvs, o.IsDictOf (strKind prog w) ckvs ∧ KVR h ckvs kvs
  | .cell v => ∃ cv, o.data = .cell cv ∧ OVR h cv v
  | .obj c => o = c
  | .fix c a => o = c ∧ OR h o a
theorem OR.mono {h h' : Heap} {o : Obj} {a : O} (k : TK h h') (r : OR prog w h o a) : OR prog w h' o a := by
  induction a with
  | list vs => obtain ⟨cvs, n, e, r⟩ := r; exact ⟨cvs, n, e, r.mono k⟩
  | dict kvs => obtain ⟨c, e, r⟩ := r; exact ⟨c, e, r.mono k⟩
  | cell v => obtain ⟨c, e, r⟩ := r; exact ⟨c, e, r.mono k⟩
  | obj c => exact r
  | fix c a ih => exact ⟨r.1, ih r.2⟩
theorem OR.peel {h : Heap} {o : Obj} {a : O} (r : OR prog w h o a) : OR prog w h o a.peel := by
  induction a with
  | fix c a ih => exact ih r.2
  | _ => exact r

abbrev St := List (Addr × O)
abbrev Env' := List (Str × V)

/-- the objects -/
structure RH (g : Heap) (σ : St) (h : Heap) : Prop where
  keep : ∀ b o, g.get? b = some o → h.get? b = some o
  nd : (σ.map (·.1)).Nodup
  own : ∀ p ∈ σ, g.get? p.1 = none ∧ ∃ o, h.get? p.1 = some o ∧ OR prog w h o p.2
  st : ∃ o, g.get? cStatics = some o
  low : ∀ p ∈ σ, cStatics < p.1
/-- the frame and the objects -/
structure Rel (g : Heap) (L : Addr) (m : Env') (σ : St) (h : Heap) : Prop where
  rh : RH prog w g σ h
  ns : ∃ mc, h.Ns L mc ∧ ∀ x v, m.lookup x = some v → ∃ cv, mc x = some cv ∧ VR h cv v
  offS : ∀ p ∈ σ, p.1 ≠ L

variable {prog w}
variable {g h h' : Heap} {L : Addr} {m : Env'} {σ : St}

/-- everything stays (new things may come) -/
theorem RH.ext (R : RH prog w g σ h) (k : ∀ b o, h.get? b = some o → h'.get? b = some o) : RH prog w g σ h' :=
  ⟨fun b o e => k b o (R.keep b o e), R.nd, fun p hp => let ⟨a, o, e, r⟩ := R.own p hp; ⟨a, o, k _ _ e, r.mono _ _ (.of_keep k)⟩, R.st, R.low⟩
theorem RH.big (R : RH prog w g σ h) : cStatics < h.objs.size := let ⟨_, e⟩ := R.st; Heap.lt_size (R.keep _ _ e)
theorem get_none_of_size {h : Heap} {a : Addr} (hn : h.objs.size ≤ a) : h.get? a = none := by
  cases q : h.get? a with
  | none => rfl
  | some o => exact absurd (Heap.lt_size q) (Nat.not_lt.mpr hn)
theorem Rel.ext (R : Rel prog w g L m σ h) (k : ∀ b o, h.get? b = some o → h'.get? b = some o) : Rel prog w g L m σ h' := by
  refine ⟨R.rh.ext k, ?_, R.offS⟩
  obtain ⟨mc, hn, hv⟩ := R.ns
  exact ⟨mc, hn.keeps k, fun x v e => let ⟨cv, a, b⟩ := hv x v e; ⟨cv, a, b.mono (.of_keep k)⟩⟩
theorem push_keep (h : Heap) (o : Obj) : ∀ b o', h.get? b = some o' → (h.push o).get? b = some o' := fun _ _ e => Heap.get?_push_of_some o e

/-- a new object of the ledger -/
theorem RH.new (R : RH prog w g σ h) {a : Addr} {o : Obj} {ao : O} (k : ∀ b o, h.get? b = some o → h'.get? b = some o) (hn : h.objs.size ≤ a) (ho : h'.get? a = some o) (r : OR prog w h' o ao) : RH prog w g ((a, ao) :: σ) h' := by
  have R' := R.ext k
  have hz := hn
  replace hn := get_none_of_size hn
  refine ⟨R'.keep, ?_, ?_, R.st, fun p hp => ?_⟩
  · refine List.nodup_cons.mpr ⟨fun hm => ?_, R.nd⟩
    obtain ⟨p, hp, e⟩ := List.mem_map.mp hm
    obtain ⟨_, o', e', _⟩ := R.own p hp
    rw [e, hn] at e'; cases e'
  · intro p hp
    rcases List.mem_cons.mp hp with rfl | hp
    · refine ⟨?_, o, ho, r⟩
      cases q : g.get? a with
      | none => rfl
      | some o' => rw [R.keep _ _ q] at hn; cases hn
    · exact R'.own p hp
  · rcases List.mem_cons.mp hp with rfl | hp
    · exact Nat.lt_of_lt_of_le R.big hz
    · exact R.low p hp
theorem Rel.new (R : Rel prog w g L m σ h) {a : Addr} {o : Obj} {ao : O} (k : ∀ b o, h.get? b = some o → h'.get? b = some o) (hn : h.objs.size ≤ a) (ho : h'.get? a = some o) (r : OR prog w h' o ao) : Rel prog w g L m ((a, ao) :: σ) h' := by
  have R' := R.ext k
  refine ⟨R.rh.new k hn ho r, R'.ns, fun p hp => ?_⟩
  rcases List.mem_cons.mp hp with rfl | hp
  · intro e
    obtain ⟨mc, ⟨oL, _, _, hL, _⟩, _⟩ := R.ns
    rw [← e] at hL; rw [get_none_of_size hn] at hL; cases hL
  · exact R.offS p hp
theorem get_size_none (h : Heap) : h.get? h.objs.size = none := by
  cases q : h.get? h.objs.size with
  | none => rfl
  | some o => exact absurd (Heap.lt_size q) (Nat.lt_irrefl _)

/-- fewer, in another order -/
inductive Take (p : Addr × O) : St → St → Prop
  | head {r} : Take p (p :: r) r
  | tail {q r r'} : Take p r r' → Take p (q :: r) (q :: r')
inductive SubP : St → St → Prop
  | nil {l : St} : SubP [] l
  | cons {p r} {l l' : St} : Take p l l' → SubP r l' → SubP (p :: r) l
theorem Take.perm {p : Addr × O} : ∀ {l l' : St}, Take p l l' → (p :: l').Perm l
  | _, _, .head => .refl _
  | _, _, .tail t => (List.Perm.swap _ _ _).trans (.cons _ t.perm)
theorem SubP.split : ∀ {l' l : St}, SubP l' l → ∃ r, (l' ++ r).Perm l
  | _, l, .nil => ⟨l, .refl _⟩
  | _, _, .cons t s => let ⟨r, e⟩ := s.split; ⟨r, (List.Perm.cons _ e).trans t.perm⟩
theorem SubP.subset {l' l : St} (s : SubP l' l) {p : Addr × O} (h : p ∈ l') : p ∈ l := let ⟨_, e⟩ := s.split; e.subset (List.mem_append_left _ h)
theorem SubP.refl : ∀ (l : St), SubP l l
  | [] => .nil
  | _ :: r => .cons .head (SubP.refl r)
/-- a changed object of the ledger -/
inductive Up (a : Addr) (o o' : O) : St → St → Prop
  | head {r} : Up a o o' ((a, o) :: r) ((a, o') :: r)
  | tail {p r r'} : Up a o o' r r' → Up a o o' (p :: r) (p :: r')
theorem Up.mem {a : Addr} {o o' : O} : ∀ {l l' : St}, Up a o o' l l' → (a, o) ∈ l
  | _, _, .head => .head _
  | _, _, .tail r => .tail _ r.mem
theorem Up.map {a : Addr} {o o' : O} : ∀ {l l' : St}, Up a o o' l l' → l'.map (·.1) = l.map (·.1)
  | _, _, .head => rfl
  | _, _, .tail r => by simp [r.map]
theorem Up.of {a : Addr} {o o' : O} : ∀ {l l' : St}, Up a o o' l l' → ∀ {p}, p ∈ l' → (l.map (·.1)).Nodup → p = (a, o') ∨ (p ∈ l ∧ p.1 ≠ a)
  | _, _, .head (r := r), p, hp, nd => by
    rcases List.mem_cons.mp hp with rfl | hp
    · exact .inl rfl
    · refine .inr ⟨.tail _ hp, fun e => ?_⟩
      have := (List.nodup_cons.mp nd).1
      exact this (List.mem_map.mpr ⟨p, hp, e⟩)
  | _, _, .tail (p := q) (r := r) u, p, hp, nd => by
    rcases List.mem_cons.mp hp with rfl | hp
    · refine .inr ⟨.head _, fun e => ?_⟩
      exact (List.nodup_cons.mp nd).1 (List.mem_map.mpr ⟨(a, o), u.mem, e.symm⟩)
    · rcases u.of hp (List.nodup_cons.mp nd).2 with h | ⟨h1, h2⟩
      · exact .inl h
      · exact .inr ⟨.tail _ h1, h2⟩

theorem RH.upd (R : RH prog w g σ h) {a : Addr} {o o' : O} {σ' : St} (u : Up a o o' σ σ') {c : Obj} (hs : Heap.SameBut a h h') (tk : TK h h') (hc : h'.get? a = some c) (r : OR prog w h' c o') : RH prog w g σ' h' := by
  have ha := R.own _ u.mem
  refine ⟨fun b ob e => ?_, by rw [u.map]; exact R.nd, fun p hp => ?_, R.st, fun p hp => ?_⟩
  · refine (hs.2 b fun q => ?_).trans (R.keep b ob e)
    rw [q, ha.1] at e; cases e
  · rcases u.of hp R.nd with rfl | ⟨hm, hne⟩
    · exact ⟨ha.1, c, hc, r⟩
    · obtain ⟨h1, ob, h2, h3⟩ := R.own p hm
      exact ⟨h1, ob, (hs.2 _ hne).trans h2, h3.mono _ _ tk⟩
  · rcases u.of hp R.nd with rfl | ⟨hm, _⟩
    · exact R.low (a, o) u.mem
    · exact R.low p hm
theorem Rel.upd (R : Rel prog w g L m σ h) {a : Addr} {o o' : O} {σ' : St} (u : Up a o o' σ σ') {c : Obj} (hs : Heap.SameBut a h h') (tk : TK h h') (hc : h'.get? a = some c) (r : OR prog w h' c o') : Rel prog w g L m σ' h' := by
  refine ⟨R.rh.upd u hs tk hc r, ?_, fun p hp => ?_⟩
  · obtain ⟨mc, hn, hv⟩ := R.ns
    exact ⟨mc, hn.sameBut hs (Ne.symm (R.offS _ u.mem)), fun x v e => let ⟨cv, a, b⟩ := hv x v e; ⟨cv, a, b.mono tk⟩⟩
  · rcases u.of hp R.rh.nd with rfl | ⟨hm, _⟩
    · exact fun e => R.offS _ u.mem e
    · exact R.offS p hm

/-- fewer objects -/
theorem RH.sub (R : RH prog w g σ h) {σ' : St} (s : σ'.Sublist σ) : RH prog w g σ' h :=
  ⟨R.keep, R.nd.sublist (s.map _), fun p hp => R.own p (s.subset hp), R.st, fun p hp => R.low p (s.subset hp)⟩
theorem Rel.sub (R : Rel prog w g L m σ h) {σ' : St} (s : σ'.Sublist σ) : Rel prog w g L m σ' h :=
  ⟨R.rh.sub s, R.ns, fun p hp => R.offS p (s.subset hp)⟩
/-- another order -/
theorem RH.perm (R : RH prog w g σ h) {σ' : St} (s : σ'.Perm σ) : RH prog w g σ' h :=
  ⟨R.keep, (s.map (·.1)).nodup_iff.mpr R.nd, fun p hp => R.own p (s.subset hp), R.st, fun p hp => R.low p (s.subset hp)⟩
theorem Rel.perm (R : Rel prog w g L m σ h) {σ' : St} (s : σ'.Perm σ) : Rel prog w g L m σ' h :=
  ⟨R.rh.perm s, R.ns, fun p hp => R.offS p (s.subset hp)⟩
theorem RH.subP (R : RH prog w g σ h) {σ' : St} (s : SubP σ' σ) : RH prog w g σ' h := let ⟨r, e⟩ := s.split; (R.perm e).sub (List.sublist_append_left σ' r)
theorem Rel.subP (R : Rel prog w g L m σ h) {σ' : St} (s : SubP σ' σ) : Rel prog w g L m σ' h := let ⟨r, e⟩ := s.split; (R.perm e).sub (List.sublist_append_left σ' r)
/-- another map of the frame -/
theorem Rel.env (R : Rel prog w g L m σ h) {m' : Env'} (s : ∀ x v, m'.lookup x = some v → m.lookup x = some v) : Rel prog w g L m' σ h :=
  ⟨R.rh, let ⟨mc, hn, hv⟩ := R.ns; ⟨mc, hn, fun x v e => hv x v (s x v e)⟩, R.offS⟩

def mset : Env' → Str → V → Env'
  | [], x, v => [(x, v)]
  | (y, u) :: r, x, v => if x == y then (y, v) :: r else (y, u) :: mset r x v
theorem lookup_mset (m : Env') (x : Str) (v : V) (y : Str) : (mset m x v).lookup y = if y == x then some v else m.lookup y := by
  induction m with
  | nil => show (match y == x with | true => some v | false => none) = _; cases y == x <;> rfl
  | cons p r ih =>
    obtain ⟨z, u⟩ := p
    unfold mset
    cases hxz : x == z with
    | true =>
      have := eq_of_beq hxz; subst this
      simp only [if_true, List.lookup_cons]
      cases y == x <;> rfl
    | false =>
      simp only [Bool.false_eq_true, if_false, List.lookup_cons]
      cases hyz : y == z with
      | true =>
        have := eq_of_beq hyz; subst this
        have : (y == x) = false := by
          cases q : y == x with
          | false => rfl
          | true => rw [eq_of_beq q] at hxz; simp at hxz
        simp [this]
      | false => exact ih

/-- the frame's own object is a dict, no tuple -/
theorem ns_tk {mc : Str → Option Value} (hn : h.Ns L mc) (hs : Heap.SameBut L h h') : TK h h' := fun a cvs n e => by
  refine (hs.2 a fun q => ?_).trans e
  obtain ⟨o, es, ep, ho, hd, _⟩ := hn
  rw [q, ho] at e; cases e; cases hd
theorem Rel.store (R : Rel prog w g L m σ h) (offL : g.get? L = none) {mc : Str → Option Value} {x : Str} {v : V} {cv : Value} (hn : h.Ns L mc) (hv : ∀ y u, m.lookup y = some u → ∃ cu, mc y = some cu ∧ VR h cu u)
    (hn' : h'.Ns L fun y => if y = x then some cv else mc y) (hs : Heap.SameBut L h h') (r : VR h cv v) : Rel prog w g L (mset m x v) σ h' := by
  have tk := ns_tk hn hs
  refine ⟨⟨fun b o e => (hs.2 b fun q => ?_).trans (R.rh.keep b o e), R.rh.nd, fun p hp => ?_, R.rh.st, R.rh.low⟩, ⟨_, hn', fun y u e => ?_⟩, R.offS⟩
  · rw [q, offL] at e; cases e
  · obtain ⟨h1, o, h2, h3⟩ := R.rh.own p hp
    exact ⟨h1, o, (hs.2 _ (R.offS p hp)).trans h2, h3.mono _ _ tk⟩
  · rw [lookup_mset] at e
    by_cases q : y = x
    · subst q; simp at e; subst e; exact ⟨cv, by simp, r.mono tk⟩
    · rw [if_neg (by simpa using q)] at e
      obtain ⟨cu, a, b⟩ := hv y u e
      exact ⟨cu, by simp [q, a], b.mono tk⟩
end
end Mine

set_option Elab.async false
set_option linter.unusedVariables false
namespace Mine
open PySem PyProof.Rows

def AOk (k : Nat) (A : Around) : Prop := A.handled = none ∧ A.depth + k < recursionLimit ∧ A.units + 10 * k + 100 < cLine
theorem AOk.deeper {k : Nat} {A : Around} (h : AOk (k + 1) A) (env : Env) : AOk k (A.deeper env) := by
  obtain ⟨a, b, c⟩ := h
  refine ⟨a, ?_, ?_⟩
  · show A.depth + 1 + k < _; omega
  · show A.units + 3 + 10 * k + 100 < _; omega
theorem AOk.units {k : Nat} {A : Around} (h : AOk k A) : A.units < cLine := by have := h.2.2; omega
theorem AOk.room {k : Nat} {A : Around} (h : AOk k A) : A.depth < recursionLimit := by have := h.2.1; omega

section
variable (prog : Program) (w : World) (Bs : Heap)

/-- a tree's run, abstractly: from every heap that bears m and σ it ends well in Q; no exception -/
def Ev {α β : Type} (P : Heap → α → β → Prop) (k : Nat) (L : Addr) (t : Sem α) (m : Env') (σ : St) (Q : β → St → Prop) : Prop :=
  ∀ (A : Around) (g : Heap) (s : Shared) (Qc : α → Shared → Prop) (Ec : Value → Shared → Prop), AOk k A → (∀ b o, Bs.get? b = some o → g.get? b = some o) → Rel prog w g L m σ s.heap →
    (∀ c v σ' h' tk, Q v σ' → Rel prog w g L m σ' h' → P h' c v → TK s.heap h' → Qc c { s with heap := h', toks := tk }) →
    wpAny (model prog w) A t Qc Ec s
abbrev EvE (k : Nat) (env : Env) (e : Expr) (m : Env') (σ : St) (Q : V → St → Prop) : Prop := Ev prog w Bs VR k env.locals (eval e env) m σ Q
abbrev EqR {α : Type} : Heap → α → α → Prop := fun _ a b => a = b
abbrev EvB (k : Nat) (env : Env) (e : Expr) (m : Env') (σ : St) (Q : Bool → St → Prop) : Prop := Ev prog w Bs EqR k env.locals (isTrue e env (eval e env)) m σ Q
abbrev EvA (k : Nat) (env : Env) (pos : Pos) (es : List Expr) (m : Env') (σ : St) (Q : List V → St → Prop) : Prop := Ev prog w Bs VRs k env.locals (spliced (backTo pos (starEach es env))) m σ Q

inductive Fl where
  | next | brk | cont
  | ret (v : V)
inductive FR (h : Heap) : Flow → Fl → Prop
  | next : FR h .next .next
  | brk : FR h .brk .brk
  | cont : FR h .cont .cont
  | ret {c v} : VR h c v → FR h (.ret c) (.ret v)

def EvSt (k : Nat) (L : Addr) (t : Sem Flow) (m : Env') (σ : St) (Q : Fl → Env' → St → Prop) : Prop :=
  ∀ (A : Around) (g : Heap) (s : Shared) (Qc : Flow → Shared → Prop) (Ec : Value → Shared → Prop), AOk k A → (∀ b o, Bs.get? b = some o → g.get? b = some o) → g.get? L = none → Rel prog w g L m σ s.heap →
    (∀ c f m' σ' h' tk, Q f m' σ' → Rel prog w g L m' σ' h' → FR h' c f → TK s.heap h' → Qc c { s with heap := h', toks := tk }) →
    wpAny (model prog w) A t Qc Ec s
abbrev EvS (k : Nat) (env : Env) (ss : List Stmt) (m : Env') (σ : St) (Q : Fl → Env' → St → Prop) : Prop := EvSt prog w Bs k env.locals (execs ss env) m σ Q
abbrev EvX (k : Nat) (env : Env) (x : Stmt) (m : Env') (σ : St) (Q : Fl → Env' → St → Prop) : Prop := EvSt prog w Bs k env.locals (exec x env) m σ Q

end

section
variable {prog : Program} {w : World} {Bs : Heap} {k : Nat} {env : Env} {m : Env'} {σ : St}

theorem Ev.mono {α β : Type} {P : Heap → α → β → Prop} {L : Addr} {t : Sem α} {Q Q' : β → St → Prop} (h : Ev prog w Bs P k L t m σ Q) (q : ∀ v σ', Q v σ' → Q' v σ') : Ev prog w Bs P k L t m σ Q' :=
  fun A g s Qc Ec hA hB R hQ => h A g s Qc Ec hA hB R fun c v σ' h' tk hq => hQ c v σ' h' tk (q v σ' hq)
theorem EvSt.mono {L : Addr} {t : Sem Flow} {Q Q' : Fl → Env' → St → Prop} (h : EvSt prog w Bs k L t m σ Q) (q : ∀ f m' σ', Q f m' σ' → Q' f m' σ') : EvSt prog w Bs k L t m σ Q' :=
  fun A g s Qc Ec hA hB hL R hQ => h A g s Qc Ec hA hB hL R fun c v m' σ' h' tk hq => hQ c v m' σ' h' tk (q v m' σ' hq)
/-- forget objects ahead -/
theorem EvSt.sub {L : Addr} {t : Sem Flow} {Q : Fl → Env' → St → Prop} {σ' : St} (s : σ'.Sublist σ) (h : EvSt prog w Bs k L t m σ' Q) : EvSt prog w Bs k L t m σ Q :=
  fun A g s' Qc Ec hA hB hL R hQ => h A g s' Qc Ec hA hB hL (R.sub s) hQ
theorem EvSt.subP {L : Addr} {t : Sem Flow} {Q : Fl → Env' → St → Prop} {σ' : St} (s : SubP σ' σ) (h : EvSt prog w Bs k L t m σ' Q) : EvSt prog w Bs k L t m σ Q :=
  fun A g s' Qc Ec hA hB hL R hQ => h A g s' Qc Ec hA hB hL (R.subP s) hQ
theorem EvSt.weakEnv {L : Addr} {t : Sem Flow} {Q : Fl → Env' → St → Prop} {m' : Env'} (s : ∀ x v, m'.lookup x = some v → m.lookup x = some v) (h : EvSt prog w Bs k L t m' σ Q) : EvSt prog w Bs k L t m σ Q :=
  fun A g s' Qc Ec hA hB hL R hQ => h A g s' Qc Ec hA hB hL (R.env s) hQ

-- expressions: constants and names
theorem ev_int {i : Int} {kk : Nat} {pos : Pos} {Q : V → St → Prop} (h : Q (.int i) σ) : EvE prog w Bs k env (.Constant (.int i) kk pos) m σ Q :=
  fun _ _ s _ _ _ _ R hQ => wpAny_Constant_int (hQ _ _ σ s.heap _ h R (.int ..) (.refl _))
theorem ev_str {x : Str} {kk : Nat} {pos : Pos} {Q : V → St → Prop} (h : Q (.str x) σ) : EvE prog w Bs k env (.Constant (.str x) kk pos) m σ Q :=
  fun _ _ s _ _ _ _ R hQ => wpAny_Constant_str (hQ _ _ σ s.heap _ h R (.str ..) (.refl _))
theorem ev_none {kk : Nat} {pos : Pos} {Q : V → St → Prop} (h : Q .none σ) : EvE prog w Bs k env (.Constant .none kk pos) m σ Q :=
  fun _ _ s _ _ _ _ R hQ => wpAny_Constant_none (hQ _ _ σ s.heap s.toks h R .none (.refl _))
theorem ev_bool {b : Bool} {kk : Nat} {pos : Pos} {Q : V → St → Prop} (h : Q (.bool b) σ) : EvE prog w Bs k env (.Constant (.bool b) kk pos) m σ Q :=
  fun _ _ s _ _ _ _ R hQ => wpAny_Constant_bool (hQ _ _ σ s.heap s.toks h R (.bool _) (.refl _))
theorem ev_local {x : Str} {pos : Pos} {v : V} {Q : V → St → Prop} (hv : m.lookup x = some v) (h : Q v σ)
    (hk : env.scope.kind = .function := by rfl) (hx : env.kindOf x = some .local := by rfl) (hd : (x == ("__debug__" : Str)) = false := by decide) :
    EvE prog w Bs k env (.Name x pos) m σ Q := fun _ _ s _ _ _ _ R hQ => by
  obtain ⟨mc, hn, hm⟩ := R.ns
  obtain ⟨cv, e, r⟩ := hm x v hv
  exact wpAny_Name (wpAny_loadName_local hk hx hn e (hQ cv v σ s.heap s.toks h R r (.refl _))) hd
theorem ev_cell {x : Str} {pos : Pos} {c : Addr} {v : V} {Q : V → St → Prop} (hc : env.cells.lookup x = some c) (hm : (c, O.cell (some v)) ∈ σ) (h : Q v σ)
    (hk : env.scope.kind = .function := by rfl) (hx : env.kindOf x = some .cell := by rfl) (hd : (x == ("__debug__" : Str)) = false := by decide) :
    EvE prog w Bs k env (.Name x pos) m σ Q := fun _ _ s _ _ _ _ R hQ => by
  obtain ⟨_, o, ho, cv, hd', r⟩ := R.rh.own _ hm
  cases r with
  | some r => exact wpAny_Name (wpAny_loadName_cell hk hx hc ⟨o, ho, hd'⟩ (hQ _ v σ s.heap s.toks h R r (.refl _))) hd
theorem ev_global {x : Str} {pos : Pos} {mg : Str → Option Value} {cv : Value} {v : V} {Q : V → St → Prop} (hg : Bs.Ns env.globals mg) (hv : mg x = some cv) (hr : VR Bs cv v) (h : Q v σ)
    (hk : env.scope.kind = .function := by rfl) (hx : env.kindOf x = some .globalImplicit := by rfl) (hd : (x == ("__debug__" : Str)) = false := by decide) :
    EvE prog w Bs k env (.Name x pos) m σ Q := fun _ _ s _ _ _ hB R hQ => by
  have kp : ∀ b o, Bs.get? b = some o → s.heap.get? b = some o := fun b o e => R.rh.keep b o (hB b o e)
  exact Calls.Name_function_global hk hx (Calls.loadGlobal_global (hg.keeps kp) hv (hQ cv v σ s.heap s.toks h R (hr.mono (.of_keep kp)) (.refl _))) hd
theorem ev_builtin {x : Str} {pos : Pos} {mg mb : Str → Option Value} {cv : Value} {Q : V → St → Prop} (hg : Bs.Ns env.globals mg) (hm : mg x = none) (hb : Bs.Ns env.builtins mb) (hv : mb x = some cv) (h : Q (.raw cv) σ)
    (hk : env.scope.kind = .function := by rfl) (hx : env.kindOf x = some .globalImplicit := by rfl) (hd : (x == ("__debug__" : Str)) = false := by decide) :
    EvE prog w Bs k env (.Name x pos) m σ Q := fun _ _ s _ _ _ hB R hQ => by
  have kp : ∀ b o, Bs.get? b = some o → s.heap.get? b = some o := fun b o e => R.rh.keep b o (hB b o e)
  exact Calls.Name_function_global hk hx (Calls.loadGlobal_builtin (hg.keeps kp) hm (hb.keeps kp) hv (hQ cv _ σ s.heap s.toks h R (.raw _) (.refl _))) hd

-- two in a row
theorem Ev.two {α β γ δ : Type} {P : Heap → α → β → Prop} {P' : Heap → γ → δ → Prop} {L : Addr} {t : Sem α} {u : Sem γ} {Q : β → δ → St → Prop}
    (h : Ev prog w Bs P k L t m σ fun a σ1 => Ev prog w Bs P' k L u m σ1 fun b σ2 => Q a b σ2) (pm : ∀ {h h' c v}, TK h h' → P h c v → P h' c v)
    {A : Around} {g : Heap} {s : Shared} {Qc : α → γ → Shared → Prop} {Ec : Value → Shared → Prop} (hA : AOk k A) (hB : ∀ b o, Bs.get? b = some o → g.get? b = some o) (R : Rel prog w g L m σ s.heap)
    (hQ : ∀ c d a b σ' h' tk, Q a b σ' → Rel prog w g L m σ' h' → P h' c a → P' h' d b → TK s.heap h' → Qc c d { s with heap := h', toks := tk }) :
    wpAny (model prog w) A t (fun c s₁ => wpAny (model prog w) A u (fun d s₂ => Qc c d s₂) Ec s₁) Ec s :=
  h A g s _ _ hA hB R fun c a σ1 h1 tk1 h2 R1 r1 t1 => h2 A g _ _ _ hA hB R1 fun d b σ2 h3 tk2 hq R2 r2 t2 =>
    hQ c d a b σ2 h3 tk2 hq R2 (pm t2 r1) r2 (t1.trans t2)

inductive Bin : Operator → V → V → V → Prop
  | add (i j : Int) : Bin .Add (.int i) (.int j) (.int (i + j))
  | sub (i j : Int) : Bin .Sub (.int i) (.int j) (.int (i - j))
  | mul (i j : Int) (h : IntMulOk i j) : Bin .Mult (.int i) (.int j) (.int (i * j))
  | mod (i j : Int) (h : 0 < j) : Bin .Mod (.int i) (.int j) (.int (i % j))
  | div (i j : Int) (h : 0 < j) (h2 : j < 1073741824) : Bin .FloorDiv (.int i) (.int j) (.int (i / j))
  | cat (x y : Str) (h : x.length + y.length ≤ sizeLine) : Bin .Add (.str x) (.str y) (.str (x ++ y))
theorem bin_any {op : Operator} {a b c : V} (hb : Bin op a b c) {A : Around} {s : Shared} {ca cb : Value} {Qc Ec : Value → Shared → Prop} (ra : VR s.heap ca a) (rb : VR s.heap cb b)
    (hQ : ∀ cv tk, VR s.heap cv c → Qc cv { s with toks := tk }) : wpAny (model prog w) A (binaryOp op ca cb) Qc Ec s := by
  cases hb with
  | add i j => cases ra; cases rb; exact add_int (hQ _ _ (.int ..))
  | sub i j => cases ra; cases rb; exact sub_int (hQ _ _ (.int ..))
  | mul i j h => cases ra; cases rb; exact mul_int (hQ _ _ (.int ..)) h
  | mod i j h =>
    cases ra; cases rb
    refine mod_int (by omega) ?_
    rw [Int.fmod_eq_emod_of_nonneg _ (by omega)]
    exact hQ _ _ (.int ..)
  | div i j h h2 =>
    cases ra; cases rb
    refine floordiv_int (by omega) ?_ (.inl (PyProof.noPylong_small (by omega)))
    rw [Int.fdiv_eq_ediv_of_nonneg _ (by omega)]
    exact hQ _ _ (.int ..)
  | cat x y h =>
    cases ra; cases rb
    exact add_str (fun t' tk => hQ _ _ (.str ..)) h
theorem Rel.toks {g : Heap} {L : Addr} {h : Heap} (R : Rel prog w g L m σ h) : Rel prog w g L m σ h := R
theorem ev_binop {l r : Expr} {op : Operator} {pos : Pos} {Q : V → St → Prop}
    (h : EvE prog w Bs k env l m σ fun a σ1 => EvE prog w Bs k env r m σ1 fun b σ2 => ∃ c, Bin op a b c ∧ Q c σ2) :
    EvE prog w Bs k env (.BinOp l op r pos) m σ Q := fun A g s Qc Ec hA hB R hQ =>
  wpAny_BinOp (Ev.two (Qc := fun c d s₂ => wpAny (model prog w) A (binaryOp op c d) Qc Ec s₂) h (fun t r => r.mono t) hA hB R fun c d a b σ' h' tk ⟨v, hv, hq⟩ R' ra rb t =>
    bin_any hv (s := { s with heap := h', toks := tk }) ra rb fun cv tk' r => hQ cv v σ' h' tk' hq R' r t)
theorem ev_neg {x : Expr} {pos : Pos} {Q : V → St → Prop} (h : EvE prog w Bs k env x m σ fun a σ1 => ∃ i, a = .int i ∧ Q (.int (-i)) σ1) :
    EvE prog w Bs k env (.UnaryOp .USub x pos) m σ Q := fun A g s Qc Ec hA hB R hQ =>
  wpAny_UnaryOp (h A g s _ _ hA hB R fun c a σ1 h1 tk ⟨i, e, hq⟩ R1 r t => by
    subst e; cases r
    exact neg_int (hQ _ _ σ1 h1 _ hq R1 (.int ..) t))

inductive Cmp : CmpOp → V → V → Bool → Prop
  | eqI (i j : Int) : Cmp .Eq (.int i) (.int j) (decide (i = j))
  | neI (i j : Int) : Cmp .NotEq (.int i) (.int j) (!decide (i = j))
  | ltI (i j : Int) : Cmp .Lt (.int i) (.int j) (decide (i < j))
  | leI (i j : Int) : Cmp .LtE (.int i) (.int j) (decide (i ≤ j))
  | gtI (i j : Int) : Cmp .Gt (.int i) (.int j) (decide (j < i))
  | geI (i j : Int) : Cmp .GtE (.int i) (.int j) (decide (j ≤ i))
  | eqS (x y : Str) : Cmp .Eq (.str x) (.str y) (decide (x = y))
  | neS (x y : Str) : Cmp .NotEq (.str x) (.str y) (!decide (x = y))
  | eqB (x y : Bool) : Cmp .Eq (.bool x) (.bool y) (x == y)
  | neB (x y : Bool) : Cmp .NotEq (.bool x) (.bool y) (x != y)
  | isB (x y : Bool) : Cmp .Is (.bool x) (.bool y) (x == y)
  | isNotB (x y : Bool) : Cmp .IsNot (.bool x) (.bool y) (x != y)
  | isNN : Cmp .Is .none .none true
  | isNI (i : Int) : Cmp .Is (.int i) .none false
  | isNS (x : Str) : Cmp .Is (.str x) .none false
  | isNotNN : Cmp .IsNot .none .none false
  | isNotNI (i : Int) : Cmp .IsNot (.int i) .none true
  | isNotNS (x : Str) : Cmp .IsNot (.str x) .none true
  | isT (x y : String) : Cmp .Is (.raw (.type x)) (.raw (.type y)) (decide (x = y))
  | isNotT (x y : String) : Cmp .IsNot (.raw (.type x)) (.raw (.type y)) (!decide (x = y))
theorem type_beq (x y : String) : ((Value.type x) == (Value.type y)) = decide (x = y) := by
  by_cases h : x = y
  · subst h; simp
  · simp [h]
theorem cmp_any {op : CmpOp} {a b : V} {c : Bool} (hb : Cmp op a b c) {A : Around} {s : Shared} {ca cb : Value} {Qc Ec : Value → Shared → Prop} (ra : VR s.heap ca a) (rb : VR s.heap cb b)
    (hQ : Qc (.bool c) s) : wpAny (model prog w) A (compareOp op ca cb) Qc Ec s := by
  cases hb with
  | eqI i j => cases ra; cases rb; exact eq_int hQ
  | neI i j => cases ra; cases rb; exact ne_int hQ
  | ltI i j => cases ra; cases rb; exact lt_int hQ
  | leI i j => cases ra; cases rb; exact le_int hQ
  | gtI i j => cases ra; cases rb; exact gt_int hQ
  | geI i j => cases ra; cases rb; exact ge_int hQ
  | eqS x y => cases ra; cases rb; exact eq_str (by have : (x == y) = decide (x = y) := by by_cases h : x = y <;> simp [h]
                                                    rw [this]; exact hQ)
  | neS x y => cases ra; cases rb; exact ne_str (by have : (x != y) = !decide (x = y) := by by_cases h : x = y <;> simp [h]
                                                    rw [this]; exact hQ)
  | eqB x y => cases ra; cases rb; exact eq_bool hQ
  | neB x y => cases ra; cases rb; exact ne_bool hQ
  | isB x y => cases ra; cases rb; exact is_bool hQ
  | isNotB x y => cases ra; cases rb; exact isnot_bool hQ
  | isNN => cases ra; cases rb; exact is_none (by simpa using hQ)
  | isNI i => cases ra; cases rb; exact is_none hQ
  | isNS i => cases ra; cases rb; exact is_none hQ
  | isNotNN => cases ra; cases rb; exact isNot_none (by simpa using hQ)
  | isNotNI i => cases ra; cases rb; exact isNot_none hQ
  | isNotNS i => cases ra; cases rb; exact isNot_none hQ
  | isT x y => cases ra; cases rb; exact wpAny_is_plain rfl (by rw [type_beq]; exact hQ)
  | isNotT x y => cases ra; cases rb; exact wpAny_isNot_plain rfl (by rw [type_beq]; exact hQ)
theorem ev_cmp {l r : Expr} {op : CmpOp} {pos : Pos} {Q : V → St → Prop}
    (h : EvE prog w Bs k env l m σ fun a σ1 => EvE prog w Bs k env r m σ1 fun b σ2 => ∃ c, Cmp op a b c ∧ Q (.bool c) σ2) (hm : behindInMarks op r = false := by with_unfolding_all rfl) :
    EvE prog w Bs k env (.Compare l [op] [r] pos) m σ Q := fun A g s Qc Ec hA hB R hQ =>
  wpAny_Compare1 (Ev.two (Qc := fun c d s₂ => wpAny (model prog w) A (compareOp op c d) Qc Ec s₂) h (fun t r => r.mono t) hA hB R fun c d a b σ' h' tk ⟨v, hv, hq⟩ R' ra rb t =>
    cmp_any hv (s := { s with heap := h', toks := tk }) ra rb (hQ _ _ σ' h' tk hq R' (.bool _) t)) hm

-- truth
theorem evb_cmp {l r : Expr} {op : CmpOp} {pos : Pos} {Q : Bool → St → Prop}
    (h : EvE prog w Bs k env l m σ fun a σ1 => EvE prog w Bs k env r m σ1 fun b σ2 => ∃ c, Cmp op a b c ∧ Q c σ2) (hm : behindInMarks op r = false := by with_unfolding_all rfl) :
    EvB prog w Bs k env (.Compare l [op] [r] pos) m σ Q := fun A g s Qc Ec hA hB R hQ =>
  wpAny_isTrue_Compare1 (Ev.two (Qc := fun c d s₂ => wpAny (model prog w) A (compareOp op c d) (fun c s₃ => wpAny (model prog w) A (truthy c) Qc Ec s₃) Ec s₂) h (fun t r => r.mono t) hA hB R fun c d a b σ' h' tk ⟨v, hv, hq⟩ R' ra rb t =>
    cmp_any hv (s := { s with heap := h', toks := tk }) ra rb (wpAny_truthy_bool (hQ _ _ σ' h' tk hq R' rfl t))) hm
theorem evb_not {x : Expr} {pos : Pos} {Q : Bool → St → Prop} (h : EvB prog w Bs k env x m σ fun b σ1 => Q (!b) σ1) : EvB prog w Bs k env (.UnaryOp .Not x pos) m σ Q :=
  fun A g s Qc Ec hA hB R hQ => wpAny_isTrue_Not (h A g s _ _ hA hB R fun c b σ1 h1 tk hq R1 e t => hQ _ _ σ1 h1 tk hq R1 (by rw [show c = b from e]) t)
theorem ev_not {x : Expr} {pos : Pos} {Q : V → St → Prop} (h : EvE prog w Bs k env x m σ fun a σ1 => ∃ b, a = .bool b ∧ Q (.bool (!b)) σ1) : EvE prog w Bs k env (.UnaryOp .Not x pos) m σ Q :=
  fun A g s Qc Ec hA hB R hQ => wpAny_UnaryOp (h A g s _ _ hA hB R fun c a σ1 h1 tk ⟨b, e, hq⟩ R1 r t => by
    subst e; cases r
    exact not_value (wpAny_truthy_bool (hQ _ _ σ1 h1 tk hq R1 (.bool _) t)))
/-- a plain value as a test -/
inductive Tru : V → Bool → Prop
  | bool (b : Bool) : Tru (.bool b) b
  | none : Tru .none false
  | int (i : Int) : Tru (.int i) (i != 0)
theorem tru_any {a : V} {b : Bool} (hb : Tru a b) {A : Around} {s : Shared} {ca : Value} {Qc : Bool → Shared → Prop} {Ec : Value → Shared → Prop} (ra : VR s.heap ca a) (hQ : Qc b s) : wpAny (model prog w) A (truthy ca) Qc Ec s := by
  cases hb with
  | bool b => cases ra; exact wpAny_truthy_bool hQ
  | none => cases ra; exact fun _ _ _ => hQ
  | int i => cases ra; exact truthy_int hQ
theorem evb_val {e : Expr} {Q : Bool → St → Prop} (h : EvE prog w Bs k env e m σ fun a σ1 => ∃ b, Tru a b ∧ Q b σ1)
    (he : isTrue e env (eval e env) = (do let v ← eval e env; standAt e.pos; holding [v] (truthy v)) := by rfl) : EvB prog w Bs k env e m σ Q :=
  fun A g s Qc Ec hA hB R hQ => wpAny_isTrue_value (h A g s _ _ hA hB R fun c a σ1 h1 tk ⟨b, hb, hq⟩ R1 r t => tru_any hb (s := { s with heap := h1, toks := tk }) r (hQ _ _ σ1 h1 tk hq R1 rfl t)) he
theorem evb_and {es : List Expr} {pos : Pos} {Q : Bool → St → Prop} (h : Ev prog w Bs EqR k env.locals (allTrue .And es env) m σ Q) : EvB prog w Bs k env (.BoolOp .And es pos) m σ Q :=
  fun A g s Qc Ec hA hB R hQ => wpAny_isTrue_BoolOp (h A g s Qc Ec hA hB R hQ)
theorem evb_or {es : List Expr} {pos : Pos} {Q : Bool → St → Prop} (h : Ev prog w Bs EqR k env.locals (allTrue .Or es env) m σ Q) : EvB prog w Bs k env (.BoolOp .Or es pos) m σ Q :=
  fun A g s Qc Ec hA hB R hQ => wpAny_isTrue_BoolOp (h A g s Qc Ec hA hB R hQ)
theorem all_and_nil {Q : Bool → St → Prop} (h : Q true σ) : Ev prog w Bs EqR k env.locals (allTrue .And [] env) m σ Q :=
  fun A g s Qc Ec hA hB R hQ => wpAny_allTrue_And_nil (hQ _ _ σ s.heap s.toks h R rfl (.refl _))
theorem all_or_nil {Q : Bool → St → Prop} (h : Q false σ) : Ev prog w Bs EqR k env.locals (allTrue .Or [] env) m σ Q :=
  fun A g s Qc Ec hA hB R hQ => wpAny_allTrue_Or_nil (hQ _ _ σ s.heap s.toks h R rfl (.refl _))
theorem all_and_cons {x : Expr} {rest : List Expr} {Q : Bool → St → Prop} (h : EvB prog w Bs k env x m σ fun b σ1 => if b then Ev prog w Bs EqR k env.locals (allTrue .And rest env) m σ1 Q else Q false σ1) :
    Ev prog w Bs EqR k env.locals (allTrue .And (x :: rest) env) m σ Q :=
  fun A g s Qc Ec hA hB R hQ => wpAny_allTrue_And_cons (h A g s _ _ hA hB R fun c b σ1 h1 tk hq R1 e t => by
    subst e
    cases c with
    | true => exact hq A g _ _ _ hA hB R1 fun c v σ' h' tk hq R' p t' => hQ c v σ' h' tk hq R' p (t.trans t')
    | false => exact hQ _ _ σ1 h1 tk hq R1 rfl t)
theorem all_or_cons {x : Expr} {rest : List Expr} {Q : Bool → St → Prop} (h : EvB prog w Bs k env x m σ fun b σ1 => if b then Q true σ1 else Ev prog w Bs EqR k env.locals (allTrue .Or rest env) m σ1 Q) :
    Ev prog w Bs EqR k env.locals (allTrue .Or (x :: rest) env) m σ Q :=
  fun A g s Qc Ec hA hB R hQ => wpAny_allTrue_Or_cons (h A g s _ _ hA hB R fun c b σ1 h1 tk hq R1 e t => by
    subst e
    cases c with
    | false => exact hq A g _ _ _ hA hB R1 fun c v σ' h' tk hq R' p t' => hQ c v σ' h' tk hq R' p (t.trans t')
    | true => exact hQ _ _ σ1 h1 tk hq R1 rfl t)
theorem ev_ifexp {test body orelse : Expr} {pos : Pos} {Q : V → St → Prop} (h : EvB prog w Bs k env test m σ fun b σ1 => if b then EvE prog w Bs k env body m σ1 Q else EvE prog w Bs k env orelse m σ1 Q) :
    EvE prog w Bs k env (.IfExp test body orelse pos) m σ Q :=
  fun A g s Qc Ec hA hB R hQ => wpAny_IfExp (h A g s _ _ hA hB R fun c b σ1 h1 tk hq R1 e t => by
    subst e
    cases c with
    | true => exact hq A g _ _ _ hA hB R1 fun c v σ' h' tk hq R' p t' => hQ c v σ' h' tk hq R' p (t.trans t')
    | false => exact hq A g _ _ _ hA hB R1 fun c v σ' h' tk hq R' p t' => hQ c v σ' h' tk hq R' p (t.trans t'))

-- statements
theorem evs_nil {Q : Fl → Env' → St → Prop} (h : Q .next m σ) : EvS prog w Bs k env [] m σ Q :=
  fun A g s Qc Ec hA hB hL R hQ => wpAny_execs_nil (hQ _ _ m σ s.heap s.toks h R .next (.refl _))
theorem evs_cons {st : Stmt} {rest : List Stmt} {Q : Fl → Env' → St → Prop}
    (h : EvX prog w Bs k env st m σ fun f m1 σ1 => match f with | .next => EvS prog w Bs k env rest m1 σ1 Q | f => Q f m1 σ1) : EvS prog w Bs k env (st :: rest) m σ Q :=
  fun A g s Qc Ec hA hB hL R hQ => wpAny_execs_cons (h A g s _ _ hA hB hL R fun c f m1 σ1 h1 tk hq R1 e t => by
    cases e with
    | next => exact hq A g _ _ _ hA hB hL R1 fun c v m' σ' h' tk hq R' p t' => hQ c v m' σ' h' tk hq R' p (t.trans t')
    | brk => exact hQ _ _ m1 σ1 h1 tk hq R1 .brk t
    | cont => exact hQ _ _ m1 σ1 h1 tk hq R1 .cont t
    | ret r => exact hQ _ _ m1 σ1 h1 tk hq R1 (.ret r) t)
theorem evx_if {test : Expr} {body orelse : List Stmt} {pos : Pos} {Q : Fl → Env' → St → Prop}
    (h : EvB prog w Bs k env test m σ fun b σ1 => if b then EvS prog w Bs k env body m σ1 Q else EvS prog w Bs k env orelse m σ1 Q) : EvX prog w Bs k env (.If test body orelse pos) m σ Q :=
  fun A g s Qc Ec hA hB hL R hQ => wpAny_If (h A g s _ _ hA hB R fun c b σ1 h1 tk hq R1 e t => by
    subst e
    cases c with
    | true => exact hq A g _ _ _ hA hB hL R1 fun c v m' σ' h' tk hq R' p t' => hQ c v m' σ' h' tk hq R' p (t.trans t')
    | false => exact hq A g _ _ _ hA hB hL R1 fun c v m' σ' h' tk hq R' p t' => hQ c v m' σ' h' tk hq R' p (t.trans t'))
theorem evx_ret {e : Expr} {pos : Pos} {Q : Fl → Env' → St → Prop} (h : EvE prog w Bs k env e m σ fun v σ1 => Q (.ret v) m σ1) : EvX prog w Bs k env (.Return (some e) pos) m σ Q :=
  fun A g s Qc Ec hA hB hL R hQ => wpAny_Return_some (h A g s _ _ hA hB R fun c b σ1 h1 tk hq R1 e t => hQ _ _ m σ1 h1 tk hq R1 (.ret e) t)
theorem evx_ret0 {pos : Pos} {Q : Fl → Env' → St → Prop} (h : Q (.ret .none) m σ) : EvX prog w Bs k env (.Return none pos) m σ Q :=
  fun A g s Qc Ec hA hB hL R hQ => wpAny_Return_none (hQ _ _ m σ s.heap s.toks h R (.ret .none) (.refl _))
theorem evx_pass {pos : Pos} {Q : Fl → Env' → St → Prop} (h : Q .next m σ) : EvX prog w Bs k env (.Pass pos) m σ Q :=
  fun A g s Qc Ec hA hB hL R hQ => wpAny_Pass (hQ _ _ m σ s.heap s.toks h R .next (.refl _))
theorem evx_break {pos : Pos} {Q : Fl → Env' → St → Prop} (h : Q .brk m σ) : EvX prog w Bs k env (.Break pos) m σ Q :=
  fun A g s Qc Ec hA hB hL R hQ => wpAny_Break (hQ _ _ m σ s.heap s.toks h R .brk (.refl _))
theorem evx_continue {pos : Pos} {Q : Fl → Env' → St → Prop} (h : Q .cont m σ) : EvX prog w Bs k env (.Continue pos) m σ Q :=
  fun A g s Qc Ec hA hB hL R hQ => wpAny_Continue (hQ _ _ m σ s.heap s.toks h R .cont (.refl _))
/-- a value that is no object -/
inductive NoRef : V → Prop
  | none : NoRef .none
  | bool (b) : NoRef (.bool b)
  | int (i) : NoRef (.int i)
  | str (x) : NoRef (.str x)
theorem evx_expr {e : Expr} {pos : Pos} {Q : Fl → Env' → St → Prop} (h : EvE prog w Bs k env e m σ fun v σ1 => NoRef v ∧ Q .next m σ1)
    (hi : interactive env = false := by rfl) (hs : swapsWith e none pos.line env = pure false := by rfl) : EvX prog w Bs k env (.Expr e pos) m σ Q :=
  fun A g s Qc Ec hA hB hL R hQ => wpAny_Expr (h A g s _ _ hA hB R fun c b σ1 h1 tk ⟨hn, hq⟩ R1 r t => by
    have := hQ .next .next m σ1 h1 tk hq R1 .next t
    cases hn <;> cases r <;> exact this) hi hs
/-- storing a name of the frame -/
theorem store_any {x : Str} {v : V} {cv : Value} {A : Around} {g : Heap} {s : Shared} {Qc : Unit → Shared → Prop} {Ec : Value → Shared → Prop} (R : Rel prog w g env.locals m σ s.heap) (hL : g.get? env.locals = none) (r : VR s.heap cv v)
    (hl : env.kindOf x = some .local) (hk : env.scope.kind = .function) (hQ : ∀ h' tk, Rel prog w g env.locals (mset m x v) σ h' → TK s.heap h' → Qc () { s with heap := h', toks := tk }) :
    wpAny (model prog w) A (storeName env x cv) Qc Ec s := by
  obtain ⟨mc, hn, hm⟩ := R.ns
  exact wpAny_storeName_local hl hn (fun h' hn' hs => hQ h' _ (R.store hL hn hm hn' hs r) (ns_tk hn hs)) (by rw [hk]; rfl)
theorem evx_assign {x : Str} {xp pos : Pos} {value : Expr} {Q : Fl → Env' → St → Prop} (h : EvE prog w Bs k env value m σ fun v σ1 => Q .next (mset m x v) σ1)
    (hs : swapsWith value (some (.Name x xp)) pos.line env = pure false := by rfl) (hl : env.kindOf x = some .local := by rfl) (hk : env.scope.kind = .function := by rfl) :
    EvX prog w Bs k env (.Assign [.Name x xp] value pos) m σ Q :=
  fun A g s Qc Ec hA hB hL R hQ => wpAny_Assign_Name (h A g s _ _ hA hB R fun c v σ1 h1 tk hq R1 r t =>
    store_any (s := { s with heap := h1, toks := tk }) R1 hL r hl hk fun h' tk' R' t' => hQ _ _ _ σ1 h' tk' hq R' .next (t.trans t')) hs
theorem cell_tk {h h' : Heap} {a : Addr} {o : Obj} {cv : Option Value} (ho : h.get? a = some o) (hd : o.data = .cell cv) (hs : Heap.SameBut a h h') : TK h h' := fun b cvs n e => by
  refine (hs.2 b fun q => ?_).trans e
  rw [q, ho] at e; cases e; cases hd
theorem store_cell_any {x : Str} {v : V} {ov : Option V} {cv : Value} {c : Addr} {σ' : St} {A : Around} {g : Heap} {s : Shared} {Qc : Unit → Shared → Prop} {Ec : Value → Shared → Prop} (R : Rel prog w g env.locals m σ s.heap) (r : VR s.heap cv v)
    (hc : env.cells.lookup x = some c) (u : Up c (.cell ov) (.cell (some v)) σ σ') (hl : env.kindOf x = some .cell) (hk : env.scope.kind = .function)
    (hQ : ∀ h' tk, Rel prog w g env.locals m σ' h' → TK s.heap h' → Qc () { s with heap := h', toks := tk }) :
    wpAny (model prog w) A (storeName env x cv) Qc Ec s := by
  obtain ⟨_, o, ho, cv₀, hd, _⟩ := R.rh.own _ u.mem
  refine wpAny_storeName_cell hk hl hc ⟨o, ho, hd⟩ fun h' hv hs => ?_
  obtain ⟨o', ho', hd'⟩ := hv
  have tk := cell_tk ho hd hs
  exact hQ h' s.toks (R.upd u hs tk ho' ⟨_, hd', .some (r.mono tk)⟩) tk
theorem evx_assign_cell {x : Str} {xp pos : Pos} {value : Expr} {c : Addr} {Q : Fl → Env' → St → Prop} (hc : env.cells.lookup x = some c)
    (h : EvE prog w Bs k env value m σ fun v σ1 => ∃ ov σ2, Up c (.cell ov) (.cell (some v)) σ1 σ2 ∧ Q .next m σ2)
    (hs : swapsWith value (some (.Name x xp)) pos.line env = pure false := by rfl) (hl : env.kindOf x = some .cell := by rfl) (hk : env.scope.kind = .function := by rfl) :
    EvX prog w Bs k env (.Assign [.Name x xp] value pos) m σ Q :=
  fun A g s Qc Ec hA hB hL R hQ => wpAny_Assign_Name (h A g s _ _ hA hB R fun cv v σ1 h1 tk ⟨ov, σ2, u, hq⟩ R1 r t =>
    store_cell_any (s := { s with heap := h1, toks := tk }) R1 r hc u hl hk fun h' tk' R' t' => hQ _ _ _ σ2 h' tk' hq R' .next (t.trans t')) hs
end
end Mine

set_option Elab.async false
set_option linter.unusedVariables false
namespace Mine
open PySem PyProof.Rows PySem.Calls

/-- the heap without some places -/
def mask (h : Heap) (S : List Addr) : Heap := ⟨h.objs.mapIdx fun i o => if S.contains i then { o with data := .freed } else o, h.life⟩
theorem mask_in {h : Heap} {S : List Addr} {b : Addr} (hb : b ∈ S) : (mask h S).get? b = none := by
  unfold Heap.get? mask
  simp only [Array.getElem?_mapIdx]
  have : S.contains b = true := by simpa using hb
  cases h.objs[b]? with
  | none => rfl
  | some o => simp only [Option.map_some, this, if_true]
theorem mask_out {h : Heap} {S : List Addr} {b : Addr} (hb : b ∉ S) : (mask h S).get? b = h.get? b := by
  unfold Heap.get? mask
  simp only [Array.getElem?_mapIdx]
  have : S.contains b = false := by simpa using hb
  cases h.objs[b]? with
  | none => rfl
  | some o => simp only [Option.map_some, this, Bool.false_eq_true, if_false]
theorem mask_sub {h : Heap} {S : List Addr} {b : Addr} {o : Obj} (e : (mask h S).get? b = some o) : h.get? b = some o := by
  by_cases hb : b ∈ S
  · rw [mask_in hb] at e; cases e
  · rwa [mask_out hb] at e

section
variable {prog : Program} {w : World} {Bs : Heap} {k : Nat} {env : Env} {m : Env'} {σ σ₁ σ₂ : St} {g h h' : Heap} {L : Addr}

/-- all but the ledger is kept -/
theorem RH.le_mask (R : RH prog w g σ h) : ∀ b o, g.get? b = some o → (mask h (σ.map (·.1))).get? b = some o := fun b o e => by
  rw [mask_out]
  · exact R.keep b o e
  · intro hm
    obtain ⟨p, hp, q⟩ := List.mem_map.mp hm
    have := (R.own p hp).1
    rw [q, e] at this; cases this
theorem RH.masked (R : RH prog w g σ h) : RH prog w (mask h (σ.map (·.1))) σ h :=
  ⟨fun b o e => mask_sub e, R.nd, fun p hp => ⟨mask_in (List.mem_map_of_mem hp), (R.own p hp).2⟩, let ⟨o, e⟩ := R.st; ⟨o, R.le_mask _ _ e⟩, R.low⟩
theorem RH.less {g' : Heap} (R : RH prog w g' σ h) (st : ∃ o, g.get? cStatics = some o) (le : ∀ b o, g.get? b = some o → g'.get? b = some o) : RH prog w g σ h :=
  ⟨fun b o e => R.keep b o (le b o e), R.nd, fun p hp => by
    refine ⟨?_, (R.own p hp).2⟩
    cases q : g.get? p.1 with
    | none => rfl
    | some o => have := (R.own p hp).1; rw [le _ _ q] at this; (cases this), st, R.low⟩
theorem Rel.less {g' : Heap} (R : Rel prog w g' L m σ h) (st : ∃ o, g.get? cStatics = some o) (le : ∀ b o, g.get? b = some o → g'.get? b = some o) : Rel prog w g L m σ h := ⟨R.rh.less st le, R.ns, R.offS⟩
theorem Rel.le_mask (R : Rel prog w g L m σ h) (hL : g.get? L = none) : ∀ b o, g.get? b = some o → (mask h (L :: σ.map (·.1))).get? b = some o := fun b o e => by
  rw [mask_out]
  · exact R.rh.keep b o e
  · intro hm
    rcases List.mem_cons.mp hm with rfl | hm
    · rw [hL] at e; cases e
    · obtain ⟨p, hp, q⟩ := List.mem_map.mp hm
      have := (R.rh.own p hp).1
      rw [q, e] at this; cases this

theorem Rel.masked (R : Rel prog w g L m σ h) (hL : g.get? L = none) : Rel prog w (mask h (L :: σ.map (·.1))) L m σ h :=
  ⟨⟨fun b o e => mask_sub e, R.rh.nd, fun p hp => ⟨mask_in (.tail _ (List.mem_map_of_mem hp)), (R.rh.own p hp).2⟩, let ⟨o, e⟩ := R.rh.st; ⟨o, R.le_mask hL _ _ e⟩, R.rh.low⟩, R.ns, R.offS⟩

theorem Rel.lt (R : Rel prog w g L m σ h) : ∃ o, h.get? L = some o := let ⟨_, ⟨o, _, _, ho, _⟩, _⟩ := R.ns; ⟨o, ho⟩

/-- objects off the ledger, laid by: the frame rule's two halves -/
theorem RH.split (R : RH prog w g (σ₁ ++ σ₂) h) : RH prog w (mask h (σ₂.map (·.1))) σ₂ h := (R.sub (List.sublist_append_right σ₁ σ₂)).masked
theorem RH.glue {S : List Addr} {σ' : St} (R : RH prog w g (σ₁ ++ σ₂) h) (R' : RH prog w (mask h (σ₂.map (·.1))) σ' h') (tk : TK h h') : RH prog w g (σ₁ ++ σ') h' := by
  have le : ∀ b o, g.get? b = some o → (mask h (σ₂.map (·.1))).get? b = some o := (R.sub (List.sublist_append_right σ₁ σ₂)).le_mask
  have R'' := R'.less R.st le
  have inm : ∀ p ∈ σ₁, ∃ o, (mask h (σ₂.map (·.1))).get? p.1 = some o ∧ OR prog w h o p.2 := fun p hp => by
    obtain ⟨_, o, ho, r⟩ := R.own p (List.mem_append_left _ hp)
    refine ⟨o, ?_, r⟩
    rw [mask_out]; exact ho
    intro hm
    have nd := R.nd
    rw [List.map_append] at nd
    exact (List.nodup_append.mp nd).2.2 _ (List.mem_map_of_mem hp) _ hm rfl
  refine ⟨R''.keep, ?_, fun p hp => ?_, R.st, fun p hp => ?_⟩
  · rw [List.map_append]
    refine List.nodup_append.mpr ⟨(R.sub (List.sublist_append_left σ₁ σ₂)).nd, R'.nd, fun a ha b hb e => ?_⟩
    obtain ⟨p, hp, rfl⟩ := List.mem_map.mp ha
    obtain ⟨q, hq, rfl⟩ := List.mem_map.mp hb
    obtain ⟨o, ho, _⟩ := inm p hp
    have := (R'.own q hq).1
    rw [← e, ho] at this; cases this
  · rcases List.mem_append.mp hp with hp | hp
    · obtain ⟨o, ho, r⟩ := inm p hp
      refine ⟨(R.own p (List.mem_append_left _ hp)).1, o, R'.keep _ _ ho, r.mono _ _ tk⟩
    · exact R''.own p hp
  · rcases List.mem_append.mp hp with hp | hp
    · exact R.low p (List.mem_append_left _ hp)
    · exact R'.low p hp

-- calls of the text's own functions
variable (prog w Bs) in
def EvF (k : Nat) (f : Value) (vs : List V) (σ : St) (Q : V → St → Prop) : Prop :=
  ∀ (A : Around) (g : Heap) (s : Shared) (Qc Ec : Value → Shared → Prop) (cvs : List Value), AOk k A → (∀ b o, Bs.get? b = some o → g.get? b = some o) → RH prog w g σ s.heap → VRs s.heap cvs vs →
    (∀ cv v σ' h' tk, Q v σ' → RH prog w g σ' h' → VR h' cv v → TK s.heap h' → Qc cv { s with heap := h', toks := tk }) →
    wpAny (model prog w) A (call f cvs) Qc Ec s
theorem EvF.mono {f : Value} {vs : List V} {Q Q' : V → St → Prop} (h : EvF prog w Bs k f vs σ Q) (q : ∀ v σ', Q v σ' → Q' v σ') : EvF prog w Bs k f vs σ Q' :=
  fun A g s Qc Ec cvs hA hB R r hQ => h A g s Qc Ec cvs hA hB R r fun cv v σ' h' tk hq => hQ cv v σ' h' tk (q v σ' hq)
theorem EvF.perm {f : Value} {vs : List V} {Q : V → St → Prop} {σ' : St} (p : σ'.Perm σ) (h : EvF prog w Bs k f vs σ' Q) : EvF prog w Bs k f vs σ Q :=
  fun A g s Qc Ec cvs hA hB R r hQ => h A g s Qc Ec cvs hA hB (R.perm p) r hQ
theorem EvF.subP {f : Value} {vs : List V} {Q : V → St → Prop} {σ' : St} (p : SubP σ' σ) (h : EvF prog w Bs k f vs σ' Q) : EvF prog w Bs k f vs σ Q :=
  fun A g s Qc Ec cvs hA hB R r hQ => h A g s Qc Ec cvs hA hB (R.subP p) r hQ
theorem EvF.frame {f : Value} {vs : List V} {Q : V → St → Prop} (h : EvF prog w Bs k f vs σ₂ fun v σ' => Q v (σ₁ ++ σ')) : EvF prog w Bs k f vs (σ₁ ++ σ₂) Q :=
  fun A g s Qc Ec cvs hA hB R r hQ => h A _ s Qc Ec cvs hA (fun b o e => (R.sub (List.sublist_append_right σ₁ σ₂)).le_mask b o (hB b o e)) R.split r
    fun cv v σ' h' tk hq R' rv t => hQ cv v _ h' tk hq (RH.glue (S := []) R R' t) rv t

def retOf : Fl → V
  | .ret v => v
  | _ => .none
theorem Rel.leave (R : Rel prog w g L m σ h) {σ' : St} (R' : RH prog w (mask h (σ.map (·.1))) σ' h') (tk : TK h h') : Rel prog w g L m σ' h' := by
  obtain ⟨mc, hn, hv⟩ := R.ns
  have hLm : ∀ o, h.get? L = some o → (mask h (σ.map (·.1))).get? L = some o := fun o e => by
    rw [mask_out]; exact e
    intro hm
    obtain ⟨p, hp, q⟩ := List.mem_map.mp hm
    exact R.offS p hp q
  refine ⟨R'.less R.rh.st R.rh.le_mask, ⟨mc, ?_, fun x v e => let ⟨cv, a, b⟩ := hv x v e; ⟨cv, a, b.mono tk⟩⟩, fun p hp e => ?_⟩
  · obtain ⟨o, es, ep, ho, r⟩ := hn
    exact ⟨o, es, ep, R'.keep _ _ (hLm o ho), r⟩
  · obtain ⟨o, ho⟩ := R.lt
    have := (R'.own p hp).1
    rw [e, hLm o ho] at this; cases this
/-- a tree that is a call -/
theorem callf_any {f : Value} {vs : List V} {cvs : List Value} {Q : V → St → Prop} (h : EvF prog w Bs k f vs σ Q) {A : Around} {s : Shared} {Qc Ec : Value → Shared → Prop} (hA : AOk k A) (hB : ∀ b o, Bs.get? b = some o → g.get? b = some o)
    (R : Rel prog w g L m σ s.heap) (r : VRs s.heap cvs vs) (hQ : ∀ cv v σ' h' tk, Q v σ' → Rel prog w g L m σ' h' → VR h' cv v → TK s.heap h' → Qc cv { s with heap := h', toks := tk }) :
    wpAny (model prog w) A (call f cvs) Qc Ec s :=
  h A _ s Qc Ec cvs hA (fun b o e => R.rh.le_mask b o (hB b o e)) R.rh.masked r fun cv v σ' h' tk hq R' rv t => hQ cv v σ' h' tk hq (R.leave R' t) rv t

theorem eva_nil {pos : Pos} {Q : List V → St → Prop} (h : Q [] σ) : EvA prog w Bs k env pos [] m σ Q :=
  fun A g s Qc Ec hA hB R hQ => args_nil (hQ _ _ σ s.heap s.toks h R .nil (.refl _))
theorem eva_cons {pos : Pos} {e : Expr} {rest : List Expr} {Q : List V → St → Prop} (h : EvE prog w Bs k env e m σ fun v σ1 => EvA prog w Bs k env pos rest m σ1 fun vs σ2 => Q (v :: vs) σ2)
    (he : starEach (e :: rest) env = (false, eval e env) :: starEach rest env := by rfl) : EvA prog w Bs k env pos (e :: rest) m σ Q :=
  fun A g s Qc Ec hA hB R hQ => args_cons (Ev.two (Qc := fun c d s₂ => Qc (c :: d) s₂) h (fun t r => r.mono t) hA hB R fun c d a b σ' h' tk hq R' ra rb t => hQ _ _ σ' h' tk hq R' (.cons ra rb) t) he
theorem ev_call {fn : Str} {p pos : Pos} {e : Expr} {rest : List Expr} {f : Addr} {fo : Obj} {fd : FuncData} {Q : V → St → Prop} (hf : Bs.get? f = some fo) (hd : fo.data = .func fd)
    (h : EvE prog w Bs k env (.Name fn p) m σ fun v σ0 => v = .raw (.ref f) ∧ EvA prog w Bs k env pos (e :: rest) m σ0 fun vs σ1 => EvF prog w Bs k (.ref f) vs σ1 Q)
    (he : starEach (e :: rest) env = (false, eval e env) :: starEach rest env := by rfl) :
    EvE prog w Bs k env (.Call (.Name fn p) (e :: rest) [] pos) m σ Q := fun A g s Qc Ec hA hB R hQ =>
  Call_ (h A g s _ _ hA hB R fun c v σ0 h0 tk0 ⟨ev, ha⟩ R0 r0 t0 => by
    subst ev; cases r0
    exact callWith_def hd (ha A g _ _ _ hA hB R0 fun cvs vs σ1 h1 tk1 hq R1 rs t1 =>
      ⟨R1.rh.keep _ _ (hB _ _ hf), callf_any (s := { s with heap := h1, toks := tk1 }) hq hA hB R1 rs fun cv v σ' h' tk hq' R' rv t => hQ cv v σ' h' tk hq' R' rv (t0.trans (t1.trans t))⟩) he)
theorem ev_call0 {fn : Str} {p pos : Pos} {f : Addr} {fo : Obj} {fd : FuncData} {Q : V → St → Prop} (hf : Bs.get? f = some fo) (hd : fo.data = .func fd)
    (h : EvE prog w Bs k env (.Name fn p) m σ fun v σ0 => v = .raw (.ref f) ∧ EvF prog w Bs k (.ref f) [] σ0 Q) :
    EvE prog w Bs k env (.Call (.Name fn p) [] [] pos) m σ Q := fun A g s Qc Ec hA hB R hQ =>
  Call_ (h A g s _ _ hA hB R fun c v σ0 h0 tk0 ⟨ev, ha⟩ R0 r0 t0 => by
    subst ev; cases r0
    exact callWith_function (o := fo) (fd := fd) (evalArgs_nil3 ⟨⟨R0.rh.keep _ _ (hB _ _ hf), hd⟩, callf_any (s := { s with heap := h0, toks := tk0 }) ha hA hB R0 .nil fun cv v σ' h' tk hq' R' rv t => hQ cv v σ' h' tk hq' R' rv (t0.trans t)⟩))
-- built-in functions and types by name
theorem ev_callb {fn : Str} {p pos : Pos} {e : Expr} {rest : List Expr} {id : String} {Q : V → St → Prop}
    (h : EvE prog w Bs k env (.Name fn p) m σ fun v σ0 => v = .raw (.builtin id) ∧ EvA prog w Bs k env pos (e :: rest) m σ0 fun vs σ1 => EvF prog w Bs k (.builtin id) vs σ1 Q)
    (he : starEach (e :: rest) env = (false, eval e env) :: starEach rest env := by rfl) (hp : (backTo pos (starEach rest env)).any (·.1) = false := by rfl) :
    EvE prog w Bs k env (.Call (.Name fn p) (e :: rest) [] pos) m σ Q := fun A g s Qc Ec hA hB R hQ =>
  Call_ (h A g s _ _ hA hB R fun c v σ0 h0 tk0 ⟨ev, ha⟩ R0 r0 t0 => by
    subst ev; cases r0
    exact callWith_builtin1 (ha A g _ _ _ hA hB R0 fun cvs vs σ1 h1 tk1 hq R1 rs t1 =>
      callf_any (s := { s with heap := h1, toks := tk1 }) hq hA hB R1 rs fun cv v σ' h' tk hq' R' rv t => hQ cv v σ' h' tk hq' R' rv (t0.trans (t1.trans t))) he hp)
theorem ev_callt {fn : Str} {p pos : Pos} {e : Expr} {rest : List Expr} {T : String} {Q : V → St → Prop}
    (h : EvE prog w Bs k env (.Name fn p) m σ fun v σ0 => v = .raw (.type T) ∧ EvA prog w Bs k env pos (e :: rest) m σ0 fun vs σ1 => EvF prog w Bs k (.type T) vs σ1 Q)
    (he : starEach (e :: rest) env = (false, eval e env) :: starEach rest env := by rfl) (hp : (backTo pos (starEach rest env)).any (·.1) = false := by rfl) :
    EvE prog w Bs k env (.Call (.Name fn p) (e :: rest) [] pos) m σ Q := fun A g s Qc Ec hA hB R hQ =>
  Call_ (h A g s _ _ hA hB R fun c v σ0 h0 tk0 ⟨ev, ha⟩ R0 r0 t0 => by
    subst ev; cases r0
    exact PyProof.Rows.callWith_type1 (ha A g _ _ _ hA hB R0 fun cvs vs σ1 h1 tk1 hq R1 rs t1 =>
      callf_any (s := { s with heap := h1, toks := tk1 }) hq hA hB R1 rs fun cv v σ' h' tk hq' R' rv t => hQ cv v σ' h' tk hq' R' rv (t0.trans (t1.trans t))) he hp)
end
end Mine

set_option Elab.async false
set_option linter.unusedVariables false
namespace Mine
open PySem PyProof.Rows

def locs (fd : FuncData) (ps : List Str) (vs : List V) : Env' := (ps.zip vs).filter fun p => fd.scope.names.lookup p.1 == some .local
def cellsσ (fd : FuncData) (L : Addr) (ps : List Str) (vs : List V) : St := (cellsFrom (L + 1) fd.scope.names []).map fun nc => (nc.2, O.cell ((ps.zip vs).lookup nc.1))

theorem lookup_none_of_not_mem {α : Type} : ∀ {l : List (Str × α)} {x : Str}, x ∉ l.map (·.1) → l.lookup x = none
  | [], _, _ => rfl
  | (y, v) :: r, x, h => by
    rw [List.lookup_cons]
    have h1 : x ≠ y := fun e => h (by rw [e]; exact .head _)
    have : (x == y) = false := by simpa using h1
    rw [this]
    exact lookup_none_of_not_mem fun hm => h (.tail _ hm)
theorem lookup_mem_nodup {α : Type} : ∀ {l : List (Str × α)} {x : Str} {v : α}, (l.map (·.1)).Nodup → (x, v) ∈ l → l.lookup x = some v
  | (y, u) :: r, x, v, nd, h => by
    rw [List.lookup_cons]
    rcases List.mem_cons.mp h with e | h
    · cases e; simp
    · have : x ≠ y := fun e => (List.nodup_cons.mp nd).1 (by rw [← e]; exact List.mem_map_of_mem (f := (·.1)) h)
      have : (x == y) = false := by simpa using this
      rw [this]
      exact lookup_mem_nodup (List.nodup_cons.mp nd).2 h
theorem cellsFrom_nodup : ∀ (names : List (Str × NameKind)) (n : Nat) (acc : List (Str × Addr)), (names.map (·.1) ++ acc.map (·.1)).Nodup → ((cellsFrom n names acc).map (·.1)).Nodup
  | [], _, acc, h => by simpa [cellsFrom] using h
  | (x, kd) :: r, n, acc, h => by
    unfold cellsFrom
    split
    · refine cellsFrom_nodup r _ _ ?_
      have : List.Perm (r.map (·.1) ++ ((x, n) :: acc).map (·.1)) (((x, kd) :: r).map (·.1) ++ acc.map (·.1)) := by
        simp only [List.map_cons, List.cons_append]
        exact List.perm_middle
      exact this.nodup_iff.mpr h
    · refine cellsFrom_nodup r _ _ ?_
      simp only [List.map_cons, List.cons_append] at h
      exact (List.nodup_cons.mp h).2

section
variable {h : Heap} {kindOf : Str → Option NameKind}
theorem bindL_out : ∀ {ps : List Str} {cvs : List Value} {mc : Str → Option Value} {x : Str}, x ∉ ps → bindL kindOf (ps.zip cvs) mc x = mc x
  | [], _, _, _, _ => rfl
  | p :: ps, [], _, _, _ => rfl
  | p :: ps, c :: cvs, mc, x, hx => by
    show bindL kindOf (ps.zip cvs) _ x = _
    rw [bindL_out fun hm => hx (.tail _ hm)]
    split
    · show (if x = p then some c else mc x) = mc x
      exact if_neg fun e => hx (by rw [e]; exact .head _)
    · rfl
theorem bindC_out : ∀ {ps : List Str} {cvs : List Value} {mc : Str → Option Value} {x : Str}, x ∉ ps → bindC kindOf (ps.zip cvs) mc x = mc x
  | [], _, _, _, _ => rfl
  | p :: ps, [], _, _, _ => rfl
  | p :: ps, c :: cvs, mc, x, hx => by
    show bindC kindOf (ps.zip cvs) _ x = _
    rw [bindC_out fun hm => hx (.tail _ hm)]
    split
    · rfl
    · show (if x = p then some c else mc x) = mc x
      exact if_neg fun e => hx (by rw [e]; exact .head _)
theorem bindL_in : ∀ {ps : List Str} {cvs : List Value} {vs : List V} {mc : Str → Option Value} {x : Str} {v : V}, ps.Nodup → VRs h cvs vs → (ps.zip vs).lookup x = some v → kindOf x = some .local →
    ∃ cv, bindL kindOf (ps.zip cvs) mc x = some cv ∧ VR h cv v
  | [], _, _, _, _, _, _, _, e, _ => by simp at e
  | p :: ps, _, _, _, _, _, _, .nil, e, _ => by simp at e
  | p :: ps, _, _, mc, x, v, nd, .cons (c := c) (cs := cs) r rs, e, hk => by
    rw [List.zip_cons_cons, List.lookup_cons] at e
    show ∃ cv, bindL kindOf (ps.zip cs) _ x = some cv ∧ _
    cases q : x == p with
    | true =>
      rw [q] at e
      have hx := eq_of_beq q
      subst hx
      cases e
      refine ⟨c, ?_, r⟩
      rw [bindL_out (List.nodup_cons.mp nd).1, if_pos hk, if_pos rfl]
    | false =>
      rw [q] at e
      exact bindL_in (List.nodup_cons.mp nd).2 rs e hk
theorem bindC_in : ∀ {ps : List Str} {cvs : List Value} {vs : List V} {mc : Str → Option Value} {x : Str} {v : V}, ps.Nodup → VRs h cvs vs → (ps.zip vs).lookup x = some v → kindOf x ≠ some .local →
    ∃ cv, bindC kindOf (ps.zip cvs) mc x = some cv ∧ VR h cv v
  | [], _, _, _, _, _, _, _, e, _ => by simp at e
  | p :: ps, _, _, _, _, _, _, .nil, e, _ => by simp at e
  | p :: ps, _, _, mc, x, v, nd, .cons (c := c) (cs := cs) r rs, e, hk => by
    rw [List.zip_cons_cons, List.lookup_cons] at e
    show ∃ cv, bindC kindOf (ps.zip cs) _ x = some cv ∧ _
    cases q : x == p with
    | true =>
      rw [q] at e
      have hx := eq_of_beq q
      subst hx
      cases e
      refine ⟨c, ?_, r⟩
      rw [bindC_out (List.nodup_cons.mp nd).1, if_neg hk, if_pos rfl]
    | false =>
      rw [q] at e
      exact bindC_in (List.nodup_cons.mp nd).2 rs e hk
end

theorem zip_map_fst {α β : Type} : ∀ (a : List α) (b : List β), ∀ x ∈ (a.zip b), x.1 ∈ a
  | [], _, _, h => by simp at h
  | a :: as, [], _, h => by simp at h
  | a :: as, b :: bs, x, h => by
    rcases List.mem_cons.mp h with rfl | h
    · exact .head _
    · exact .tail _ (zip_map_fst as bs x h)
theorem lookup_filter_some {α : Type} (p : Str × α → Bool) : ∀ {l : List (Str × α)} {x : Str} {v : α}, (l.map (·.1)).Nodup → (l.filter p).lookup x = some v → l.lookup x = some v ∧ p (x, v) = true := by
  intro l x v nd e
  have hm := mem_of_lookup e
  have := List.mem_filter.mp hm
  exact ⟨lookup_mem_nodup nd this.1, this.2⟩
theorem zip_nodup {α : Type} : ∀ {ps : List Str} {vs : List α}, ps.Nodup → ((ps.zip vs).map (·.1)).Nodup
  | [], _, _ => by simp
  | p :: ps, [], _ => by simp
  | p :: ps, v :: vs, nd => by
    simp only [List.zip_cons_cons, List.map_cons]
    refine List.nodup_cons.mpr ⟨fun hm => ?_, zip_nodup (List.nodup_cons.mp nd).2⟩
    obtain ⟨q, hq, e⟩ := List.mem_map.mp hm
    exact (List.nodup_cons.mp nd).1 (e ▸ zip_map_fst _ _ q hq)

section
variable {prog : Program} {w : World} {Bs : Heap} {k : Nat} {env : Env} {m : Env'} {σ : St} {g : Heap}

theorem RH.more (cs : List (Str × Addr)) (a : Str → Option V) : ∀ {h : Heap} {σ : St}, RH prog w g σ h → (cs.Pairwise fun x y => x.2 ≠ y.2) → (∀ nc ∈ cs, cStatics < nc.2 ∧ g.get? nc.2 = none ∧ (∀ p ∈ σ, p.1 ≠ nc.2) ∧ ∃ cv, h.IsCell nc.2 cv ∧ OVR h cv (a nc.1)) →
    RH prog w g (cs.map (fun nc => (nc.2, O.cell (a nc.1))) ++ σ) h := by
  intro h σ R pw hc
  refine ⟨R.keep, ?_, fun p hp => ?_, R.st, fun p hp => ?_⟩
  · rw [List.map_append, List.map_map]
    refine List.nodup_append.mpr ⟨?_, R.nd, fun x hx y hy e => ?_⟩
    · exact (List.pairwise_map.mpr pw)
    · obtain ⟨nc, hn, rfl⟩ := List.mem_map.mp hx
      obtain ⟨p, hp, rfl⟩ := List.mem_map.mp hy
      exact (hc nc hn).2.2.1 p hp e.symm
  · rcases List.mem_append.mp hp with hp | hp
    · obtain ⟨nc, hn, rfl⟩ := List.mem_map.mp hp
      obtain ⟨_, h1, _, cv, ⟨o, ho, hd⟩, r⟩ := hc nc hn
      exact ⟨h1, o, ho, cv, hd, r⟩
    · exact R.own p hp
  · rcases List.mem_append.mp hp with hp | hp
    · obtain ⟨nc, hn, rfl⟩ := List.mem_map.mp hp
      exact (hc nc hn).1
    · exact R.low p hp

def flV : Flow → Value
  | .ret v => v
  | _ => .none
theorem evf_enterX {fd : FuncData} {fo : Obj} {f : Addr} {body : List Stmt} {ps : List Str} {vs : List V} {A : Around} {g : Heap} {s : Shared} {Qc Ec : Value → Shared → Prop} {cvs : List Value}
    (hf : Bs.get? f = some fo) (hd : fo.data = .func fd) (hlim : Bs.NoLimit) (hcd : Bs.CodeRec fd.code fd.qualname) (hbody : fd.body = .stmts body)
    (hbind : ∀ cvs : List Value, cvs.length = ps.length → bindArgs fd ⟨cvs, []⟩ = pure (ps.zip cvs)) (hlen : vs.length = ps.length)
    (hA : AOk (k + 1) A) (hB : ∀ b o, Bs.get? b = some o → g.get? b = some o) (R : RH prog w g σ s.heap) (rs : VRs s.heap cvs vs)
    (h : ∀ h₁ tk₁, (∀ b o, s.heap.get? b = some o → h₁.get? b = some o) → Rel prog w g s.heap.objs.size (locs fd ps vs) (cellsσ fd s.heap.objs.size ps vs ++ σ) h₁ → g.get? s.heap.objs.size = none → AOk k (A.deeper (callEnvC fd s.heap.objs.size f)) →
      wpAny (model prog w) (A.deeper (callEnvC fd s.heap.objs.size f)) (execs body (callEnvC fd s.heap.objs.size f)) (fun fl s' => Qc (flV fl) s') (fun e s' => wpAny (model prog w) (A.deeper (callEnvC fd s.heap.objs.size f)) (leaving (callEnvC fd s.heap.objs.size f) e) (fun _ s'' => Ec e s'') (fun e' s'' => Ec e' s'') s') { s with heap := h₁, toks := tk₁ })
    (hclo : fd.closure = []) (hnp : ps.Nodup)
    (hkind : ∀ x ∈ ps, fd.scope.names.lookup x = some .local ∨ (fd.scope.names.lookup x = some .cell ∧ ∀ n, ((cellsFrom n fd.scope.names []).lookup x).isSome = true)) (hnn : (fd.scope.names.map (·.1)).Nodup)
    (hco : fd.scope.isCoroutine = false) (hgen : fd.scope.isGenerator = false) (hk : fd.scope.kind = .function) : wpAny (model prog w) A (call (.ref f) cvs) Qc Ec s := by
  have kp : ∀ b o, Bs.get? b = some o → s.heap.get? b = some o := fun b o e => R.keep b o (hB b o e)
  have hcl : cvs.length = ps.length := rs.length.trans hlen
  obtain ⟨ci, co, cvv, ct, hci⟩ := hcd
  refine wpAny_call (codeAny_call_cells hA.room (kp _ _ hf) hd (hlim.keeps kp) ⟨ci, co, cvv, ct, hci.1, kp _ _ hci.2.1, hci.2.2⟩ hbody (hbind cvs hcl) hclo
    (fun x hx => (hkind x.1 (zip_map_fst _ _ x hx)).imp id fun q => ⟨q.1, q.2 _⟩) (fun s₁ X => ?_) hco hgen hk)
  obtain ⟨h₁, tk₁, rfl, hk₁⟩ := X.done
  have hgL : g.get? s.heap.objs.size = none := by
    cases q : g.get? s.heap.objs.size with
    | none => rfl
    | some o => exact absurd (Heap.lt_size (R.keep _ _ q)) (Nat.lt_irrefl _)
  have tk : TK s.heap h₁ := .of_keep hk₁
  have rs' := rs.mono tk
  have R₁ : RH prog w g σ h₁ := R.ext hk₁
  have sz : ∀ p ∈ σ, p.1 < s.heap.objs.size := fun p hp => let ⟨_, o, ho, _⟩ := R.own p hp; Heap.lt_size ho
  have hkd : ∀ x, (callEnvC fd s.heap.objs.size f).kindOf x = fd.scope.names.lookup x := fun x => rfl
  have Rc : Rel prog w g s.heap.objs.size (locs fd ps vs) (cellsσ fd s.heap.objs.size ps vs ++ σ) h₁ := by
    refine ⟨RH.more _ (fun n => (ps.zip vs).lookup n) R₁ X.apart fun nc hn => ?_, ⟨_, X.toInCall.ns, fun x v e => ?_⟩, fun p hp => ?_⟩
    · have ab : s.heap.objs.size < nc.2 := X.above nc.1 nc.2 hn
      refine ⟨Nat.lt_trans R.big ab, ?_, fun p hp => ?_, ?_⟩
      · cases q : g.get? nc.2 with
        | none => rfl
        | some o => exact absurd (Nat.lt_trans ab (Heap.lt_size (R.keep _ _ q))) (Nat.lt_irrefl _)
      · exact Nat.ne_of_lt (Nat.lt_trans (sz p hp) ab)
      · have hl : (cellsFrom (s.heap.objs.size + 1) fd.scope.names []).lookup nc.1 = some nc.2 := lookup_mem_nodup (cellsFrom_nodup _ _ _ (by simpa using hnn)) hn
        refine ⟨_, X.cell nc.1 nc.2 hl, ?_⟩
        have hnl : (callEnvC fd s.heap.objs.size f).kindOf nc.1 ≠ some .local ∨ (ps.zip vs).lookup nc.1 = none := by
          by_cases hm : nc.1 ∈ ps
          · left
            rw [hkd]
            intro e
            rcases hkind _ hm with q | q
            · -- a name that is local is no cell
              have key : ∀ (names : List (Str × NameKind)) (n : Nat) (acc : List (Str × Addr)), (∀ y ∈ acc, fd.scope.names.lookup y.1 = some .cell) → (∀ y ∈ names, fd.scope.names.lookup y.1 = some y.2) → ∀ y ∈ cellsFrom n names acc, fd.scope.names.lookup y.1 = some .cell := by
                intro names
                induction names with
                | nil => intro n acc ha _ y hy; exact ha y hy
                | cons p r ih =>
                  intro n acc ha hb y hy
                  obtain ⟨pn, pk⟩ := p
                  unfold cellsFrom at hy
                  split at hy
                  · rename_i hpk
                    refine ih _ _ ?_ (fun y hy => hb y (.tail _ hy)) y hy
                    intro z hz
                    rcases List.mem_cons.mp hz with rfl | hz
                    · have := hb _ (.head _)
                      rw [this]; exact congrArg some (eq_of_beq hpk)
                    · exact ha z hz
                  · exact ih _ _ ha (fun y hy => hb y (.tail _ hy)) y hy
              have := key fd.scope.names (s.heap.objs.size + 1) [] (fun _ hy => nomatch hy) (fun y hy => lookup_mem_nodup hnn hy) nc hn
              rw [this] at e; cases e
            · rw [q.1] at e; cases e
          · right
            refine lookup_none_of_not_mem fun hq => ?_
            obtain ⟨z, hz, e⟩ := List.mem_map.mp hq
            exact hm (e ▸ zip_map_fst _ _ z hz)
        cases q : (ps.zip vs).lookup nc.1 with
        | none =>
          have hout : nc.1 ∉ ps := fun hm => by
            have : ∃ v, (ps.zip vs).lookup nc.1 = some v := by
              clear q hnl hn hl ab
              clear X rs' rs hcl hbind hkind hnp h
              induction ps generalizing vs with
              | nil => cases hm
              | cons p ps ih =>
                cases vs with
                | nil => simp at hlen
                | cons v vs =>
                  rw [List.zip_cons_cons, List.lookup_cons]
                  cases e : nc.1 == p with
                  | true => exact ⟨v, rfl⟩
                  | false =>
                    refine ih (by simpa using hlen) ?_
                    rcases List.mem_cons.mp hm with e' | hm
                    · rw [e'] at e; simp at e
                    · exact hm
            obtain ⟨v, hv⟩ := this
            rw [hv] at q; cases q
          rw [bindC_out hout]; exact .none
        | some v =>
          obtain ⟨cv, e, r⟩ := bindC_in (mc := fun _ => none) hnp rs' q (hnl.resolve_right (by rw [q]; simp))
          rw [e]; exact .some r
    · obtain ⟨h1, h2⟩ := lookup_filter_some _ (zip_nodup hnp) e
      exact bindL_in hnp rs' h1 (by rw [hkd]; exact eq_of_beq h2)
    · rcases List.mem_append.mp hp with hp | hp
      · obtain ⟨nc, hn, rfl⟩ := List.mem_map.mp hp
        have := X.above nc.1 nc.2 hn
        exact Nat.ne_of_gt this
      · exact Nat.ne_of_lt (sz p hp)
  refine wpAny_mono (h h₁ tk₁ hk₁ Rc hgL (hA.deeper _)) (fun fl s' hq => ?_) fun _ _ e => e
  cases fl with
  | ret v => exact hq
  | _ => exact hq
theorem evf_enter {fd : FuncData} {fo : Obj} {f : Addr} {body : List Stmt} {ps : List Str} {vs : List V} {A : Around} {g : Heap} {s : Shared} {Qc Ec : Value → Shared → Prop} {cvs : List Value}
    (hf : Bs.get? f = some fo) (hd : fo.data = .func fd) (hlim : Bs.NoLimit) (hcd : Bs.CodeRec fd.code fd.qualname) (hbody : fd.body = .stmts body)
    (hbind : ∀ cvs : List Value, cvs.length = ps.length → bindArgs fd ⟨cvs, []⟩ = pure (ps.zip cvs)) (hlen : vs.length = ps.length)
    (hA : AOk (k + 1) A) (hB : ∀ b o, Bs.get? b = some o → g.get? b = some o) (R : RH prog w g σ s.heap) (rs : VRs s.heap cvs vs)
    (h : ∀ h₁ tk₁ Ec', (∀ b o, s.heap.get? b = some o → h₁.get? b = some o) → Rel prog w g s.heap.objs.size (locs fd ps vs) (cellsσ fd s.heap.objs.size ps vs ++ σ) h₁ → g.get? s.heap.objs.size = none → AOk k (A.deeper (callEnvC fd s.heap.objs.size f)) →
      wpAny (model prog w) (A.deeper (callEnvC fd s.heap.objs.size f)) (execs body (callEnvC fd s.heap.objs.size f)) (fun fl s' => Qc (flV fl) s') Ec' { s with heap := h₁, toks := tk₁ })
    (hclo : fd.closure = []) (hnp : ps.Nodup)
    (hkind : ∀ x ∈ ps, fd.scope.names.lookup x = some .local ∨ (fd.scope.names.lookup x = some .cell ∧ ∀ n, ((cellsFrom n fd.scope.names []).lookup x).isSome = true)) (hnn : (fd.scope.names.map (·.1)).Nodup)
    (hco : fd.scope.isCoroutine = false) (hgen : fd.scope.isGenerator = false) (hk : fd.scope.kind = .function) : wpAny (model prog w) A (call (.ref f) cvs) Qc Ec s :=
  evf_enterX hf hd hlim hcd hbody hbind hlen hA hB R rs (fun h₁ tk₁ hk₁ Rc hgL hA' => h h₁ tk₁ _ hk₁ Rc hgL hA') hclo hnp hkind hnn hco hgen hk
theorem evf {fd : FuncData} {fo : Obj} {f : Addr} {body : List Stmt} {ps : List Str} {vs : List V} {Q : V → St → Prop}
    (hf : Bs.get? f = some fo) (hd : fo.data = .func fd) (hlim : Bs.NoLimit) (hcd : Bs.CodeRec fd.code fd.qualname) (hbody : fd.body = .stmts body)
    (hbind : ∀ cvs : List Value, cvs.length = ps.length → bindArgs fd ⟨cvs, []⟩ = pure (ps.zip cvs)) (hlen : vs.length = ps.length)
    (h : ∀ L, EvS prog w Bs k (callEnvC fd L f) body (locs fd ps vs) (cellsσ fd L ps vs ++ σ) fun fl _ σ' => ∃ σ'', SubP σ'' σ' ∧ Q (retOf fl) σ'')
    (hclo : fd.closure = [] := by rfl) (hnp : ps.Nodup := by decide)
    (hkind : ∀ x ∈ ps, fd.scope.names.lookup x = some .local ∨ (fd.scope.names.lookup x = some .cell ∧ ∀ n, ((cellsFrom n fd.scope.names []).lookup x).isSome = true) := by decide) (hnn : (fd.scope.names.map (·.1)).Nodup := by decide)
    (hco : fd.scope.isCoroutine = false := by rfl) (hgen : fd.scope.isGenerator = false := by rfl) (hk : fd.scope.kind = .function := by rfl) : EvF prog w Bs (k + 1) (.ref f) vs σ Q := by
  intro A g s Qc Ec cvs hA hB R rs hQ
  refine evf_enter hf hd hlim hcd hbody hbind hlen hA hB R rs (fun h₁ tk₁ Ec' hk₁ Rc hgL hA' => ?_) hclo hnp hkind hnn hco hgen hk
  refine h s.heap.objs.size _ g _ _ _ hA' hB hgL Rc fun c fl m' σ' h' tk' hh R' fr t => ?_
  obtain ⟨σ'', sub, hq⟩ := hh
  have t' : TK s.heap h' := (TK.of_keep hk₁).trans t
  have R'' : RH prog w g σ'' h' := R'.rh.subP sub
  cases fr with
  | next => exact hQ _ _ σ'' h' tk' hq R'' .none t'
  | brk => exact hQ _ _ σ'' h' tk' hq R'' .none t'
  | cont => exact hQ _ _ σ'' h' tk' hq R'' .none t'
  | ret r => exact hQ _ _ σ'' h' tk' hq R'' r t'
end
end Mine

set_option Elab.async false
set_option linter.unusedVariables false
namespace Mine
open PySem PyProof.Rows PySem.Calls

section
variable {prog : Program} {w : World} {Bs : Heap} {k : Nat} {env : Env} {m : Env'} {σ : St} {g h h' : Heap} {L a : Addr} {ob : O} {vs : List V} {kvs : List (Str × V)}

theorem RH.list_at (R : RH prog w g σ h) (hm : (a, ob) ∈ σ) (hl : ob.peel = .list vs) : ∃ cvs n, h.get? a = some (lstO cvs n) ∧ VRs h cvs vs := by
  obtain ⟨_, o, ho, r⟩ := R.own _ hm
  have r' := r.peel
  rw [hl] at r'
  obtain ⟨cvs, n, e, rs⟩ := r'
  exact ⟨cvs, n, by rw [ho, e], rs⟩
theorem RH.dict_at (R : RH prog w g σ h) (hm : (a, ob) ∈ σ) (hl : ob.peel = .dict kvs) : ∃ ckvs, h.DictOf (strKind prog w) a ckvs ∧ KVR h ckvs kvs := by
  obtain ⟨_, o, ho, r⟩ := R.own _ hm
  have r' := r.peel
  rw [hl] at r'
  obtain ⟨c, e, rs⟩ := r'
  exact ⟨c, Heap.dictOf_iff.mpr ⟨o, ho, e⟩, rs⟩
theorem list_tk {cvs : List Value} {n : Nat} (ho : h.get? a = some (lstO cvs n)) (hs : Heap.SameBut a h h') : TK h h' := fun b c k e => by
  refine (hs.2 b fun q => ?_).trans e
  rw [q, ho] at e
  have := congrArg Obj.cls (Option.some.inj e)
  exact absurd (Value.type.inj this) (by decide)
theorem dict_tk {ckvs : List (Str × Value)} (hd : h.DictOf (strKind prog w) a ckvs) (hs : Heap.SameBut a h h') : TK h h' := fun b c k e => by
  refine (hs.2 b fun q => ?_).trans e
  obtain ⟨o, es, ep, ho, hx, hdat, _⟩ := hd
  rw [q, ho] at e; cases e; cases hdat

-- displays
theorem ev_tuple {es : List Expr} {kk : Nat} {pos : Pos} {Q : V → St → Prop} (h : EvA prog w Bs k env pos es m σ fun vs σ1 => vs.length ≤ sizeLine ∧ Q (.tup vs) σ1) : EvE prog w Bs k env (.Tuple es kk pos) m σ Q :=
  fun A g s Qc Ec hA hB R hQ => wpAny_Tuple (h A g s _ _ hA hB R fun cvs vs σ1 h1 tk ⟨hl, hq⟩ R1 rs t => ⟨by rw [rs.length]; exact hl,
    have kp := push_keep h1 (tupO cvs 0)
    hQ _ _ σ1 _ tk hq (R1.ext kp) (.tup (cvs := cvs) (n := 0) (Heap.get?_push_size _ rfl) (rs.mono (.of_keep kp))) (t.trans (.of_keep kp))⟩)
theorem ev_list {es : List Expr} {pos : Pos} {Q : V → St → Prop} (h : EvA prog w Bs k env pos es m σ fun vs σ1 => vs.length ≤ sizeLine ∧ ∀ a, Q (.ref a) ((a, .list vs) :: σ1)) : EvE prog w Bs k env (.List es pos) m σ Q :=
  fun A g s Qc Ec hA hB R hQ => wpAny_List (h A g s _ _ hA hB R fun cvs vs σ1 h1 tk ⟨hl, hq⟩ R1 rs t => ⟨by rw [rs.length]; exact hl,
    have kp := push_keep h1 (lstO cvs 0)
    hQ _ _ _ _ tk (hq _) (R1.new kp (Nat.le_refl _) (Heap.get?_push_size _ rfl) ⟨cvs, 0, rfl, rs.mono (.of_keep kp)⟩) (.ref _) (t.trans (.of_keep kp))⟩)
theorem ev_dict0 {pos : Pos} {Q : V → St → Prop} (h : ∀ a, Q (.ref a) ((a, .dict []) :: σ)) : EvE prog w Bs k env (.Dict [] [] pos) m σ Q :=
  fun A g s Qc Ec hA hB R hQ => wpAny_Dict_empty (
    have kp := push_keep s.heap { cls := .type "dict", data := .dict #[] }
    hQ _ _ _ _ s.toks (h _) (R.new (o := { cls := .type "dict", data := .dict #[] }) kp (Nat.le_refl _) (Heap.get?_push_size _ rfl)
      ⟨[], by
        obtain ⟨o, ho, hd⟩ := Heap.dictOf_iff.mp (Heap.DictOf.new (knd := strKind prog w) s.heap)
        rw [Heap.get?_push_size _ rfl] at ho; cases ho; exact hd, .nil⟩) (.ref _) (.of_keep kp))

-- items
inductive Item (S : St) : V → V → V → Prop
  | list {a : Addr} {ob : O} {vs : List V} {j : Int} {v : V} (hm : (a, ob) ∈ S) (hl : ob.peel = .list vs) (h0 : 0 ≤ j) (h1 : j < 2 ^ 63) (hx : vs[j.toNat]? = some v) : Item S (.ref a) (.int j) v
  | tup {vs : List V} {j : Int} {v : V} (h0 : 0 ≤ j) (h1 : j < 2 ^ 63) (hx : vs[j.toNat]? = some v) : Item S (.tup vs) (.int j) v
  | dict {a : Addr} {ob : O} {kvs : List (Str × V)} {x : Str} {v : V} (hm : (a, ob) ∈ S) (hl : ob.peel = .dict kvs) (hx : kvs.lookup x = some v) : Item S (.ref a) (.str x) v
theorem KVR.find : ∀ {c : List (Str × Value)} {v : List (Str × V)}, KVR h c v → ∀ {x : Str} {u : V}, v.lookup x = some u → ∃ cu, valueAt c x = some cu ∧ VR h cu u
  | _, _, .nil, _, _, e => by simp at e
  | _, _, .cons (k := y) (c := c) r rs, x, u, e => by
    rw [List.lookup_cons] at e
    unfold valueAt
    rw [List.find?_cons]
    cases q : x == y with
    | true =>
      rw [q] at e; cases e
      have := eq_of_beq q; subst this
      exact ⟨c, by simp, r⟩
    | false =>
      rw [q] at e
      have : ¬ y = x := fun e => by rw [e] at q; simp at q
      obtain ⟨cu, h1, h2⟩ := KVR.find rs e
      unfold valueAt at h1
      exact ⟨cu, by simp [this, h1], h2⟩
theorem KVR.findNone : ∀ {c : List (Str × Value)} {v : List (Str × V)}, KVR h c v → ∀ {x : Str}, v.lookup x = none → valueAt c x = none
  | _, _, .nil, _, _ => rfl
  | _, _, .cons (k := y) (c := c) r rs, x, e => by
    rw [List.lookup_cons] at e
    unfold valueAt
    rw [List.find?_cons]
    cases q : x == y with
    | true => rw [q] at e; cases e
    | false =>
      rw [q] at e
      have : ¬ y = x := fun e => by rw [e] at q; simp at q
      have h1 := KVR.findNone rs e
      unfold valueAt at h1
      simp [this, h1]
theorem item_any {o i v : V} (hi : Item σ o i v) {A : Around} {s : Shared} {co ci : Value} {Qc Ec : Value → Shared → Prop} (R : RH prog w g σ s.heap) (ro : VR s.heap co o) (ri : VR s.heap ci i)
    {value slice : Expr} (hs : ∀ o i, subscripted slice false o i = operate [o, i] (getItem o i)) (hQ : ∀ cv tk, VR s.heap cv v → Qc cv { s with toks := tk }) :
    wpAny (model prog w) A (subscriptTail value slice co ci) Qc Ec s := by
  cases hi with
  | list hm hl h0 h1 hx =>
    cases ro; cases ri
    obtain ⟨cvs, n, ho, rs⟩ := R.list_at hm hl
    obtain ⟨cv, hc, r⟩ := rs.get hx
    have hil : s.heap.IsList _ cvs.toArray := ⟨_, ho, rfl, n, rfl⟩
    exact tail_any hil.typeIs slot_list_getitem.lookup (wpAny_getItem_list hil h0 h1 (by simpa using hc) (hQ cv s.toks r)) (hs _ _)
  | @tup _ j _ h0 h1 hx =>
    cases ro with
    | @tup a cvs n vs ho rs =>
        obtain ⟨t, rfl⟩ : ∃ t, ci = .int j t := by cases ri; exact ⟨_, rfl⟩
        obtain ⟨cv, hc, r⟩ := rs.get hx
        have hit : IsTup s.heap a cvs.toArray := ⟨_, ho, rfl, n, rfl⟩
        have hlt : j.toNat < cvs.length := (List.getElem?_eq_some_iff.mp hc).1
        refine tail_any hit.typeIs slot_tuple_getitem.lookup (getItem_tuple hit (j := j.toNat) (by omega) h1 ?_ (by simpa using hc) (hQ cv s.toks r)) (hs _ _)
        have e1 : (if j < 0 then j + (cvs.toArray.size : Int) else j) = j := if_neg (by omega)
        show (if (decide (0 ≤ (if j < 0 then j + (cvs.toArray.size : Int) else j)) && decide ((if j < 0 then j + (cvs.toArray.size : Int) else j) < (cvs.toArray.size : Int))) = true then some (if j < 0 then j + (cvs.toArray.size : Int) else j).toNat else none) = some j.toNat
        rw [e1, if_pos]
        rw [Bool.and_eq_true]
        exact ⟨decide_eq_true h0, decide_eq_true (by simp; omega)⟩
  | dict hm hl hx =>
    cases ro; cases ri
    obtain ⟨ckvs, hd, rs⟩ := R.dict_at hm hl
    obtain ⟨cv, hc, r⟩ := rs.find hx
    exact tail_any hd.typeIs slot_dict_getitem.lookup (wpAny_getItem_of (strKind_is _ _ _ _) hd.mapOf hc (hQ cv _ r)) (hs _ _)
theorem ev_item {value slice : Expr} {pos : Pos} {Q : V → St → Prop} (h : EvE prog w Bs k env value m σ fun o σ1 => EvE prog w Bs k env slice m σ1 fun i σ2 => ∃ v, Item σ2 o i v ∧ Q v σ2)
    (hs : ∀ o i, subscripted slice false o i = operate [o, i] (getItem o i) := by intro _ _; rfl) : EvE prog w Bs k env (.Subscript value slice pos) m σ Q := fun A g s Qc Ec hA hB R hQ =>
  Subscript_ (Ev.two (Qc := fun c d s₂ => wpAny (model prog w) A (subscriptTail value slice c d) Qc Ec s₂) h (fun t r => r.mono t) hA hB R fun c d o i σ' h' tk ⟨v, hv, hq⟩ R' ro ri t =>
    item_any hv (s := { s with heap := h', toks := tk }) R'.rh ro ri hs fun cv tk' r => hQ cv v σ' h' tk' hq R' r t)

-- built-in functions over lists
theorem bf_len_list {Q : V → St → Prop} (hm : (a, ob) ∈ σ) (hl : ob.peel = .list vs) (hz : vs.length ≤ sizeLine) (hq : Q (.int vs.length) σ) : EvF prog w Bs k (.builtin "len") [.ref a] σ Q := by
  intro A g s Qc Ec cvs hA hB R rs hQ
  cases rs with
  | cons r rs =>
    cases r; cases rs
    obtain ⟨cl, n, ho, rl⟩ := R.list_at hm hl
    have hil : s.heap.IsList a cl.toArray := ⟨_, ho, rfl, n, rfl⟩
    have e : cl.toArray.size = vs.length := by simp [rl.length]
    rw [sizeLine_eq] at hz
    refine len_list hil (by rw [e]; omega) ?_
    rw [e]
    exact hQ _ _ σ s.heap _ hq R (.int ..) (.refl _)
theorem bf_append {v : V} {σ' : St} {Q : V → St → Prop} (u : Up a (.list vs) (.list (vs ++ [v])) σ σ') (hz : vs.length ≤ sizeLine) (hq : Q .none σ') : EvF prog w Bs k (.builtin "list.append") [.ref a, v] σ Q := by
  intro A g s Qc Ec cvs hA hB R rs hQ
  cases rs with
  | cons r rs =>
    cases r
    cases rs with
    | cons rv rs =>
      cases rs
      rename_i cv
      obtain ⟨cl, n, ho, rl⟩ := R.list_at u.mem rfl
      refine wpAny_list_append_plain (l := a) (items := cl.toArray) ⟨n, ho⟩ (fun h' hp hs => ?_) (by simp [rl.length]; exact hz)
      obtain ⟨n', ho'⟩ := hp
      have tk := list_tk ho hs
      refine hQ _ _ σ' h' s.toks hq (R.upd u hs tk (c := lstO (cl ++ [cv]) n') (by rw [ho']; simp) ⟨_, n', rfl, (rl.append (.cons rv .nil)).mono tk⟩) .none tk
/-- list(xs), xs a list -/
theorem bf_list_list {Q : V → St → Prop} (hm : (a, ob) ∈ σ) (hl : ob.peel = .list vs) (hz : vs.length ≤ sizeLine) (hq : ∀ c, Q (.ref c) ((c, .list vs) :: σ)) : EvF prog w Bs k (.type "list") [.ref a] σ Q := by
  intro A g s Qc Ec cvs hA hB R rs hQ
  cases rs with
  | cons r rs =>
    cases r; cases rs
    obtain ⟨cl, n, ho, rl⟩ := R.list_at hm hl
    refine call_list_seq a (.inl rfl) ho rfl rfl (fun h' c' kp hn => ?_) (by simp [rl.length]; exact hz)
    exact hQ _ _ _ h' s.toks (hq _) (R.new kp (Nat.le_refl _) (o := lstO cl c') hn ⟨cl, c', rfl, rl.mono (.of_keep kp)⟩) (.ref _) (.of_keep kp)
/-- xs + ys -/
theorem ev_addlist {l r : Expr} {pos : Pos} {Q : V → St → Prop}
    (h : EvE prog w Bs k env l m σ fun x σ1 => EvE prog w Bs k env r m σ1 fun y σ2 => ∃ a b oa ob va vb, x = .ref a ∧ y = .ref b ∧ (a, oa) ∈ σ2 ∧ (b, ob) ∈ σ2 ∧ oa.peel = .list va ∧ ob.peel = .list vb ∧ va.length + vb.length ≤ sizeLine ∧ ∀ c, Q (.ref c) ((c, .list (va ++ vb)) :: σ2)) :
    EvE prog w Bs k env (.BinOp l .Add r pos) m σ Q := fun A g s Qc Ec hA hB R hQ =>
  wpAny_BinOp (Ev.two (Qc := fun c d s₂ => wpAny (model prog w) A (binaryOp .Add c d) Qc Ec s₂) h (fun t r => r.mono t) hA hB R fun c d x y σ' h' tk ⟨a, b, oa, ob, va, vb, ex, ey, ma, mb, la, lb, hz, hq⟩ R' rx ry t => by
    subst ex ey; cases rx; cases ry
    obtain ⟨ca, na, hoa, ra⟩ := R'.rh.list_at ma la
    obtain ⟨cb, nb, hob, rb⟩ := R'.rh.list_at mb lb
    have kp := push_keep h' (lstO (ca ++ cb) 0)
    refine P.add_list (s := { s with heap := h', toks := tk }) hoa hob ?_ (by simp [ra.length, rb.length]; exact hz)
    have e : ca.toArray ++ cb.toArray = (ca ++ cb).toArray := by simp
    rw [e]
    exact hQ _ _ _ _ tk (hq _) (R'.new kp (Nat.le_refl _) (o := lstO (ca ++ cb) 0) (Heap.get?_push_size _ rfl) ⟨_, 0, rfl, (ra.append rb).mono (.of_keep kp)⟩) (.ref _) (t.trans (.of_keep kp)))

-- slices of lists
abbrev EvP (prog : Program) (w : World) (Bs : Heap) (k : Nat) (env : Env) (e : Option Expr) (m : Env') (σ : St) (Q : V → St → Prop) : Prop := Ev prog w Bs VR k env.locals (evalPart e env) m σ Q
theorem evp_none {Q : V → St → Prop} (h : Q .none σ) : EvP prog w Bs k env none m σ Q := fun A g s Qc Ec hA hB R hQ => by
  rw [evalPart_none]; exact wpAny_pure (hQ _ _ σ s.heap s.toks h R .none (.refl _))
theorem evp_some {e : Expr} {Q : V → St → Prop} (h : EvE prog w Bs k env e m σ Q) : EvP prog w Bs k env (some e) m σ Q := fun A g s Qc Ec hA hB R hQ => by
  rw [evalPart_some]; exact h A g s Qc Ec hA hB R hQ
inductive Lo : V → Nat → Prop
  | none : Lo .none 0
  | int (i : Int) (h : 0 ≤ i) : Lo (.int i) i.toNat
inductive Hi (n : Nat) : V → Nat → Prop
  | none : Hi n .none n
  | int (i : Int) (h : 0 ≤ i) : Hi n (.int i) i.toNat
theorem slicePick_nat (items : Array Value) (lo hi : Option Int) (a b : Nat) (ha : lo = none ∧ a = 0 ∨ ∃ i, lo = some i ∧ 0 ≤ i ∧ a = i.toNat) (hb : hi = none ∧ b = items.size ∨ ∃ i, hi = some i ∧ 0 ≤ i ∧ b = i.toNat) :
    slicePick items lo hi none = ((items.toList.take b).drop a).toArray := by
  rw [slicePick_plain]
  have e1 : lo.elim 0 (clipAt items.size) = min a items.size := by
    rcases ha with ⟨rfl, rfl⟩ | ⟨i, rfl, h0, rfl⟩
    · simp
    · obtain ⟨n, rfl⟩ : ∃ n : Nat, i = n := ⟨i.toNat, by omega⟩
      show clipAt items.size n = _
      rw [clipAt_nat]; simp
  have e2 : hi.elim items.size (clipAt items.size) = min b items.size := by
    rcases hb with ⟨rfl, rfl⟩ | ⟨i, rfl, h0, rfl⟩
    · simp
    · obtain ⟨n, rfl⟩ : ∃ n : Nat, i = n := ⟨i.toNat, by omega⟩
      show clipAt items.size n = _
      rw [clipAt_nat]; simp
  rw [e1, e2]
  congr 1
  clear e1 e2 ha hb
  have hn : items.toList.length = items.size := by simp
  generalize items.toList = l at hn ⊢
  generalize items.size = n at hn ⊢
  rw [List.drop_take]
  apply List.ext_getElem?
  intro i
  simp only [List.getElem?_take, List.getElem?_drop]
  have out : ∀ j, n ≤ j → l[j]? = none := fun j hj => List.getElem?_eq_none (by omega)
  by_cases ha : a ≤ n
  · rw [Nat.min_eq_left ha]
    by_cases hi : i < b - a
    · rw [if_pos hi]
      by_cases hb : i < min b n - a
      · rw [if_pos hb]
      · rw [if_neg hb, out]; omega
    · rw [if_neg hi, if_neg (by omega)]
  · rw [Nat.min_eq_right (Nat.le_of_lt (Nat.lt_of_not_le ha)), if_neg (by omega)]
    split
    · rw [out]; omega
    · rfl
theorem ev_slice {value : Expr} {lower upper : Option Expr} {p pos : Pos} {Q : V → St → Prop}
    (h : EvE prog w Bs k env value m σ fun o σ1 => EvP prog w Bs k env lower m σ1 fun l σ2 => EvP prog w Bs k env upper m σ2 fun u σ3 =>
      ∃ a ob vs i j, o = .ref a ∧ (a, ob) ∈ σ3 ∧ ob.peel = .list vs ∧ Lo l i ∧ Hi vs.length u j ∧ vs.length ≤ sizeLine ∧ ∀ c, Q (.ref c) ((c, .list ((vs.take j).drop i)) :: σ3))
    (ht : ∀ o r, letTemporaryGo value o r = pure () := by intro _ _; rfl) : EvE prog w Bs k env (.Subscript value (.Slice lower upper none p) pos) m σ Q := fun A g s Qc Ec hA hB R hQ => by
  refine wpAny_Subscript_list_slice (h A g s _ _ hA hB R fun co o σ1 h1 tk1 hl R1 ro t1 => hl A g _ _ _ hA hB R1 fun cl l σ2 h2 tk2 hu R2 rl t2 => hu A g _ _ _ hA hB R2 fun cu u σ3 h3 tk3 hq R3 ru t3 => ?_) ht
  obtain ⟨a, ob, vs, i, j, rfl, hm, hl, li, hj, hz, hq⟩ := hq
  cases ro
  obtain ⟨cvs, n, ho, rs⟩ := R3.rh.list_at hm hl
  have el : ∃ lo, IsPart cl lo ∧ (lo = none ∧ i = 0 ∨ ∃ x, lo = some x ∧ 0 ≤ x ∧ i = x.toNat) := by
    cases li with
    | none => cases rl; exact ⟨_, .none, .inl ⟨rfl, rfl⟩⟩
    | int x h0 => cases rl; exact ⟨_, .int .., .inr ⟨x, rfl, h0, rfl⟩⟩
  have eu : ∃ hi, IsPart cu hi ∧ (hi = none ∧ j = cvs.toArray.size ∨ ∃ x, hi = some x ∧ 0 ≤ x ∧ j = x.toNat) := by
    cases hj with
    | none => cases ru; exact ⟨_, .none, .inl ⟨rfl, by simp [rs.length]⟩⟩
    | int x h0 => cases ru; exact ⟨_, .int .., .inr ⟨x, rfl, h0, rfl⟩⟩
  obtain ⟨lo, pl, il⟩ := el
  obtain ⟨hi, pu, iu⟩ := eu
  refine ⟨a, cvs.toArray, lo, hi, rfl, ⟨_, ho, rfl, n, rfl⟩, by simp [rs.length]; exact hz, pl, pu, ?_⟩
  rw [slicePick_nat _ _ _ i j il iu]
  have kp : ∀ b o, h3.get? b = some o → ((h3.push { cls := .type "slice", data := .fields #[cl, cu, .none] }).push (lstO ((cvs.take j).drop i) 0)).get? b = some o := fun b o e => push_keep _ _ _ _ (push_keep _ _ _ _ e)
  have hz' : (h3.push { cls := .type "slice", data := .fields #[cl, cu, .none] }).objs.size = h3.objs.size + 1 := Heap.size_push ..
  refine hQ _ _ _ _ tk3 (hq _) (R3.new kp ?_ (o := lstO ((cvs.take j).drop i) 0) ?_ ⟨_, 0, rfl, ((rs.take j).drop i).mono (.of_keep kp)⟩) (.ref _) (t1.trans (t2.trans (t3.trans (.of_keep kp))))
  · exact Nat.le_succ _
  · show (Heap.push _ _).get? (h3.objs.size + 1) = _
    rw [← hz']
    exact Heap.get?_push_size _ rfl
end
end Mine

set_option Elab.async false
set_option linter.unusedVariables false
namespace Mine
open PySem PyProof.Rows PySem.Calls

section
variable (prog : Program) (w : World)
/-- something is walked: its iterator I, the places it leans on (fp), those it writes (wr), the values -/
structure Iter (I : Addr) (fp wr : List Addr) (vs : List V) (need : St → Prop) (S : Nat → Heap → Prop) : Prop where
  sub : ∀ b ∈ wr, b ∈ fp
  there : ∀ i h, S i h → ∀ b ∈ fp, ∃ o, h.get? b = some o
  frame : ∀ i h h', S i h → (∀ b ∈ fp, ∀ o, h.get? b = some o → h'.get? b = some o) → TK h h' → S i h'
  item : ∀ (A : Around) (k : Nat) (g : Heap) (σ : St) (s : Shared) (Qc : Option Value → Shared → Prop) (Ec : Value → Shared → Prop) (i : Nat) (v : V), AOk k A → RH prog w g σ s.heap → need σ → S i s.heap → vs[i]? = some v →
    (∀ cv h' tk, VR h' cv v → S (i + 1) h' → (∀ b o, b ∉ wr → s.heap.get? b = some o → h'.get? b = some o) → TK s.heap h' → Qc (some cv) { s with heap := h', toks := tk }) → wpAny (model prog w) A (pyNext (.ref I)) Qc Ec s
  done : ∀ (A : Around) (k : Nat) (g : Heap) (σ : St) (s : Shared) (Qc : Option Value → Shared → Prop) (Ec : Value → Shared → Prop), AOk k A → RH prog w g σ s.heap → need σ → S vs.length s.heap →
    (∀ h' tk, (∀ b o, b ∉ wr → s.heap.get? b = some o → h'.get? b = some o) → TK s.heap h' → Qc none { s with heap := h', toks := tk }) → wpAny (model prog w) A (pyNext (.ref I)) Qc Ec s
  self : ∀ (A : Around) (i : Nat) (s : Shared) (Qc : Value → Shared → Prop) (Ec : Value → Shared → Prop), S i s.heap → Qc (.ref I) s → wpAny (model prog w) A (pyIter (.ref I)) Qc Ec s
end

section
variable {prog : Program} {w : World} {Bs : Heap} {k : Nat} {env : Env} {m : Env'} {σ : St} {g h h' : Heap} {L a : Addr} {ob : O} {vs : List V}

theorem RH.but {wr : List Addr} (R : RH prog w g σ h) (kp : ∀ b o, b ∉ wr → h.get? b = some o → h'.get? b = some o) (hw : ∀ b ∈ wr, g.get? b = none ∧ ∀ p ∈ σ, p.1 ≠ b) (tk : TK h h') : RH prog w g σ h' := by
  refine ⟨fun b o e => kp b o (fun hm => ?_) (R.keep b o e), R.nd, fun p hp => ?_, R.st, R.low⟩
  · rw [(hw b hm).1] at e; cases e
  · obtain ⟨h1, o, h2, h3⟩ := R.own p hp
    exact ⟨h1, o, kp _ _ (fun hm => (hw _ hm).2 p hp rfl) h2, h3.mono _ _ tk⟩
theorem Rel.but {wr : List Addr} (R : Rel prog w g L m σ h) (kp : ∀ b o, b ∉ wr → h.get? b = some o → h'.get? b = some o) (hw : ∀ b ∈ wr, g.get? b = none ∧ b ≠ L ∧ ∀ p ∈ σ, p.1 ≠ b) (tk : TK h h') : Rel prog w g L m σ h' := by
  refine ⟨R.rh.but kp (fun b hb => ⟨(hw b hb).1, (hw b hb).2.2⟩) tk, ?_, R.offS⟩
  obtain ⟨mc, hn, hv⟩ := R.ns
  exact ⟨mc, hn.at' fun o e => kp _ _ (fun hm => (hw _ hm).2.1 rfl) e, fun x v e => let ⟨cv, a, b⟩ := hv x v e; ⟨cv, a, b.mono tk⟩⟩

variable (prog w Bs) in
/-- a loop's turns: one name -/
def ForB (k : Nat) (env : Env) (bnd : Env' → V → Env') (body : List Stmt) (need : St → Prop) (Q : Fl → Env' → St → Prop) : List V → Env' → St → Prop
  | [], m, σ => Q .next m σ
  | v :: r, m, σ => EvS prog w Bs k env body (bnd m v) σ fun f m' σ' => match f with
    | .brk => Q .next m' σ'
    | .ret u => Q (.ret u) m' σ'
    | _ => need σ' ∧ ForB k env bnd body need Q r m' σ'

variable (prog w) in
/-- what a target does to the frame -/
def Asg (k : Nat) (env : Env) (target : Expr) (it : Value) (v : V) (bnd : Env' → V → Env') (SI : Heap → Prop) : Prop :=
  ∀ (A : Around) (g : Heap) (m : Env') (σ : St) (s : Shared) (cv : Value) (Qc : Unit → Shared → Prop) (Ec : Value → Shared → Prop), AOk k A → g.get? env.locals = none → Rel prog w g env.locals m σ s.heap → VR s.heap cv v → SI s.heap →
    (∀ h' tk, Rel prog w g env.locals (bnd m v) σ h' → TK s.heap h' → (∀ b o, b ≠ env.locals → s.heap.get? b = some o → h'.get? b = some o) → Qc () { s with heap := h', toks := tk }) →
    wpAny (model prog w) A (letOwnedTupleGo target it cv) (fun _ s₁ => wpAny (model prog w) A (assign target env cv) Qc Ec s₁) Ec s
theorem asg_name {x : Str} {px : Pos} {it : Value} {v : V} {SI : Heap → Prop} (hl : env.kindOf x = some .local) (hk : env.scope.kind = .function) : Asg prog w k env (.Name x px) it v (fun m v => mset m x v) SI :=
  fun A g m σ s cv Qc Ec hA hL R r _ hQ => wpAny_pure (wpAny_assign_Name (by
    obtain ⟨mc, hn, hm⟩ := R.ns
    exact wpAny_storeName_local hl hn (fun h' hn' hs => hQ h' _ (R.store hL hn hm hn' hs r) (ns_tk hn hs) fun b o hb e => (hs.2 b hb).trans e) (by rw [hk]; rfl)))

theorem for_iter {target : Expr} {bnd : Env' → V → Env'} {body : List Stmt} {I : Addr} {fp wr : List Addr} {need : St → Prop} {S : Nat → Heap → Prop} (W : Iter prog w I fp wr vs need S)
    {A : Around} {s : Shared} {Q : Fl → Env' → St → Prop} {R' : Result → Shared → Prop} (hA : AOk k A) (hB : ∀ b o, Bs.get? b = some o → g.get? b = some o) (hL : g.get? env.locals = none)
    (hasg : ∀ i v, vs[i]? = some v → Asg prog w k env target (.ref I) v bnd (S (i + 1)))
    (R : Rel prog w g env.locals m σ s.heap) (hst : S 0 s.heap) (hfp : ∀ b ∈ fp, b ≠ env.locals ∧ ∀ p ∈ σ, p.1 ≠ b) (hwr : ∀ b ∈ wr, g.get? b = none) (hn : need σ)
    (h : ForB prog w Bs k env bnd body need Q vs m σ)
    (hQ : ∀ c f m' σ' h' tk, Q f m' σ' → Rel prog w g env.locals m' σ' h' → FR h' c f → TK s.heap h' → R' (.ok c) { s with heap := h', toks := tk }) :
    codeAny (model prog w) A (.forLoop target (.ref I) body [] env) R' s := by
  refine codeAny_forLoop_any (fun n s' => ∃ i m σ h tk, s' = { s with heap := h, toks := tk } ∧ i ≤ vs.length ∧ n = vs.length - i ∧ Rel prog w g env.locals m σ h ∧ S i h ∧ (∀ b ∈ fp, b ≠ env.locals ∧ ∀ p ∈ σ, p.1 ≠ b) ∧ need σ ∧
      ForB prog w Bs k env bnd body need Q (vs.drop i) m σ ∧ TK s.heap h) ?_ vs.length ⟨0, m, σ, s.heap, s.toks, rfl, Nat.zero_le _, rfl, R, hst, hfp, hn, by simpa using h, .refl _⟩
  rintro n s' ⟨i, m, σ, h, tk, rfl, hi, rfl, R, hst, hfp, hn, hb, ht⟩
  by_cases hlt : i < vs.length
  · have hv : vs[i]? = some vs[i] := by simp [hlt]
    have hd : vs.drop i = vs[i] :: vs.drop (i + 1) := List.drop_eq_getElem_cons hlt
    rw [hd] at hb
    refine W.item A k g σ _ _ _ i _ hA R.rh hn hst hv fun cv h1 tk1 r1 st1 kp1 t1 => ?_
    have R1 := R.but kp1 (fun b hb => ⟨hwr b hb, hfp b (W.sub b hb)⟩) t1
    refine hasg i _ hv A g m σ _ cv _ _ hA hL R1 r1 st1 fun h2 tk2 R2 t2 kp2 => ?_
    have st2 : S (i + 1) h2 := W.frame _ _ _ st1 (fun b hb o e => kp2 b o (hfp b hb).1 e) t2
    have le := R2.le_mask hL
    refine hb A _ _ _ _ hA (fun b o e => le b o (hB b o e)) (mask_in (.head _)) (R2.masked hL) fun c f m' σ' h3 tk3 hq R3 fr t3 => ?_
    have kp3 : ∀ b ∈ fp, ∀ o, h2.get? b = some o → h3.get? b = some o := fun b hb o e => R3.rh.keep b o (by
      rw [mask_out]; exact e
      intro hm
      rcases List.mem_cons.mp hm with e | hm
      · exact (hfp b hb).1 e
      · obtain ⟨p, hp, q⟩ := List.mem_map.mp hm
        exact (hfp b hb).2 p hp q)
    have off : ∀ b ∈ fp, b ≠ env.locals ∧ ∀ p ∈ σ', p.1 ≠ b := fun b hb => ⟨(hfp b hb).1, fun p hp q => by
      obtain ⟨o, ho⟩ := W.there _ _ st2 b hb
      have := (R3.rh.own p hp).1
      rw [q, mask_out] at this
      · have ho' : h2.get? b = some o := ho
        have this' : h2.get? b = none := this
        rw [ho'] at this'; cases this'
      · intro hm
        rcases List.mem_cons.mp hm with e | hm
        · exact (hfp b hb).1 e
        · obtain ⟨p, hp, q⟩ := List.mem_map.mp hm
          exact (hfp b hb).2 p hp q⟩
    have R3' := R3.less R2.rh.st le
    have st3 := W.frame _ _ _ st2 kp3 t3
    have tt : TK s.heap h3 := ht.trans (t1.trans (t2.trans t3))
    cases fr with
    | next => exact ⟨_, by omega, i + 1, m', σ', h3, tk3, rfl, hlt, rfl, R3', st3, off, hq.1, hq.2, tt⟩
    | cont => exact ⟨_, by omega, i + 1, m', σ', h3, tk3, rfl, hlt, rfl, R3', st3, off, hq.1, hq.2, tt⟩
    | brk => exact hQ _ _ m' σ' h3 tk3 hq R3' .next tt
    | ret r => exact hQ _ _ m' σ' h3 tk3 hq R3' (.ret r) tt
  · have e : i = vs.length := by omega
    subst e
    refine W.done A k g σ _ _ _ hA R.rh hn hst fun h1 tk1 kp1 t1 => ?_
    have R1 := R.but kp1 (fun b hb => ⟨hwr b hb, hfp b (W.sub b hb)⟩) t1
    refine wpAny_execs_nil (hQ _ _ m σ h1 tk1 ?_ R1 .next (ht.trans t1))
    rw [List.drop_length] at hb
    exact hb

variable (prog w Bs) in
/-- what an iterable yields when a loop begins -/
def Its (k : Nat) (L : Addr) (v : V) (m : Env') (σ : St) (K : ∀ (vs : List V) (need : St → Prop), St → Prop) : Prop :=
  ∀ (A : Around) (g : Heap) (s : Shared) (cv : Value) (Qc : Value → Shared → Prop) (Ec : Value → Shared → Prop), AOk k A → (∀ b o, Bs.get? b = some o → g.get? b = some o) → Rel prog w g L m σ s.heap → VR s.heap cv v →
    (∀ I fp wr vs need S σ' h' tk, K vs need σ' → Iter prog w I fp wr vs need S → S 0 h' → Rel prog w g L m σ' h' → TK s.heap h' → (∀ b ∈ fp, b ≠ L ∧ ∀ p ∈ σ', p.1 ≠ b) → (∀ b ∈ wr, g.get? b = none) → need σ' →
      (∀ i v, vs[i]? = some v → ∀ elts x1 pos cv (s : Shared) (Qc : Unit → Shared → Prop) (Ec : Value → Shared → Prop), VR s.heap cv v → S (i + 1) s.heap → Qc () s → wpAny (model prog w) A (letOwnedTupleGo (.Tuple elts x1 pos) (.ref I) cv) Qc Ec s) →
      Qc (.ref I) { s with heap := h', toks := tk }) →
    wpAny (model prog w) A (pyIter cv) Qc Ec s
theorem evx_for {x : Str} {px pos : Pos} {iter : Expr} {body : List Stmt} {Q : Fl → Env' → St → Prop}
    (h : EvE prog w Bs k env iter m σ fun v σ1 => Its prog w Bs k env.locals v m σ1 fun vs need σ2 => ForB prog w Bs k env (fun m v => mset m x v) body need Q vs m σ2)
    (hl : env.kindOf x = some .local := by rfl) (hk : env.scope.kind = .function := by rfl) (hs : ∀ x, foldedSetIterable iter env x = pure x := by intro _; rfl) :
    EvX prog w Bs k env (.For (.Name x px) iter body [] pos) m σ Q := fun A g s Qc Ec hA hB hL R hQ =>
  wpAny_For (h A g s _ _ hA hB R fun cv v σ1 h1 tk1 hi R1 r1 t1 => hi A g _ cv _ _ hA hB R1 r1 fun I fp wr vs need S σ' h' tk hb W st R' t' hfp hwr hn _ =>
    for_iter W (s := { s with heap := h', toks := tk }) hA hB hL (fun i v _ => asg_name hl hk) R' st hfp hwr hn hb fun c f m' σ'' h'' tk' hq R'' fr t'' =>
      hQ c f m' σ'' h'' tk' hq R'' fr (t1.trans (t'.trans t''))) hs
end
end Mine

set_option Elab.async false
set_option linter.unusedVariables false
namespace Mine
open PySem PyProof.Rows PySem.Calls

section
variable {prog : Program} {w : World} {Bs : Heap} {k : Nat} {env : Env} {m : Env'} {σ : St} {g h h' : Heap} {L a : Addr} {ob : O} {vs : List V}

theorem tk_but {wr : List Addr} (kp : ∀ b o, b ∉ wr → h.get? b = some o → h'.get? b = some o) (nt : ∀ b ∈ wr, ∀ cvs n, h.get? b ≠ some (tupO cvs n)) : TK h h' := fun b cvs n e => by
  refine kp b _ (fun hm => ?_) e
  exact nt b hm cvs n e
theorem not_tup {o : Obj} {T : String} (ho : h.get? a = some o) (hc : o.cls = .type T) (hT : T ≠ "tuple") : ∀ cvs n, h.get? a ≠ some (tupO cvs n) := fun cvs n e => by
  rw [ho] at e
  have := congrArg Obj.cls (Option.some.inj e)
  rw [hc] at this
  exact hT (Value.type.inj this)

/-- a list of the ledger is walked -/
theorem iter_list {I : Addr} (hI : a ≠ I) (hl : ob.peel = .list vs) : Iter prog w I [I] [I] vs (fun σ => (a, ob) ∈ σ) (fun i h => h.IsListIter I a i) where
  sub := fun _ hb => hb
  there := fun i h st b hb => by
    obtain ⟨o, ho, _⟩ := st
    rw [List.mem_singleton.mp hb]; exact ⟨o, ho⟩
  frame := fun i h h' st kp _ => st.at fun o e => kp I (.head _) o e
  item := fun A k g σ s Qc Ec i v hA R hn st hv hQ => by
    obtain ⟨cvs, n, ho, rs⟩ := R.list_at hn hl
    obtain ⟨cv, hc, r⟩ := rs.get hv
    refine wpAny_pyNext_list_item st ⟨_, ho, rfl, n, rfl⟩ (by simpa using hc) fun h' st' hs => ?_
    have tk : TK s.heap h' := by
      obtain ⟨o, hoI, hcI, _⟩ := st
      exact tk_but (wr := [I]) (fun b o hb e => (hs.2 b fun q => hb (by rw [q]; exact .head _)).trans e) fun b hb => by
        rw [List.mem_singleton.mp hb]; exact not_tup hoI hcI (by decide)
    exact hQ cv h' s.toks (r.mono tk) st' (fun b o hb e => (hs.2 b fun q => hb (by rw [q]; exact .head _)).trans e) tk
  done := fun A k g σ s Qc Ec hA R hn st hQ => by
    obtain ⟨cvs, n, ho, rs⟩ := R.list_at hn hl
    refine wpAny_pyNext_list_end hA.1 st ⟨_, ho, rfl, n, rfl⟩ (by simp [rs.length]) fun h' hs => ?_
    have kp : ∀ b o, b ∉ [I] → s.heap.get? b = some o → h'.get? b = some o := fun b o hb e => hs b o (fun q => hb (by rw [q]; exact .head _)) e
    have tk : TK s.heap h' := by
      obtain ⟨o, hoI, hcI, _⟩ := st
      exact tk_but kp fun b hb => by
        rw [List.mem_singleton.mp hb]; exact not_tup hoI hcI (by decide)
    exact hQ h' s.toks kp tk
  self := fun A i s Qc Ec st hQ => wpAny_pyIter_listiter st hQ
theorem push_off (R : Rel prog w g L m σ h) : (∀ b ∈ [h.objs.size], b ≠ L ∧ ∀ p ∈ σ, p.1 ≠ b) ∧ ∀ b ∈ [h.objs.size], g.get? b = none := by
  constructor
  · intro b hb
    rw [List.mem_singleton.mp hb]
    refine ⟨fun e => ?_, fun p hp e => ?_⟩
    · obtain ⟨o, ho⟩ := R.lt
      rw [← e] at ho
      exact absurd (Heap.lt_size ho) (Nat.lt_irrefl _)
    · obtain ⟨_, o, ho, _⟩ := R.rh.own p hp
      rw [e] at ho
      exact absurd (Heap.lt_size ho) (Nat.lt_irrefl _)
  · intro b hb
    rw [List.mem_singleton.mp hb]
    cases q : g.get? h.objs.size with
    | none => rfl
    | some o => exact absurd (Heap.lt_size (R.rh.keep _ _ q)) (Nat.lt_irrefl _)
theorem its_list {K : ∀ (vs : List V) (need : St → Prop), St → Prop} (hm : (a, ob) ∈ σ) (hl : ob.peel = .list vs) (h : K vs (fun σ => (a, ob) ∈ σ) σ) : Its prog w Bs k L (.ref a) m σ K := by
  intro A g s cv Qc Ec hA hB R r hQ
  cases r
  obtain ⟨cvs, n, ho, rs⟩ := R.rh.list_at hm hl
  refine wpAny_pyIter_list ⟨_, ho, rfl, n, rfl⟩ ?_
  have kp := push_keep s.heap { cls := .type "list_iterator", data := .fields #[.ref a, .int 0 0] }
  have hne : a ≠ s.heap.objs.size := Nat.ne_of_lt (Heap.lt_size ho)
  obtain ⟨o1, o2⟩ := push_off R
  refine hQ _ _ _ vs _ _ σ _ s.toks h (iter_list (I := s.heap.objs.size) hne hl) ⟨_, Heap.get?_push_size _ rfl, rfl, rfl⟩ (R.ext kp) (.of_keep kp) o1 o2 hm ?_
  intro i v hv elts x1 pos cv s' Qc' Ec' rv st hq
  cases rv with
  | tup e _ => exact wpAny_letOwnedTupleGo_listiter st hq
  | ref b => exact wpAny_letOwnedTupleGo_listiter st hq
  | raw c =>
    cases cv <;> first | exact wpAny_letOwnedTupleGo_listiter st hq | exact wpAny_pure hq
  | _ => exact wpAny_pure hq

/-- a range -/
abbrev rngO (a b : Int) (t u v : Tok) : Obj := { cls := .type "range", data := .fields #[.int a t, .int b u, .int 1 v] }
theorem bf_range1 {n : Int} {Q : V → St → Prop} (h : ∀ r t u v, Q (.ref r) ((r, .obj (rngO 0 n t u v)) :: σ)) : EvF prog w Bs k (.type "range") [.int n] σ Q := by
  intro A g s Qc Ec cvs hA hB R rs hQ
  cases rs with
  | cons r rs =>
    cases r; cases rs
    rename_i t
    refine call_range_1 ?_
    have kp := push_keep s.heap (rngO 0 n s.toks t (s.toks + 1))
    exact hQ _ _ _ _ _ (h _ _ _ _) (R.new (o := rngO 0 n s.toks t (s.toks + 1)) kp (Nat.le_refl _) (Heap.get?_push_size _ rfl) rfl) (.ref _) (.of_keep kp)
def rngV (a : Int) (n : Nat) : List V := (List.range n).map fun i => .int (a + (i : Nat))
theorem rngV_get {a : Int} {n i : Nat} {v : V} (h : (rngV a n)[i]? = some v) : i < n ∧ v = .int (a + (i : Nat)) := by
  unfold rngV at h
  rw [List.getElem?_map] at h
  cases q : (List.range n)[i]? with
  | none => rw [q] at h; cases h
  | some j =>
    rw [q] at h
    have hj := List.getElem?_eq_some_iff.mp q
    obtain ⟨hl, e⟩ := hj
    simp at hl e
    subst e
    exact ⟨hl, (Option.some.inj h).symm⟩
theorem rngV_length (a : Int) (n : Nat) : (rngV a n).length = n := by simp [rngV]
theorem iter_range {I : Addr} {a : Int} {n : Nat} : Iter prog w I [I] [I] (rngV a n) (fun _ => True) (fun i h => IsRangeIter h I (a + (i : Nat) * 1) ((n : Int) - (i : Nat)) 1) where
  sub := fun _ hb => hb
  there := fun i h st b hb => by rw [List.mem_singleton.mp hb]; exact ⟨_, st⟩
  frame := fun i h h' st kp _ => kp I (.head _) _ st
  item := fun A k g σ s Qc Ec i v hA R _ st hv hQ => by
    obtain ⟨hi, rfl⟩ := rngV_get hv
    refine (Walks.range (prog := prog) (w := w) hA.1 I a 1 n).item i s Qc Ec hi st fun cv h' tk hP st' kp => ?_
    obtain ⟨t, rfl⟩ := hP
    have tk' : TK s.heap h' := tk_but kp fun b hb => by rw [List.mem_singleton.mp hb]; exact not_tup st rfl (by decide)
    refine hQ _ h' tk ?_ st' kp tk'
    rw [show a + (i : Int) * 1 = a + (i : Int) by omega]
    exact .int ..
  done := fun A k g σ s Qc Ec hA R _ st hQ => by
    rw [rngV_length] at st
    refine (Walks.range (prog := prog) (w := w) hA.1 I a 1 n).done s Qc Ec st fun h' tk kp => ?_
    have tk' : TK s.heap h' := tk_but kp fun b hb => by rw [List.mem_singleton.mp hb]; exact not_tup st rfl (by decide)
    exact hQ h' tk kp tk'
  self := fun A i s Qc Ec st hQ => wpAny_pyIter_rangeiter st hQ
theorem its_range {K : ∀ (vs : List V) (need : St → Prop), St → Prop} {r : Addr} {b : Int} {t u v : Tok} {σ' : St} (n : Nat) (hn : b = (n : Int)) (hb : b < 2 ^ 62) (hs : σ = (r, .obj (rngO 0 b t u v)) :: σ') (h : K (rngV 0 n) (fun _ => True) σ') :
    Its prog w Bs k L (.ref r) m σ K := by
  intro A g s cv Qc Ec hA hB R rr hQ
  cases rr
  subst hs
  obtain ⟨_, o, ho, e⟩ := R.rh.own _ (.head _)
  have e' : o = rngO 0 b t u v := e
  subst e'
  have hsz : Builtin.Range.rangeSize 0 b 1 = (n : Int) := by rw [rangeSize_one]; split <;> omega
  refine wpAny_pyIter_range (a := 0) (b := b) (c := 1) (t := t) (u := u) (v := v) ho (small_one (by omega) (by omega) (by omega) (by omega)) ?_
  rw [hsz]
  have R0 : Rel prog w g L m σ' s.heap := R.sub (List.sublist_cons_self _ _)
  have kp := push_keep s.heap { cls := .type "range_iterator", data := .fields #[rawInt 0, rawInt (n : Int), rawInt 1] }
  obtain ⟨o1, o2⟩ := push_off R0
  refine hQ _ _ _ (rngV 0 n) _ _ σ' _ s.toks h (iter_range (I := s.heap.objs.size) (a := 0) (n := n)) ?_ (R0.ext kp) (.of_keep kp) o1 o2 trivial ?_
  · show (Heap.push _ _).get? _ = _
    rw [Heap.get?_push_size _ rfl]
    simp [rawInt]
  · intro i v hv elts x1 pos cv s' Qc' Ec' rv st hq
    obtain ⟨_, rfl⟩ := rngV_get hv
    cases rv
    exact wpAny_pure hq
end
end Mine

set_option Elab.async false
set_option linter.unusedVariables false
namespace Mine
open PySem PyProof.Rows PySem.Calls

abbrev KV := List (Str × V)
def dput (kvs : KV) (x : Str) (v : V) : KV := if kvs.any (fun p => decide (p.1 = x)) then kvs.map (fun p => if p.1 = x then (p.1, v) else p) else kvs ++ [(x, v)]
def ddel (kvs : KV) (x : Str) : KV := kvs.filter fun p => decide (p.1 ≠ x)

section
variable {prog : Program} {w : World} {Bs : Heap} {k : Nat} {env : Env} {m : Env'} {σ : St} {g h h' : Heap} {L a d : Addr} {ob : O} {vs : List V} {kvs : KV}

theorem KVR.length {c : List (Str × Value)} {v : KV} (r : KVR h c v) : c.length = v.length := by
  induction r with
  | nil => rfl
  | cons _ _ ih => simp [ih]
theorem KVR.keys {c : List (Str × Value)} {v : KV} (r : KVR h c v) : c.map (·.1) = v.map (·.1) := by
  induction r with
  | nil => rfl
  | cons _ _ ih => simp [ih]
theorem KVR.any {c : List (Str × Value)} {v : KV} (r : KVR h c v) (x : Str) : c.any (fun p => decide (p.1 = x)) = v.any (fun p => decide (p.1 = x)) := by
  induction r with
  | nil => rfl
  | cons _ _ ih => simp only [List.any_cons, ih]
theorem KVR.put {c : List (Str × Value)} {v : KV} (r : KVR h c v) {x : Str} {cu : Value} {u : V} (ru : VR h cu u) : KVR h (stored c x cu) (dput v x u) := by
  unfold stored dput
  rw [r.any x]
  split
  · rename_i hx
    clear hx
    induction r with
    | nil => exact .nil
    | cons rv _ ih =>
      rename_i y cv vv cs vs rr
      simp only [List.map_cons]
      by_cases e : y = x
      · simp only [e, if_true]; exact .cons ru ih
      · simp only [e, if_false]; exact .cons rv ih
  · rename_i hx
    clear hx
    induction r with
    | nil => exact .cons ru .nil
    | cons rv _ ih => exact .cons rv ih
theorem KVR.del {c : List (Str × Value)} {v : KV} (r : KVR h c v) (x : Str) : KVR h (without c x) (ddel v x) := by
  unfold without ddel
  induction r with
  | nil => exact .nil
  | cons rv _ ih =>
    rename_i y cv vv cs vs rr
    by_cases e : y = x
    · simp [e]; simpa using ih
    · simp [e]; exact .cons rv (by simpa using ih)
theorem KVR.isSome {c : List (Str × Value)} {v : KV} (r : KVR h c v) (x : Str) : (valueAt c x).isSome = (v.lookup x).isSome := by
  cases q : v.lookup x with
  | none => rw [r.findNone q]; rfl
  | some u => obtain ⟨cu, e, _⟩ := r.find q; rw [e]; rfl

theorem RH.notModules (R : RH prog w g σ h) (hm : (d, ob) ∈ σ) : (d == sysModules) = false := by
  have := R.low _ hm
  have h2 : (2 : Nat) < d := this
  have : d ≠ sysModules := by
    show d ≠ (1 : Nat)
    intro e; rw [e] at h2; exact absurd h2 (by decide)
  simpa using this
theorem RH.dict_put (R : RH prog w g σ h) {σ' : St} {x : Str} {v : V} {cv : Value} {ckvs : List (Str × Value)} (u : Up d (.dict kvs) (.dict (dput kvs x v)) σ σ') (hd : h.DictOf (strKind prog w) d ckvs) (rk : KVR h ckvs kvs) (rv : VR h cv v)
    (hd' : h'.DictOf (strKind prog w) d (stored ckvs x cv)) (hs : Heap.SameBut d h h') : RH prog w g σ' h' ∧ TK h h' := by
  have tk := dict_tk hd hs
  obtain ⟨o, ho, hi⟩ := Heap.dictOf_iff.mp hd'
  exact ⟨R.upd u hs tk ho ⟨_, hi, (rk.put rv).mono tk⟩, tk⟩

-- comparisons that look at the heap
inductive CmpH (S : St) : CmpOp → V → V → Bool → Prop
  | inD {d : Addr} {ob : O} {kvs : KV} {x : Str} (hm : (d, ob) ∈ S) (hl : ob.peel = .dict kvs) : CmpH S .In (.str x) (.ref d) (kvs.lookup x).isSome
  | notInD {d : Addr} {ob : O} {kvs : KV} {x : Str} (hm : (d, ob) ∈ S) (hl : ob.peel = .dict kvs) : CmpH S .NotIn (.str x) (.ref d) (!(kvs.lookup x).isSome)
theorem cmpH_any {op : CmpOp} {a b : V} {c : Bool} (hb : CmpH σ op a b c) {A : Around} {s : Shared} {ca cb : Value} {Qc Ec : Value → Shared → Prop} (R : RH prog w g σ s.heap) (ra : VR s.heap ca a) (rb : VR s.heap cb b)
    (hQ : ∀ tk, Qc (.bool c) { s with toks := tk }) : wpAny (model prog w) A (compareOp op ca cb) Qc Ec s := by
  cases hb with
  | inD hm hl =>
    cases ra; cases rb
    obtain ⟨ck, hd, rs⟩ := R.dict_at hm hl
    exact wpAny_in_of (strKind_is _ _ _ _) (R.notModules hm) hd.mapOf (by rw [rs.isSome]; exact hQ _)
  | notInD hm hl =>
    cases ra; cases rb
    obtain ⟨ck, hd, rs⟩ := R.dict_at hm hl
    exact wpAny_notIn_of (strKind_is _ _ _ _) (R.notModules hm) hd.mapOf (by rw [rs.isSome]; exact hQ _)
theorem evb_cmpH {l r : Expr} {op : CmpOp} {pos : Pos} {Q : Bool → St → Prop}
    (h : EvE prog w Bs k env l m σ fun a σ1 => EvE prog w Bs k env r m σ1 fun b σ2 => ∃ c, CmpH σ2 op a b c ∧ Q c σ2) (hm : behindInMarks op r = false := by with_unfolding_all rfl) :
    EvB prog w Bs k env (.Compare l [op] [r] pos) m σ Q := fun A g s Qc Ec hA hB R hQ =>
  wpAny_isTrue_Compare1 (Ev.two (Qc := fun c d s₂ => wpAny (model prog w) A (compareOp op c d) (fun c s₃ => wpAny (model prog w) A (truthy c) Qc Ec s₃) Ec s₂) h (fun t r => r.mono t) hA hB R fun c d a b σ' h' tk ⟨v, hv, hq⟩ R' ra rb t =>
    cmpH_any hv (s := { s with heap := h', toks := tk }) R'.rh ra rb fun tk' => wpAny_truthy_bool (hQ _ _ σ' h' tk' hq R' rfl t)) hm
theorem ev_cmpH {l r : Expr} {op : CmpOp} {pos : Pos} {Q : V → St → Prop}
    (h : EvE prog w Bs k env l m σ fun a σ1 => EvE prog w Bs k env r m σ1 fun b σ2 => ∃ c, CmpH σ2 op a b c ∧ Q (.bool c) σ2) (hm : behindInMarks op r = false := by with_unfolding_all rfl) :
    EvE prog w Bs k env (.Compare l [op] [r] pos) m σ Q := fun A g s Qc Ec hA hB R hQ =>
  wpAny_Compare1 (Ev.two (Qc := fun c d s₂ => wpAny (model prog w) A (compareOp op c d) Qc Ec s₂) h (fun t r => r.mono t) hA hB R fun c d a b σ' h' tk ⟨v, hv, hq⟩ R' ra rb t =>
    cmpH_any hv (s := { s with heap := h', toks := tk }) R'.rh ra rb fun tk' => hQ _ _ σ' h' tk' hq R' (.bool _) t) hm

-- d[x] = v, del d[x]
theorem evx_setitem {o i value : Expr} {tp pos : Pos} {Q : Fl → Env' → St → Prop}
    (h : EvE prog w Bs k env value m σ fun v σ1 => EvE prog w Bs k env o m σ1 fun ov σ2 => EvE prog w Bs k env i m σ2 fun iv σ3 =>
      ∃ d x kvs σ4, ov = .ref d ∧ iv = .str x ∧ Up d (.dict kvs) (.dict (dput kvs x v)) σ3 σ4 ∧ kvs.length ≤ sizeLine ∧ Q .next m σ4)
    (hs : swapsWith value (some (.Subscript o i tp)) pos.line env = pure false := by rfl) : EvX prog w Bs k env (.Assign [.Subscript o i tp] value pos) m σ Q := fun A g s Qc Ec hA hB hL R hQ =>
  wpAny_Assign_Subscript (h A g s _ _ hA hB R fun cv v σ1 h1 tk1 h2 R1 rv t1 => h2 A g _ _ _ hA hB R1 fun co ov σ2 h3 tk2 h4 R2 ro t2 => h4 A g _ _ _ hA hB R2 fun ci iv σ3 h5 tk3 hq R3 ri t3 => by
    obtain ⟨d, x, kvs, σ4, rfl, rfl, u, hz, hq⟩ := hq
    cases ro; cases ri
    obtain ⟨ck, hd, rs⟩ := R3.rh.dict_at u.mem rfl
    have rv' : VR h5 cv v := (rv.mono t2).mono t3
    refine wpAny_setItem_pairs (s := { s with heap := h5, toks := tk3 }) (strKind_is _ _ _ _) hd (fun h' hd' hs' => ?_) (by rw [rs.length]; exact hz)
    have tk := dict_tk hd hs'
    obtain ⟨o, ho, hi⟩ := Heap.dictOf_iff.mp hd'
    exact hQ _ _ m σ4 h' _ hq (R3.upd u hs' tk ho ⟨_, hi, (rs.put rv').mono tk⟩) .next (t1.trans (t2.trans (t3.trans tk)))) hs
theorem evx_delitem {o i : Expr} {tp pos : Pos} {Q : Fl → Env' → St → Prop}
    (h : EvE prog w Bs k env o m σ fun ov σ2 => EvE prog w Bs k env i m σ2 fun iv σ3 =>
      ∃ d x kvs σ4, ov = .ref d ∧ iv = .str x ∧ (kvs.lookup x).isSome = true ∧ Up d (.dict kvs) (.dict (ddel kvs x)) σ3 σ4 ∧ kvs.length ≤ sizeLine ∧ Q .next m σ4) :
    EvX prog w Bs k env (.Delete [.Subscript o i tp] pos) m σ Q := fun A g s Qc Ec hA hB hL R hQ =>
  wpAny_Delete (wpAny_deleteEach_cons (wpAny_delete_Subscript (h A g s _ _ hA hB R fun co ov σ2 h3 tk2 h4 R2 ro t2 => h4 A g _ _ _ hA hB R2 fun ci iv σ3 h5 tk3 hq R3 ri t3 => by
    obtain ⟨d, x, kvs, σ4, rfl, rfl, hx, u, hz, hq⟩ := hq
    cases ro; cases ri
    obtain ⟨ck, hd, rs⟩ := R3.rh.dict_at u.mem rfl
    refine wpAny_delItem_slot (s := { s with heap := h5, toks := tk3 }) hd.typeIs (by decide) F.slot_dict_delitem (call_meetsIn F.slot_dict_delitem hd.typeIs F.entry_dict_delitem (F.args_dict_delitem_2 _ _) (meets_dict_delitem_pairs (strKind prog w) d (k := x) (strKind_is _ _ _ _))
      ⟨ck, hd, by rw [rs.length]; exact hz, by rw [rs.isSome]; exact hx, fun h' hd' hs' => ?_⟩)
    have tk := dict_tk hd hs'
    obtain ⟨o, ho, hi⟩ := Heap.dictOf_iff.mp hd'
    exact wpAny_deleteEach_nil (hQ _ _ m σ4 h' _ hq (R3.upd u hs' tk ho ⟨_, hi, (rs.del x).mono tk⟩) .next (t2.trans (t3.trans tk))))))

-- methods
inductive Kd (S : St) : V → String → Prop
  | list {a : Addr} {ob : O} {vs : List V} (hm : (a, ob) ∈ S) (hl : ob.peel = .list vs) : Kd S (.ref a) "list"
  | dict {a : Addr} {ob : O} {kvs : KV} (hm : (a, ob) ∈ S) (hl : ob.peel = .dict kvs) : Kd S (.ref a) "dict"
  | str (x : Str) : Kd S (.str x) "str"
theorem Kd.type {v : V} {T : String} (hk : Kd σ v T) {s : Shared} {cv : Value} (R : RH prog w g σ s.heap) (r : VR s.heap cv v) : s.TypeIs cv T ∧ ∀ a, cv = .ref a → ∃ o, s.heap.get? a = some o ∧ o.dict = none := by
  cases hk with
  | list hm hl =>
    cases r
    obtain ⟨cvs, n, ho, _⟩ := R.list_at hm hl
    exact ⟨⟨_, ho, rfl⟩, fun b e => by cases e; exact ⟨_, ho, rfl⟩⟩
  | dict hm hl =>
    cases r
    obtain ⟨ck, hd, _⟩ := R.dict_at hm hl
    exact ⟨hd.typeIs, hd.mapOf.noDict⟩
  | str x => cases r; exact ⟨rfl, fun b e => by cases e⟩
theorem ev_meth {o : Expr} {name : Str} {apos pos : Pos} {e : Expr} {rest : List Expr} {pl : Sem Bool} {Q : V → St → Prop} {T id : String} (pa : PlainAttrs T) (slot : Slot T name id) (hty : typeOf (.builtin id) = pure (.type "method_descriptor"))
    (h : EvE prog w Bs k env o m σ fun ov σ1 => Kd σ1 ov T ∧ EvA prog w Bs k env pos (e :: rest) m σ1 fun vs σ2 => EvF prog w Bs k (.builtin id) (ov :: vs) σ2 Q)
    (he : eval (.Call (.Attribute o name apos) (e :: rest) [] pos) env = (do
      let ov ← eval o env
      standAt apos.atName
      let (f, first) ← holding [ov] (getMethod ov name pl)
      callWith pos f first (backTo pos (starEach (e :: rest) env)) []) := by rfl)
    (hst : starEach (e :: rest) env = (false, eval e env) :: starEach rest env := by rfl) (hp : (backTo pos (starEach rest env)).any (·.1) = false := by rfl) :
    EvE prog w Bs k env (.Call (.Attribute o name apos) (e :: rest) [] pos) m σ Q := fun A g s Qc Ec hA hB R hQ =>
  MethodCall_ (h A g s _ _ hA hB R fun co ov σ1 h1 tk1 ⟨hk, ha⟩ R1 ro t1 => by
    obtain ⟨hT, hd⟩ := hk.type (s := { s with heap := h1, toks := tk1 }) R1.rh ro
    refine getMethod_builtin hT pa slot hty hd ?_
    show wpAny _ _ (callWith pos (.builtin id) [co] _ []) _ _ _
    rw [hst]
    refine callWith_builtin (by show (false || (backTo pos (starEach rest env)).any (·.1)) = false; rw [hp]; rfl) (evalArgs_plain ?_)
    have := ha A g { s with heap := h1, toks := tk1 } (fun vs s₁ => wpAny (model prog w) A (call (.builtin id) ([co] ++ vs)) Qc Ec s₁) Ec hA hB R1 fun cvs vs σ2 h2 tk2 hq R2 rs t2 =>
      callf_any (s := { s with heap := h2, toks := tk2 }) hq hA hB R2 (.cons (ro.mono t2) rs) fun cv v σ' h' tk hq' R' rv t => hQ cv v σ' h' tk hq' R' rv (t1.trans (t2.trans t))
    rw [hst] at this
    exact this) he
theorem ev_meth0 {o : Expr} {name : Str} {apos pos : Pos} {pl : Sem Bool} {Q : V → St → Prop} {T id : String} (pa : PlainAttrs T) (slot : Slot T name id) (hty : typeOf (.builtin id) = pure (.type "method_descriptor"))
    (h : EvE prog w Bs k env o m σ fun ov σ1 => Kd σ1 ov T ∧ EvF prog w Bs k (.builtin id) [ov] σ1 Q)
    (he : eval (.Call (.Attribute o name apos) [] [] pos) env = (do
      let ov ← eval o env
      standAt apos.atName
      let (f, first) ← holding [ov] (getMethod ov name pl)
      callWith pos f first (backTo pos (starEach [] env)) []) := by rfl) :
    EvE prog w Bs k env (.Call (.Attribute o name apos) [] [] pos) m σ Q := fun A g s Qc Ec hA hB R hQ =>
  MethodCall_ (h A g s _ _ hA hB R fun co ov σ1 h1 tk1 ⟨hk, ha⟩ R1 ro t1 => by
    obtain ⟨hT, hd⟩ := hk.type (s := { s with heap := h1, toks := tk1 }) R1.rh ro
    refine getMethod_builtin hT pa slot hty hd ?_
    show wpAny _ _ (callWith pos (.builtin id) [co] [] []) _ _ _
    exact callWith_builtin rfl (evalArgs_nil3 (callf_any (s := { s with heap := h1, toks := tk1 }) ha hA hB R1 (.cons ro .nil) fun cv v σ' h' tk hq' R' rv t => hQ cv v σ' h' tk hq' R' rv (t1.trans t)))) he

theorem bf_pop {x : Str} {v : V} {σ' : St} {Q : V → St → Prop} (u : Up d (.dict kvs) (.dict (ddel kvs x)) σ σ') (hz : kvs.length ≤ sizeLine) (hv : kvs.lookup x = some v) (hq : Q v σ') : EvF prog w Bs k (.builtin "dict.pop") [.ref d, .str x] σ Q := by
  intro A g s Qc Ec cvs hA hB R rs hQ
  cases rs with
  | cons r rs =>
    cases r
    cases rs with
    | cons rx rs =>
      cases rx; cases rs
      obtain ⟨ck, hd, rk⟩ := R.dict_at u.mem rfl
      obtain ⟨cv, hcv, rv⟩ := rk.find hv
      refine call_meetsIn F.slot_dict_pop hd.typeIs F.entry_dict_pop (F.args_dict_pop_2 _ _) (meets_dict_pop_there (strKind prog w) d (k := x) (strKind_is _ _ _ _) [] (.inl rfl) rfl)
        ⟨ck, cv, hd, by rw [rk.length]; exact hz, hcv, fun h' hd' hs => ?_⟩
      have tk := dict_tk hd hs
      obtain ⟨o, ho, hi⟩ := Heap.dictOf_iff.mp hd'
      exact hQ _ _ σ' h' _ hq (R.upd u hs tk ho ⟨_, hi, (rk.del x).mono tk⟩) (rv.mono tk) tk
theorem bf_get2 {x : Str} {dflt : V} {Q : V → St → Prop} (hm : (d, ob) ∈ σ) (hl : ob.peel = .dict kvs) (hq : Q ((kvs.lookup x).getD dflt) σ) : EvF prog w Bs k (.builtin "dict.get") [.ref d, .str x, dflt] σ Q := by
  intro A g s Qc Ec cvs hA hB R rs hQ
  cases rs with
  | cons r rs =>
    cases r
    cases rs with
    | cons rx rs =>
      cases rx
      cases rs with
      | cons rd rs =>
        cases rs
        rename_i cd
        obtain ⟨ck, hd, rk⟩ := R.dict_at hm hl
        refine call_meetsIn F.slot_dict_get hd.typeIs F.entry_dict_get (F.args_dict_get_3 _ _ _) (meets_dict_get_default (strKind prog w) d (k := x) (strKind_is _ _ _ _) (R.notModules hm) cd) ⟨_, hd.mapOf, ?_⟩
        cases q : kvs.lookup x with
        | none =>
          rw [rk.findNone q]; rw [q] at hq
          exact hQ _ _ σ s.heap _ hq R rd (.refl _)
        | some v =>
          obtain ⟨cv, e, rv⟩ := rk.find q
          rw [e]; rw [q] at hq
          exact hQ _ _ σ s.heap _ hq R rv (.refl _)
theorem bf_len_dict {Q : V → St → Prop} (hm : (d, ob) ∈ σ) (hl : ob.peel = .dict kvs) (hz : kvs.length ≤ sizeLine) (hq : Q (.int kvs.length) σ) : EvF prog w Bs k (.builtin "len") [.ref d] σ Q := by
  intro A g s Qc Ec cvs hA hB R rs hQ
  cases rs with
  | cons r rs =>
    cases r; cases rs
    obtain ⟨ck, hd, rk⟩ := R.dict_at hm hl
    rw [sizeLine_eq] at hz
    refine call_len_dict (R.notModules hm) hd (by rw [rk.length]; omega) ?_
    rw [rk.length]
    exact hQ _ _ σ s.heap _ hq R (.int ..) (.refl _)

-- views
abbrev viewO (T : String) (d : Addr) : Obj := { cls := .type T, data := .fields #[.ref d] }
theorem bf_items {Q : V → St → Prop} (hm : (d, ob) ∈ σ) (hl : ob.peel = .dict kvs) (hq : ∀ r, Q (.ref r) ((r, .obj (viewO "dict_items" d)) :: σ)) : EvF prog w Bs k (.builtin "dict.items") [.ref d] σ Q := by
  intro A g s Qc Ec cvs hA hB R rs hQ
  cases rs with
  | cons r rs =>
    cases r; cases rs
    obtain ⟨ck, hd, rk⟩ := R.dict_at hm hl
    have kp := push_keep s.heap (viewO "dict_items" d)
    exact call_meetsIn F.slot_dict_items hd.typeIs F.entry_dict_items (F.args_dict_items_1 _) (meets_dict_items (strKind prog w) d (R.notModules hm)) ⟨⟨_, hd⟩, hQ _ _ _ _ s.toks (hq _) (R.new kp (Nat.le_refl _) (Heap.get?_push_size _ rfl) rfl) (.ref _) (.of_keep kp)⟩
theorem bf_keys {Q : V → St → Prop} (hm : (d, ob) ∈ σ) (hl : ob.peel = .dict kvs) (hq : ∀ r, Q (.ref r) ((r, .obj (viewO "dict_keys" d)) :: σ)) : EvF prog w Bs k (.builtin "dict.keys") [.ref d] σ Q := by
  intro A g s Qc Ec cvs hA hB R rs hQ
  cases rs with
  | cons r rs =>
    cases r; cases rs
    obtain ⟨ck, hd, rk⟩ := R.dict_at hm hl
    have kp := push_keep s.heap (viewO "dict_keys" d)
    exact call_meetsIn F.slot_dict_keys hd.typeIs F.entry_dict_keys (F.args_dict_keys_1 _) (W.kdl_meets_keys (strKind prog w) d (R.notModules hm)) ⟨⟨_, hd⟩, hQ _ _ _ _ s.toks (hq _) (R.new kp (Nat.le_refl _) (Heap.get?_push_size _ rfl) rfl) (.ref _) (.of_keep kp)⟩
theorem bf_values {Q : V → St → Prop} (hm : (d, ob) ∈ σ) (hl : ob.peel = .dict kvs) (hq : ∀ r, Q (.ref r) ((r, .obj (viewO "dict_values" d)) :: σ)) : EvF prog w Bs k (.builtin "dict.values") [.ref d] σ Q := by
  intro A g s Qc Ec cvs hA hB R rs hQ
  cases rs with
  | cons r rs =>
    cases r; cases rs
    obtain ⟨ck, hd, rk⟩ := R.dict_at hm hl
    have kp := push_keep s.heap (viewO "dict_values" d)
    exact call_meetsIn F.slot_dict_values hd.typeIs F.entry_dict_values (F.args_dict_values_1 _) (meets_dict_values (strKind prog w) d (R.notModules hm)) ⟨⟨_, hd⟩, hQ _ _ _ _ s.toks (hq _) (R.new kp (Nat.le_refl _) (Heap.get?_push_size _ rfl) rfl) (.ref _) (.of_keep kp)⟩
/-- list(d.items()) -/
theorem bf_list_items {r : Addr} {σ' : St} {Q : V → St → Prop} (hs : σ = (r, .obj (viewO "dict_items" d)) :: σ') (hm : (d, ob) ∈ σ') (hl : ob.peel = .dict kvs) (hz : kvs.length ≤ sizeLine) (hq : ∀ c, Q (.ref c) ((c, .list (kvs.map fun p => .tup [.str p.1, p.2])) :: σ')) :
    EvF prog w Bs k (.type "list") [.ref r] σ Q := by
  subst hs
  intro A g s Qc Ec cvs hA hB R rs hQ
  cases rs with
  | cons r' rs =>
    cases r'; cases rs
    obtain ⟨ck, hd, rk⟩ := R.dict_at (.tail _ hm) hl
    obtain ⟨ep, ha⟩ := hd.dictAt
    obtain ⟨_, o, ho, e⟩ := R.own _ (.head _)
    have e' : o = viewO "dict_items" d := e
    subst e'
    refine W.kdx_call (knd := strKind prog w) hA.1 ⟨_, ho, rfl, rfl⟩ ha (by rw [rk.length]; exact hz) fun h' tk acc c as kp hn hlen hG hacc => ?_
    have R0 := R.sub (List.sublist_cons_self _ _)
    have tk' : TK s.heap h' := .of_keep kp
    have rk' := rk.mono tk'
    have key : VRs h' (as.map Value.ref) (kvs.map fun p => .tup [.str p.1, p.2]) := by
      have pr := hG.pairs
      clear hG hacc ha hd hq hn hl hz rk R0 R
      induction rk' generalizing as with
      | nil => cases as with
        | nil => exact .nil
        | cons _ _ => simp at hlen
      | cons rv rr ih =>
        rename_i x cv v cs vs'
        cases as with
        | nil => simp at hlen
        | cons a as =>
          simp only [List.map_cons]
          refine .cons ?_ (ih as (by simpa using hlen) fun j b hj => ?_)
          · obtain ⟨key, k', x', h1, h2, h3⟩ := pr 0 a rfl
            simp at h1
            obtain ⟨rfl, rfl⟩ := h1
            obtain ⟨t, rfl⟩ := Value.isStrOf_shape h2
            exact .tup (cvs := [.str x t, cv]) (n := 0) h3 (.cons (.str ..) (.cons rv .nil))
          · obtain ⟨key, k', x', h1, h2, h3⟩ := pr (j + 1) b (by simpa using hj)
            exact ⟨key, k', x', by simpa using h1, h2, h3⟩
    refine hQ _ _ _ h' tk (hq _) (R0.new kp (Nat.le_refl _) (o := lstO (as.map Value.ref) c) ?_ ⟨_, c, rfl, key⟩) (.ref _) tk'
    rw [hn, ← hacc]
/-- list(d.keys()) -/
theorem bf_list_keys {r : Addr} {σ' : St} {Q : V → St → Prop} (hs : σ = (r, .obj (viewO "dict_keys" d)) :: σ') (hm : (d, ob) ∈ σ') (hl : ob.peel = .dict kvs) (hz : kvs.length ≤ sizeLine) (hq : ∀ c, Q (.ref c) ((c, .list (kvs.map fun p => .str p.1)) :: σ')) :
    EvF prog w Bs k (.type "list") [.ref r] σ Q := by
  subst hs
  intro A g s Qc Ec cvs hA hB R rs hQ
  cases rs with
  | cons r' rs =>
    cases r'; cases rs
    obtain ⟨ck, hd, rk⟩ := R.dict_at (.tail _ hm) hl
    obtain ⟨ep, ha⟩ := hd.dictAt
    obtain ⟨_, o, ho, e⟩ := R.own _ (.head _)
    have e' : o = viewO "dict_keys" d := e
    subst e'
    refine W.kdl_call (W.kdl_keys (knd := strKind prog w) (ep := ep)) hA.1 ⟨⟨_, ho, rfl, rfl⟩, ha⟩ (by rw [rk.length]; exact hz) fun h' tk acc c kp hn hacc => ?_
    have R0 := R.sub (List.sublist_cons_self _ _)
    have key : VRs h' acc.toList (kvs.map fun p => .str p.1) := by
      have hlen : acc.toList.length = ck.length := by rw [Array.length_toList]; exact hacc.1
      have pr : ∀ (i : Nat) (v : Value), acc.toList[i]? = some v → ∃ k x, ck[i]? = some (k, x) ∧ (strKind prog w).is k v = true := fun i v e => hacc.2 i v (by rw [← Array.getElem?_toList]; exact e)
      generalize acc.toList = l at hlen pr
      clear hacc hn hq ha hd hl hz R0 R
      induction rk generalizing l with
      | nil => cases l with
        | nil => exact .nil
        | cons _ _ => simp at hlen
      | cons rv rr ih =>
        rename_i x cv v cs vs'
        cases l with
        | nil => simp at hlen
        | cons a as =>
          simp only [List.map_cons]
          refine .cons ?_ (ih as (by simpa using hlen) fun j b hj => ?_)
          · obtain ⟨k', x', h1, h2⟩ := pr 0 a rfl
            simp at h1
            obtain ⟨rfl, rfl⟩ := h1
            obtain ⟨t, rfl⟩ := Value.isStrOf_shape h2
            exact .str ..
          · obtain ⟨k', x', h1, h2⟩ := pr (j + 1) b (by simpa using hj)
            exact ⟨k', x', by simpa using h1, h2⟩
    refine hQ _ _ _ h' tk (hq _) (R0.new kp (Nat.le_refl _) (o := lstO acc.toList c) ?_ ⟨_, c, rfl, key⟩) (.ref _) (.of_keep kp)
    rw [hn]
/-- d.copy() -/
theorem bf_copy {Q : V → St → Prop} (hm : (d, ob) ∈ σ) (hl : ob.peel = .dict kvs) (hz : kvs.length ≤ sizeLine) (hq : ∀ c, Q (.ref c) ((c, .dict kvs) :: σ)) : EvF prog w Bs k (.builtin "dict.copy") [.ref d] σ Q := by
  intro A g s Qc Ec cvs hA hB R rs hQ
  cases rs with
  | cons r rs =>
    cases r; cases rs
    obtain ⟨ck, hd, rk⟩ := R.dict_at hm hl
    refine call_meetsIn F.slot_dict_copy hd.typeIs F.entry_dict_copy (F.args_dict_copy_1 _) (meets_dict_copy (strKind prog w) d (R.notModules hm)) ⟨ck, hd, by rw [rk.length]; exact hz, fun h' hn _ kp => ?_⟩
    obtain ⟨o, ho, hi⟩ := Heap.dictOf_iff.mp hn
    exact hQ _ _ _ h' s.toks (hq _) (R.new kp (Nat.le_refl _) ho ⟨_, hi, rk.mono (.of_keep kp)⟩) (.ref _) (.of_keep kp)
end
end Mine

set_option Elab.async false
set_option linter.unusedVariables false
set_option maxRecDepth 100000
namespace Mine
open PySem PyProof.Rows PySem.Calls

theorem list_no_keys : typeLookup (.type "list") "keys" = pure none := am_miss_of_fast (by kernel_rfl)
section
variable {prog : Program} {w : World} {Bs : Heap} {k : Nat} {σ : St} {g h h' : Heap} {a d : Addr} {ob : O} {vs : List V} {kvs : KV}

theorem getAttrQ_keys_list {A : Around} {E : Value → Shared → Prop} {s : Shared} {xs : Array Value} {n : Nat} {Q : Option Value → Shared → Prop}
    (hx : s.heap.get? a = some { cls := .type "list", data := .seq xs n }) (hA : A.handled = none)
    (h : ∀ h' tk, (∀ b o, s.heap.get? b = some o → h'.get? b = some o) → Q none { s with heap := h', toks := tk }) :
    wpAny (model prog w) A (getAttr? (.ref a) "keys") Q E s := by
  obtain ⟨hp, g, d, tk, os⟩ := s
  have hT : ∀ tk', (⟨hp, g, d, tk', os⟩ : Shared).TypeIs (.ref a) "list" := fun _ => ⟨_, hx, rfl⟩
  have f1 := sub_AttributeError
  have f3 := F.slot_list_getattribute.lookup
  have f4 := F.slot_list_getattribute.bind (.ref a)
  have f5 := am_list_getattr_none
  unfold getAttr? getAttrBy? getAttrBy
  repeat (any_goals (first | assumption | exact hT _ | ((with_reducible show wpAny _ _ (call (Value.builtin "list.__getattribute__") _ _) _ _ _); refine call_meets F.slot_list_getattribute (hT _) am_entry_list_getattribute (F.args_list_getattribute_2 _ _) (meets_getattribute_miss_list a xs n #[] "keys" _ list_no_keys (by decide +kernel) (by decide +kernel)) ⟨hx, hA, fun h' tk' e hx' => ?_⟩) | wp_step))
  obtain ⟨t', u', he⟩ := hx'.there
  show wpAny _ _ (getattributeRaised _ _ _ _ _ _ _) _ _ _
  unfold getattributeRaised
  repeat (any_goals (first | assumption | wp_step))
  exact h _ _ hx'.keeps

theorem entry_dict_loop : entryFor table "dict.update.loop" = some Builtin.«dict.update.loop» := entryFor_of_tree (by kernel_rfl)
theorem dict_loop {I : Addr} {cvs : List Value} {n : Nat} (hdI : d ≠ I) (haI : a ≠ I) (had : a ≠ d) : ∀ (rest : KV) (i : Nat) (acc : List (Str × Value)) (kacc : KV) (A : Around) (R : Result → Shared → Prop) (s : Shared), A.handled = none →
    s.heap.IsListIter I a i → s.heap.get? a = some (lstO cvs n) → s.heap.DictOf (strKind prog w) d acc → KVR s.heap acc kacc → VRs s.heap (cvs.drop i) (rest.map fun p => .tup [.str p.1, p.2]) → acc.length + rest.length ≤ sizeLine →
    (∀ h' tk acc', h'.DictOf (strKind prog w) d acc' → KVR h' acc' (rest.foldl (fun c p => dput c p.1 p.2) kacc) → (∀ b o, b ≠ I → b ≠ d → s.heap.get? b = some o → h'.get? b = some o) → TK s.heap h' → R (.ok (.ret .none)) { s with heap := h', toks := tk }) →
    codeAny (model prog w) A (.builtin "dict.update.loop" ⟨[.ref d, .ref I, rawInt i, .none], []⟩) R s := by
  intro rest
  induction rest with
  | nil =>
    intro i acc kacc A R s hA hit hl hd rk rs hz hR
    refine codeAny_builtin entry_dict_loop ?_
    show wpAny _ _ (pyNext (.ref I) >>= _) _ _ s
    have hx : cvs[i]? = none := by
      have : cvs.drop i = [] := by
        generalize cvs.drop i = l at rs
        cases rs; rfl
      have := List.drop_eq_nil_iff.mp this
      exact List.getElem?_eq_none this
    refine wpAny_bind (wpAny_pyNext_list_end hA hit ⟨_, hl, rfl, n, rfl⟩ (by simpa using hx) fun h' he => ?_)
    have tk : TK s.heap h' := by
      obtain ⟨o, ho, hc, _⟩ := hit
      exact tk_but (wr := [I]) (fun b o hb e => he b o (fun q => hb (by rw [q]; exact .head _)) e) fun b hb => by rw [List.mem_singleton.mp hb]; exact not_tup ho hc (by decide)
    show wpAny _ _ (Builtin.Dict.addKeywords d [] >>= fun _ => ret .none) _ _ _
    refine wpAny_bind (wpAny_pure ?_)
    exact wpAny_pure (hR h' s.toks acc (hd.extBut he hdI) (rk.mono tk) (fun b o hb _ e => he b o hb e) tk)
  | cons p rest ih =>
    intro i acc kacc A R s hA hit hl hd rk rs hz hR
    refine codeAny_builtin entry_dict_loop ?_
    show wpAny _ _ (pyNext (.ref I) >>= _) _ _ s
    obtain ⟨x, v⟩ := p
    simp only [List.map_cons] at rs
    have key : ∃ c cs, cvs.drop i = c :: cs ∧ VR s.heap c (.tup [.str x, v]) ∧ VRs s.heap cs (rest.map fun p => .tup [.str p.1, p.2]) := by
      generalize cvs.drop i = l at rs
      cases rs with
      | cons r rs => exact ⟨_, _, rfl, r, rs⟩
    obtain ⟨c, cs, hc, rc, rcs⟩ := key
    have hx : cvs[i]? = some c := by
      have := congrArg List.head? hc
      rw [List.head?_drop] at this
      simpa using this
    have hdrop : cvs.drop (i + 1) = cs := by
      have := congrArg List.tail hc
      rw [List.tail_drop] at this
      simpa using this
    refine wpAny_bind (wpAny_pyNext_list_item hit ⟨_, hl, rfl, n, rfl⟩ (by simpa using hx) fun h1 hit1 hs1 => ?_)
    have tk1 : TK s.heap h1 := by
      obtain ⟨o, ho, hcI, _⟩ := hit
      exact tk_but (wr := [I]) (fun b o hb e => (hs1.2 b (fun q => hb (by rw [q]; exact .head _))).trans e) fun b hb => by rw [List.mem_singleton.mp hb]; exact not_tup ho hcI (by decide)
    cases rc.mono tk1 with
    | @tup t cvt nt _ ht rt =>
      cases rt with
      | cons rx rt =>
        cases rt with
        | cons rv rt =>
          cases rt
          cases rx
          rename_i cv tx
          have hT : ({ s with heap := h1 } : Shared).TypeIs (.ref t) "tuple" := ⟨_, ht, rfl⟩
          have hd1 : h1.DictOf (strKind prog w) d acc := hd.sameBut hs1 hdI
          refine wpAny_bind (wpAny_holding ?_)
          refine wpAny_bind (wpAny_tryCatch ?_)
          unfold Builtin.Dict.pairItems
          refine wpAny_bind (wpAny_typeOf hT ?_)
          rw [if_pos (by decide)]
          refine wpAny_bind (wpAny_seqItems (s := { s with heap := h1 }) ht rfl (wpAny_pure ?_))
          show wpAny _ _ (holding _ (dictSet d (.str x tx) cv)) _ _ _
          have hz2 : acc.length + (rest.length + 1) ≤ sizeLine := hz
          refine wpAny_holding (wpAny_dictSet_pairs (s := { s with heap := h1 }) (strKind_is _ _ _ _) hd1 (fun h2 hd2 hs2 => ?_) (by omega))
          have tk2 : TK h1 h2 := dict_tk hd1 hs2
          refine wpAny_pure ⟨Code.quiet_builtin _ (by decide +kernel), ?_⟩
          have rk2 := ((rk.mono tk1).put (x := x) rv).mono tk2
          have hl2 : h2.get? a = some (lstO cvs n) := (hs2.2 a had).trans ((hs1.2 a haI).trans hl)
          refine ih (i + 1) (stored acc x cv) (dput kacc x v) A R { s with heap := h2, toks := s.toks + 1 } hA (by obtain ⟨o, ho, r⟩ := hit1; exact ⟨o, (hs2.2 I (Ne.symm hdI)).trans ho, r⟩) hl2 hd2 rk2 (by rw [hdrop]; exact (rcs.mono tk1).mono tk2) (by have := stored_length_le acc x cv; omega) ?_
          intro h3 tk3 acc' hd3 rk3 kp3 t3
          exact hR h3 tk3 acc' hd3 rk3 (fun b o h1' h2' e => kp3 b o h1' h2' ((hs2.2 b h2').trans ((hs1.2 b h1').trans e))) (tk1.trans (tk2.trans t3))
def dmake (ps : KV) : KV := ps.foldl (fun c p => dput c p.1 p.2) []
/-- dict(pairs) -/
theorem bf_dict_pairs {ps : KV} {Q : V → St → Prop} (hm : (a, ob) ∈ σ) (hl : ob.peel = .list (ps.map fun p => .tup [.str p.1, p.2])) (hz : ps.length ≤ sizeLine) (hq : ∀ c, Q (.ref c) ((c, .dict (dmake ps)) :: σ)) : EvF prog w Bs k (.type "dict") [.ref a] σ Q := by
  intro A g s Qc Ec cvs hA hB R rs hQ
  cases rs with
  | cons r rs =>
    cases r; cases rs
    obtain ⟨cl, n, ho, rl⟩ := R.list_at hm hl
    refine callType_codes (Q₁ := fun obj s₁ => obj = .ref s.heap.objs.size ∧ s₁ = { s with heap := s.heap.push { cls := .type "dict", data := .dict #[] } }) F.kt_called_dict (F.kt_typeCall_dict_1 _) F.entry_dict_init (kt_code_dict_new _ ⟨rfl, rfl⟩) ?_
    rintro obj s₁ ⟨rfl, rfl⟩
    have hnew : (s.heap.push { cls := .type "dict", data := .dict #[] }).DictOf (strKind prog w) s.heap.objs.size [] := Heap.DictOf.new s.heap
    have ho' := Heap.get?_push_of_some { cls := .type "dict", data := .dict #[] } ho
    have hal : a < s.heap.objs.size := Heap.lt_size ho
    refine ⟨hnew.typeIs, F.args_dict_init_2 _ _, ?_⟩
    unfold Builtin.«dict.__init__»
    refine wpAny_bind ?_
    unfold Builtin.Dict.selfAndRest
    refine wpAny_bind (wpAny_notOrdered_dict hnew.typeIs ?_)
    show wpAny _ _ (pure (s.heap.objs.size, [Value.ref a])) _ _ _
    refine wpAny_pure ?_
    show wpAny _ _ (Builtin.Dict.updateFrom "dict.__init__" s.heap.objs.size (.ref a) [] .none) _ _ _
    unfold Builtin.Dict.updateFrom
    refine wpAny_bind (wpAny_typeOf (T := "list") ⟨_, ho', rfl⟩ ?_)
    rw [if_pos (by decide)]
    refine wpAny_bind (getAttrQ_keys_list (s := { s with heap := s.heap.push { cls := .type "dict", data := .dict #[] } }) ho' hA.1 fun h1 tk1 kp1 => ?_)
    rw [if_pos (show (none : Option Value).isNone = true from rfl)]
    refine wpAny_bind (wpAny_rule ?_)
    have ho1 : h1.get? a = some (lstO cl n) := kp1 _ _ ho'
    have hd1 : h1.DictOf (strKind prog w) s.heap.objs.size [] := hnew.keep kp1
    refine wpAny_bind (wpAny_pyIter_list (s := { s with heap := h1, toks := tk1 }) ⟨_, ho1, rfl, n, rfl⟩ ?_)
    have kp2 := push_keep h1 { cls := .type "list_iterator", data := .fields #[.ref a, .int 0 0] }
    have hS : s.heap.objs.size < h1.objs.size := by
      obtain ⟨o, _, _, e, _⟩ := hd1
      exact Heap.lt_size e
    have ha1 : a < h1.objs.size := Heap.lt_size ho1
    have kpA : ∀ b o, s.heap.get? b = some o → (h1.push { cls := .type "list_iterator", data := .fields #[.ref a, .int 0 0] }).get? b = some o := fun b o e => kp2 b o (kp1 b o (Heap.get?_push_of_some _ e))
    refine wpAny_pure ⟨Code.quiet_builtin _ (by decide +kernel), ?_⟩
    refine dict_loop (Nat.ne_of_lt hS) (Nat.ne_of_lt ha1) (Nat.ne_of_lt hal) ps 0 [] [] A.in1 _ { s with heap := h1.push { cls := .type "list_iterator", data := .fields #[.ref a, .int 0 0] }, toks := tk1 } hA.1
      ⟨_, Heap.get?_push_size _ rfl, rfl, rfl⟩ (kp2 _ _ ho1) (hd1.push _) .nil (by simpa using rl.mono (.of_keep kpA)) (by simpa using hz) ?_
    intro h3 tk3 acc' hd3 rk3 kp3 t3
    have kpB : ∀ b o, s.heap.get? b = some o → h3.get? b = some o := fun b o e => kp3 b o (Nat.ne_of_lt (Nat.lt_trans (Heap.lt_size e) hS)) (Nat.ne_of_lt (Heap.lt_size e)) (kpA b o e)
    obtain ⟨o3, ho3, hi3⟩ := Heap.dictOf_iff.mp hd3
    exact ⟨rfl, hQ _ _ _ h3 tk3 (hq _) (R.new kpB (Nat.le_refl _) ho3 ⟨_, hi3, rk3⟩) (.ref _) (.of_keep kpB)⟩
end
end Mine

set_option Elab.async false
set_option linter.unusedVariables false
set_option maxRecDepth 100000
namespace Mine
open PySem PyProof.Rows PySem.Calls PySem.W PySem.Spec

mutual
inductive DV (S : St) : V → Dat → Prop
  | none : DV S .none .none
  | int (i : Int) : DV S (.int i) (.int i)
  | str (x : Str) : DV S (.str x) (.str x)
  | tup {vs : List V} {ds : List Dat} : DVs S vs ds → DV S (.tup vs) (.tuple ds)
  | list {a : Addr} {ob : O} {vs : List V} {ds : List Dat} : (a, ob) ∈ S → ob.peel = .list vs → DVs S vs ds → DV S (.ref a) (.list ds)
inductive DVs (S : St) : List V → List Dat → Prop
  | nil : DVs S [] []
  | cons {v : V} {d : Dat} {vs : List V} {ds : List Dat} : DV S v d → DVs S vs ds → DVs S (v :: vs) (d :: ds)
end
section
variable {prog : Program} {w : World} {Bs : Heap} {k : Nat} {env : Env} {m : Env'} {σ : St} {g h : Heap} {a d : Addr} {ob : O}
mutual
theorem DV.reads (R : RH prog w g σ h) : ∀ {v : V} {d : Dat} {c : Value}, DV σ v d → VR h c v → ∃ as, Reads h c (kqdP d) as
  | _, _, _, .none, .none => ⟨_, .none⟩
  | _, _, _, .int i, .int _ t => ⟨_, .int i t⟩
  | _, _, _, .str x, .str _ t => ⟨_, .str x t⟩
  | _, _, _, .tup ds, .tup ho rs => by
    obtain ⟨as, q⟩ := DVs.reads R ds rs
    rw [kqdP]
    exact ⟨as, reads_tuple_at ho rfl rfl (by simpa using q)⟩
  | _, _, _, .list hm hl ds, .ref _ => by
    obtain ⟨cvs, n, ho, rs⟩ := R.list_at hm hl
    obtain ⟨as, q⟩ := DVs.reads R ds rs
    rw [kqdP]
    exact ⟨_, reads_list_at ho rfl rfl (by simpa using q)⟩
theorem DVs.reads (R : RH prog w g σ h) : ∀ {v : List V} {d : List Dat} {c : List Value}, DVs σ v d → VRs h c v → ∃ as, ReadsAll h c (kqdPs d) as
  | _, _, _, .nil, .nil => ⟨_, .nil⟩
  | _, _, _, .cons d ds, .cons r rs => by
    obtain ⟨as, q⟩ := DV.reads R d r
    obtain ⟨bs, p⟩ := DVs.reads R ds rs
    rw [kqdPs]
    exact ⟨_, .cons q p⟩
end

variable (prog w) in
/-- a comparison, by what it does -/
def CmpG (S : St) (op : CmpOp) (a b : V) (c : Bool) : Prop :=
  ∀ (A : Around) (k : Nat) (g : Heap) (s : Shared) (ca cb : Value) (Qc Ec : Value → Shared → Prop), AOk k A → RH prog w g S s.heap → VR s.heap ca a → VR s.heap cb b → (∀ tk, Qc (.bool c) { s with toks := tk }) → wpAny (model prog w) A (compareOp op ca cb) Qc Ec s
theorem Cmp.gen {op : CmpOp} {a b : V} {c : Bool} (h : Cmp op a b c) : CmpG prog w σ op a b c := fun A k g s ca cb Qc Ec hA R ra rb hQ => cmp_any h ra rb (hQ _)
theorem CmpH.gen {op : CmpOp} {a b : V} {c : Bool} (h : CmpH σ op a b c) : CmpG prog w σ op a b c := fun A k g s ca cb Qc Ec hA R ra rb hQ => cmpH_any h R ra rb hQ
theorem shaped_of {d : Dat} (h : kqdOk 9 d = true) : SeqAt.shaped (kqdP d) = true := by
  have l := kqd_lay 9 d h
  unfold SeqAt.shaped; rw [l.1, Bool.true_and]; exact decide_eq_true (Nat.le_trans l.2 (by decide))
theorem cmp_eqD {x y : V} {d e : Dat} {c : Bool} (dx : DV σ x d) (dy : DV σ y e) (hd : kqdOk 9 d = true) (he : kqdOk 9 e = true) (hc : c = true ↔ d = e) : CmpG prog w σ .Eq x y c := fun A k g s ca cb Qc Ec hA R ra rb hQ => by
  obtain ⟨as, r1⟩ := dx.reads R ra
  obtain ⟨bs, r2⟩ := dy.reads R rb
  refine eq_dataH r1 r2 (shaped_of hd) (shaped_of he) (by have := hA.2.2; omega) ?_
  have q := kqd_eqv 9 d e 9 hd he
  have : PyData.eqv (kqdP d) (kqdP e) = c := by
    cases c with
    | true => exact q.mpr (hc.mp rfl)
    | false => exact Bool.eq_false_iff.mpr fun x => absurd (hc.mpr (q.mp x)) (by simp)
  rw [this]; exact hQ _
theorem cmp_neD {x y : V} {d e : Dat} {c : Bool} (dx : DV σ x d) (dy : DV σ y e) (hd : kqdOk 9 d = true) (he : kqdOk 9 e = true) (hc : c = true ↔ d = e) : CmpG prog w σ .NotEq x y (!c) := fun A k g s ca cb Qc Ec hA R ra rb hQ => by
  obtain ⟨as, r1⟩ := dx.reads R ra
  obtain ⟨bs, r2⟩ := dy.reads R rb
  refine ne_dataH r1 r2 (shaped_of hd) (shaped_of he) (by have := hA.2.2; omega) ?_
  have q := kqd_eqv 9 d e 9 hd he
  have : PyData.eqv (kqdP d) (kqdP e) = c := by
    cases c with
    | true => exact q.mpr (hc.mp rfl)
    | false => exact Bool.eq_false_iff.mpr fun x => absurd (hc.mpr (q.mp x)) (by simp)
  rw [this]; exact hQ _
theorem evb_cmpG {l r : Expr} {op : CmpOp} {pos : Pos} {Q : Bool → St → Prop}
    (h : EvE prog w Bs k env l m σ fun a σ1 => EvE prog w Bs k env r m σ1 fun b σ2 => ∃ c, CmpG prog w σ2 op a b c ∧ Q c σ2) (hm : behindInMarks op r = false := by with_unfolding_all rfl) :
    EvB prog w Bs k env (.Compare l [op] [r] pos) m σ Q := fun A g s Qc Ec hA hB R hQ =>
  wpAny_isTrue_Compare1 (Ev.two (Qc := fun c d s₂ => wpAny (model prog w) A (compareOp op c d) (fun c s₃ => wpAny (model prog w) A (truthy c) Qc Ec s₃) Ec s₂) h (fun t r => r.mono t) hA hB R fun c d a b σ' h' tk ⟨v, hv, hq⟩ R' ra rb t =>
    hv A k _ { s with heap := h', toks := tk } _ _ _ _ hA R'.rh ra rb fun tk' => wpAny_truthy_bool (hQ _ _ σ' h' tk' hq R' rfl t)) hm
theorem ev_cmpG {l r : Expr} {op : CmpOp} {pos : Pos} {Q : V → St → Prop}
    (h : EvE prog w Bs k env l m σ fun a σ1 => EvE prog w Bs k env r m σ1 fun b σ2 => ∃ c, CmpG prog w σ2 op a b c ∧ Q (.bool c) σ2) (hm : behindInMarks op r = false := by with_unfolding_all rfl) :
    EvE prog w Bs k env (.Compare l [op] [r] pos) m σ Q := fun A g s Qc Ec hA hB R hQ =>
  wpAny_Compare1 (Ev.two (Qc := fun c d s₂ => wpAny (model prog w) A (compareOp op c d) Qc Ec s₂) h (fun t r => r.mono t) hA hB R fun c d a b σ' h' tk ⟨v, hv, hq⟩ R' ra rb t =>
    hv A k _ { s with heap := h', toks := tk } _ _ _ _ hA R'.rh ra rb fun tk' => hQ _ _ σ' h' tk' hq R' (.bool _) t) hm

-- the pairs of a dict as data
def kvD (p : Str × Int) : Dat := .tuple [.str p.1, .int p.2]
def kvV (p : Str × Int) : V := .tup [.str p.1, .int p.2]
theorem dvs_kv {S : St} : ∀ (ps : List (Str × Int)), DVs S (ps.map kvV) (ps.map kvD)
  | [] => .nil
  | p :: ps => .cons (.tup (.cons (.str _) (.cons (.int _) .nil))) (dvs_kv ps)
theorem kvD_inj {p q : Str × Int} (h : kvD p = kvD q) : p = q := by
  obtain ⟨a, b⟩ := p; obtain ⟨c, d⟩ := q
  simp [kvD] at h; simp [h]
theorem kvDs_inj : ∀ {ps qs : List (Str × Int)}, ps.map kvD = qs.map kvD → ps = qs
  | [], [], _ => rfl
  | [], _ :: _, h => by simp at h
  | _ :: _, [], h => by simp at h
  | p :: ps, q :: qs, h => by
    simp only [List.map_cons, List.cons.injEq] at h
    rw [kvD_inj h.1, kvDs_inj h.2]

-- type(x)
inductive Ty : V → String → Prop
  | int (i : Int) : Ty (.int i) "int"
  | str (x : Str) : Ty (.str x) "str"
  | bool (b : Bool) : Ty (.bool b) "bool"
  | none : Ty .none "NoneType"
theorem bf_type {v : V} {T : String} {Q : V → St → Prop} (ht : Ty v T) (hq : Q (.raw (.type T)) σ) : EvF prog w Bs k (.type "type") [v] σ Q := by
  intro A g s Qc Ec cvs hA hB R rs hQ
  cases rs with
  | cons r rs =>
    cases rs
    have fin := hQ (.type T) (.raw (.type T)) σ s.heap s.toks hq R (.raw _) (.refl _)
    cases ht <;> cases r <;> exact call_type_of rfl (by decide) fin
theorem bf_abs {i : Int} {Q : V → St → Prop} (hq : Q (.int (if i < 0 then -i else i)) σ) : EvF prog w Bs k (.builtin "abs") [.int i] σ Q := by
  intro A g s Qc Ec cvs hA hB R rs hQ
  cases rs with
  | cons r rs =>
    cases rs; cases r
    exact call_abs_int fun u tk => hQ _ _ σ s.heap tk hq R (.int ..) (.refl _)
theorem bf_max2 {i j : Int} {Q : V → St → Prop} (hq : Q (.int (if j > i then j else i)) σ) : EvF prog w Bs k (.builtin "max") [.int i, .int j] σ Q := by
  intro A g s Qc Ec cvs hA hB R rs hQ
  cases rs with
  | cons r rs =>
    cases r
    cases rs with
    | cons r rs =>
      cases r; cases rs
      refine max_two_ints hA.1 fun h' tk kp => ?_
      refine hQ _ _ σ h' tk hq (R.ext kp) ?_ (.of_keep kp)
      split <;> exact .int ..
theorem bf_max3 {i j l : Int} {Q : V → St → Prop} (hq : Q (.int (if j > i then (if l > j then l else j) else (if l > i then l else i))) σ) : EvF prog w Bs k (.builtin "max") [.int i, .int j, .int l] σ Q := by
  intro A g s Qc Ec cvs hA hB R rs hQ
  cases rs with
  | cons r rs =>
    cases r
    cases rs with
    | cons r rs =>
      cases r
      cases rs with
      | cons r rs =>
        cases r; cases rs
        refine max_three_ints hA.1 fun h' tk kp => ?_
        refine hQ _ _ σ h' tk hq (R.ext kp) ?_ (.of_keep kp)
        split <;> split <;> exact .int ..
end
end Mine

set_option Elab.async false
set_option linter.unusedVariables false
set_option maxRecDepth 100000
namespace Mine
open PySem PyProof.Rows PySem.Calls PySem.W PySem.Spec

/-- the text's world -/
structure Ctx (Bs : Heap) (mg mb : Str → Option Value) : Prop where
  g : Bs.Ns mainGlobals mg
  b : Bs.Ns builtinsNs mb
  lim : Bs.NoLimit
def defAt (p : Program) (i : Nat) : DefRec := match p.main.body[i]? with
  | some (.FunctionDef name params body _ _ _ scope _ _ pos) => ⟨name, params, body, scope, pos⟩
  | _ => ⟨"", ⟨[], [], none, [], [], none, []⟩, [], { kind := .function, names := [], isGenerator := false, isCoroutine := false }, default⟩
/-- a def of the text, as it stands -/
structure FnAt (Bs : Heap) (mg : Str → Option Value) (fn : Str) (d : DefRec) (f : Addr) (pm code doc : Value) : Prop where
  nm : d.name = fn
  name : mg d.name = some (.ref f)
  obj : ∃ o, Bs.get? f = some o ∧ o.data = .func (docDef d.name d.params d.body d.scope pm code doc)
  code : Bs.CodeRec code d.name

theorem if_tt {c : Bool} {A B : Prop} (h : c = true) (a : A) : if c then A else B := by rw [h]; exact a
theorem if_ff {c : Bool} {A B : Prop} (h : c = false) (b : B) : if c then A else B := by rw [h]; exact b
def leE : Env' → Env' → Prop
  | [], _ => True
  | p :: r, m => m.lookup p.1 = some p.2 ∧ leE r m
theorem leE.get : ∀ {m1 m : Env'}, leE m1 m → ∀ x v, m1.lookup x = some v → m.lookup x = some v
  | [], _, _, x, v, e => by simp at e
  | (y, u) :: r, m, h, x, v, e => by
    rw [List.lookup_cons] at e
    cases q : x == y with
    | true => rw [q] at e; cases e; rw [eq_of_beq q]; exact h.1
    | false => rw [q] at e; exact leE.get h.2 x v e

section
variable {prog : Program} {w : World} {Bs : Heap} {k : Nat} {env : Env} {m : Env'} {σ : St} {g h : Heap} {a d : Addr} {ob : O} {mg mb : Str → Option Value} {vs : List V} {kvs : KV}

theorem EvSt.le {L : Addr} {t : Sem Flow} {Q : Fl → Env' → St → Prop} {m' : Env'} (s : leE m' m) (h : EvSt prog w Bs k L t m' σ Q) : EvSt prog w Bs k L t m σ Q := h.weakEnv s.get

theorem evf_def {fn : Str} {D : DefRec} {f : Addr} {pm code doc : Value} {ps : List Str} {Q : V → St → Prop} (C : Ctx Bs mg mb) (F : FnAt Bs mg fn D f pm code doc)
    (hbind : ∀ cvs : List Value, cvs.length = ps.length → bindArgs (docDef D.name D.params D.body D.scope pm code doc) ⟨cvs, []⟩ = pure (ps.zip cvs)) (hlen : vs.length = ps.length)
    (h : ∀ L, EvS prog w Bs k (callEnvC (docDef D.name D.params D.body D.scope pm code doc) L f) D.body (locs (docDef D.name D.params D.body D.scope pm code doc) ps vs) (cellsσ (docDef D.name D.params D.body D.scope pm code doc) L ps vs ++ σ) fun fl _ σ' => ∃ σ'', SubP σ'' σ' ∧ Q (retOf fl) σ'')
    (hnp : ps.Nodup) (hkind : ∀ x ∈ ps, D.scope.names.lookup x = some .local ∨ (D.scope.names.lookup x = some .cell ∧ ∀ n, ((cellsFrom n D.scope.names []).lookup x).isSome = true)) (hnn : (D.scope.names.map (·.1)).Nodup)
    (hco : D.scope.isCoroutine = false) (hgen : D.scope.isGenerator = false) (hk : D.scope.kind = .function) : EvF prog w Bs (k + 1) (.ref f) vs σ Q := by
  obtain ⟨o, ho, hd⟩ := F.obj
  exact evf ho hd C.lim F.code rfl hbind hlen h rfl hnp hkind hnn hco hgen hk
theorem cellsFrom_some : ∀ (names : List (Str × NameKind)) (n : Nat) (acc : List (Str × Addr)) (x : Str), ((acc.lookup x).isSome = true ∨ names.lookup x = some .cell) → ((cellsFrom n names acc).lookup x).isSome = true
  | [], n, acc, x, h => by
    rcases h with h | h
    · simpa [cellsFrom] using h
    · simp at h
  | (y, kd) :: r, n, acc, x, h => by
    unfold cellsFrom
    split
    · refine cellsFrom_some r _ _ x ?_
      cases q : x == y with
      | true => left; rw [List.lookup_cons, q]; rfl
      | false =>
        rcases h with h | h
        · left; rw [List.lookup_cons, q]; exact h
        · right; rw [List.lookup_cons, q] at h; exact h
    · rename_i hc
      refine cellsFrom_some r _ _ x ?_
      rcases h with h | h
      · exact .inl h
      · rw [List.lookup_cons] at h
        cases q : x == y with
        | true =>
          rw [q] at h; cases h
          first | exact absurd rfl hc | (simp at hc)
        | false => rw [q] at h; exact .inr h
theorem cellsFrom_nil : ∀ (names : List (Str × NameKind)) (n : Nat), (names.all fun p => p.2 != .cell) = true → cellsFrom n names [] = []
  | [], n, _ => rfl
  | (y, kd) :: r, n, h => by
    simp only [List.all_cons, Bool.and_eq_true] at h
    unfold cellsFrom
    split
    · rename_i hc
      exfalso
      have h1 := h.1
      first | (rw [hc] at h1; exact absurd h1 (by decide)) | (simp at hc h1; exact h1 hc)
    · exact cellsFrom_nil r n h.2
/-- a def without cells -/
def noCells (sc : Scope) (ps : List Str) : Bool := (ps.all fun x => sc.names.lookup x == some .local) && (sc.names.all fun p => p.2 != .cell)
def lawful (sc : Scope) (ps : List Str) : Bool := decide ps.Nodup && decide (sc.names.map (·.1)).Nodup && (ps.all fun x => sc.names.lookup x == some .local || sc.names.lookup x == some .cell) && !sc.isCoroutine && !sc.isGenerator && decide (sc.kind = .function)
theorem evf_nc {fn : Str} {D : DefRec} {f : Addr} {pm code doc : Value} {ps : List Str} {Q : V → St → Prop} (C : Ctx Bs mg mb) (F : FnAt Bs mg fn D f pm code doc)
    (hbind : ∀ cvs : List Value, cvs.length = ps.length → bindArgs (docDef D.name D.params D.body D.scope pm code doc) ⟨cvs, []⟩ = pure (ps.zip cvs)) (hlen : vs.length = ps.length)
    (hs : lawful D.scope ps = true) (hc : noCells D.scope ps = true)
    (h : ∀ L, EvS prog w Bs k (callEnvC (docDef D.name D.params D.body D.scope pm code doc) L f) D.body (ps.zip vs) σ fun fl _ σ' => ∃ σ'', SubP σ'' σ' ∧ Q (retOf fl) σ'') : EvF prog w Bs (k + 1) (.ref f) vs σ Q := by
  simp only [lawful, Bool.and_eq_true, decide_eq_true_eq, Bool.not_eq_true', List.all_eq_true, Bool.or_eq_true, beq_iff_eq] at hs
  obtain ⟨⟨⟨⟨⟨h1, h2⟩, h3⟩, h4⟩, h5⟩, h6⟩ := hs
  simp only [noCells, Bool.and_eq_true, List.all_eq_true, beq_iff_eq] at hc
  refine evf_def C F hbind hlen (fun L => ?_) h1 (fun x hx => .inl (hc.1 x hx)) h2 h4 h5 h6
  have e1 : cellsσ (docDef D.name D.params D.body D.scope pm code doc) L ps vs = [] := by
    unfold cellsσ
    show List.map _ (cellsFrom (L + 1) D.scope.names []) = []
    rw [cellsFrom_nil _ _ (List.all_eq_true.mpr hc.2)]; rfl
  have e2 : locs (docDef D.name D.params D.body D.scope pm code doc) ps vs = ps.zip vs := by
    unfold locs
    refine List.filter_eq_self.mpr fun p hp => ?_
    have := hc.1 p.1 (zip_map_fst _ _ p hp)
    show (D.scope.names.lookup p.1 == some .local) = true
    rw [this]; rfl
  rw [e1, e2, List.nil_append]
  exact h L
theorem evf_c {fn : Str} {D : DefRec} {f : Addr} {pm code doc : Value} {ps : List Str} {Q : V → St → Prop} (C : Ctx Bs mg mb) (F : FnAt Bs mg fn D f pm code doc)
    (hbind : ∀ cvs : List Value, cvs.length = ps.length → bindArgs (docDef D.name D.params D.body D.scope pm code doc) ⟨cvs, []⟩ = pure (ps.zip cvs)) (hlen : vs.length = ps.length)
    (hs : lawful D.scope ps = true)
    (h : ∀ L, EvS prog w Bs k (callEnvC (docDef D.name D.params D.body D.scope pm code doc) L f) D.body (locs (docDef D.name D.params D.body D.scope pm code doc) ps vs) (cellsσ (docDef D.name D.params D.body D.scope pm code doc) L ps vs ++ σ) fun fl _ σ' => ∃ σ'', SubP σ'' σ' ∧ Q (retOf fl) σ'') : EvF prog w Bs (k + 1) (.ref f) vs σ Q := by
  simp only [lawful, Bool.and_eq_true, decide_eq_true_eq, Bool.not_eq_true', List.all_eq_true, Bool.or_eq_true, beq_iff_eq] at hs
  obtain ⟨⟨⟨⟨⟨h1, h2⟩, h3⟩, h4⟩, h5⟩, h6⟩ := hs
  refine evf_def C F hbind hlen h h1 (fun x hx => (h3 x hx).imp id fun q => ⟨q, fun n => cellsFrom_some _ _ _ _ (.inr q)⟩) h2 h4 h5 h6
theorem evf_cs {fn : Str} {D : DefRec} {f : Addr} {pm code doc : Value} {ps : List Str} {Q : V → St → Prop} (C : Ctx Bs mg mb) (F : FnAt Bs mg fn D f pm code doc)
    (hbind : ∀ cvs : List Value, cvs.length = ps.length → bindArgs (docDef D.name D.params D.body D.scope pm code doc) ⟨cvs, []⟩ = pure (ps.zip cvs)) (hlen : vs.length = ps.length)
    (hs : lawful D.scope ps = true) (ls : Env') (st : Addr → St) (hls : locs (docDef D.name D.params D.body D.scope pm code doc) ps vs = ls) (hst : ∀ L, cellsσ (docDef D.name D.params D.body D.scope pm code doc) L ps vs ++ σ = st L)
    (h : ∀ L, EvS prog w Bs k (callEnvC (docDef D.name D.params D.body D.scope pm code doc) L f) D.body ls (st L) fun fl _ σ' => ∃ σ'', SubP σ'' σ' ∧ Q (retOf fl) σ'') : EvF prog w Bs (k + 1) (.ref f) vs σ Q :=
  evf_c C F hbind hlen hs fun L => by rw [hls, hst]; exact h L
theorem ev_fn {D : DefRec} {f : Addr} {pm code doc : Value} {fn : Str} {p pos : Pos} {e : Expr} {rest : List Expr} {Q : V → St → Prop} (C : Ctx Bs mg mb) (F : FnAt Bs mg fn D f pm code doc)
    (h : EvA prog w Bs k env pos (e :: rest) m σ fun vs σ1 => EvF prog w Bs k (.ref f) vs σ1 Q)
    (hg : env.globals = mainGlobals := by rfl) (hk : env.scope.kind = .function := by rfl) (hx : env.kindOf fn = some .globalImplicit := by rfl) (hd : (fn == ("__debug__" : Str)) = false := by decide)
    (he : starEach (e :: rest) env = (false, eval e env) :: starEach rest env := by rfl) : EvE prog w Bs k env (.Call (.Name fn p) (e :: rest) [] pos) m σ Q := by
  obtain ⟨o, ho, hdd⟩ := F.obj
  have hmg := F.name
  rw [F.nm] at hmg
  exact ev_call ho hdd (ev_global (hg ▸ C.g) hmg (.raw _) ⟨rfl, h⟩ hk hx hd) he
theorem ev_fn0 {D : DefRec} {f : Addr} {pm code doc : Value} {fn : Str} {p pos : Pos} {Q : V → St → Prop} (C : Ctx Bs mg mb) (F : FnAt Bs mg fn D f pm code doc)
    (h : EvF prog w Bs k (.ref f) [] σ Q)
    (hg : env.globals = mainGlobals := by rfl) (hk : env.scope.kind = .function := by rfl) (hx : env.kindOf fn = some .globalImplicit := by rfl) (hd : (fn == ("__debug__" : Str)) = false := by decide) : EvE prog w Bs k env (.Call (.Name fn p) [] [] pos) m σ Q := by
  obtain ⟨o, ho, hdd⟩ := F.obj
  have hmg := F.name
  rw [F.nm] at hmg
  exact ev_call0 ho hdd (ev_global (hg ▸ C.g) hmg (.raw _) ⟨rfl, h⟩ hk hx hd)

variable (Bs mg mb) in
/-- a built-in name, seen from the text -/
structure BIs (x : Str) (v : Value) : Prop where
  ctx : Ctx Bs mg mb
  off : mg x = none
  val : mb x = some v
theorem ev_bfn {id : String} {fn : Str} {p pos : Pos} {e : Expr} {rest : List Expr} {Q : V → St → Prop} (B : BIs Bs mg mb fn (.builtin id))
    (h : EvA prog w Bs k env pos (e :: rest) m σ fun vs σ1 => EvF prog w Bs k (.builtin id) vs σ1 Q)
    (hg : env.globals = mainGlobals := by rfl) (hb : env.builtins = builtinsNs := by rfl) (hk : env.scope.kind = .function := by rfl) (hx : env.kindOf fn = some .globalImplicit := by rfl) (hd : (fn == ("__debug__" : Str)) = false := by decide)
    (he : starEach (e :: rest) env = (false, eval e env) :: starEach rest env := by rfl) (hp : (backTo pos (starEach rest env)).any (·.1) = false := by rfl) : EvE prog w Bs k env (.Call (.Name fn p) (e :: rest) [] pos) m σ Q :=
  ev_callb (ev_builtin (hg ▸ B.ctx.g) B.off (hb ▸ B.ctx.b) B.val ⟨rfl, h⟩ hk hx hd) he hp
theorem ev_tfn {T : String} {fn : Str} {p pos : Pos} {e : Expr} {rest : List Expr} {Q : V → St → Prop} (B : BIs Bs mg mb fn (.type T))
    (h : EvA prog w Bs k env pos (e :: rest) m σ fun vs σ1 => EvF prog w Bs k (.type T) vs σ1 Q)
    (hg : env.globals = mainGlobals := by rfl) (hb : env.builtins = builtinsNs := by rfl) (hk : env.scope.kind = .function := by rfl) (hx : env.kindOf fn = some .globalImplicit := by rfl) (hd : (fn == ("__debug__" : Str)) = false := by decide)
    (he : starEach (e :: rest) env = (false, eval e env) :: starEach rest env := by rfl) (hp : (backTo pos (starEach rest env)).any (·.1) = false := by rfl) : EvE prog w Bs k env (.Call (.Name fn p) (e :: rest) [] pos) m σ Q :=
  ev_callt (ev_builtin (hg ▸ B.ctx.g) B.off (hb ▸ B.ctx.b) B.val ⟨rfl, h⟩ hk hx hd) he hp
theorem ev_tname {T : String} {x : Str} {p : Pos} {Q : V → St → Prop} (B : BIs Bs mg mb x (.type T)) (h : Q (.raw (.type T)) σ)
    (hg : env.globals = mainGlobals := by rfl) (hb : env.builtins = builtinsNs := by rfl) (hk : env.scope.kind = .function := by rfl) (hx : env.kindOf x = some .globalImplicit := by rfl) (hd : (x == ("__debug__" : Str)) = false := by decide) : EvE prog w Bs k env (.Name x p) m σ Q :=
  ev_builtin (hg ▸ B.ctx.g) B.off (hb ▸ B.ctx.b) B.val h hk hx hd

theorem len_ok {n : Nat} (h : n ≤ 10000) : n ≤ sizeLine := by rw [sizeLine_eq]; omega
variable (prog w) in
/-- a sum, by what it does -/
def AddG (S : St) (a b : V) (Q : V → St → Prop) : Prop :=
  ∀ (A : Around) (g : Heap) (L : Addr) (m : Env') (s : Shared) (ca cb : Value) (Qc Ec : Value → Shared → Prop), Rel prog w g L m S s.heap → VR s.heap ca a → VR s.heap cb b →
    (∀ cv v σ' h' tk, Q v σ' → Rel prog w g L m σ' h' → VR h' cv v → TK s.heap h' → Qc cv { s with heap := h', toks := tk }) → wpAny (model prog w) A (binaryOp .Add ca cb) Qc Ec s
theorem addG_int {i j : Int} {Q : V → St → Prop} (h : Q (.int (i + j)) σ) : AddG prog w σ (.int i) (.int j) Q := fun A g L m s ca cb Qc Ec R ra rb hQ => by
  exact bin_any (Bin.add i j) ra rb fun cv tk r => hQ cv _ σ s.heap tk h R r (.refl _)
theorem addG_str {x y : Str} {Q : V → St → Prop} (hz : x.length + y.length ≤ sizeLine) (h : Q (.str (x ++ y)) σ) : AddG prog w σ (.str x) (.str y) Q := fun A g L m s ca cb Qc Ec R ra rb hQ => by
  exact bin_any (Bin.cat x y hz) ra rb fun cv tk r => hQ cv _ σ s.heap tk h R r (.refl _)
theorem addG_list {a b : Addr} {oa ob : O} {va vb : List V} {Q : V → St → Prop} (ma : (a, oa) ∈ σ) (mb : (b, ob) ∈ σ) (la : oa.peel = .list va) (lb : ob.peel = .list vb) (hz : va.length + vb.length ≤ sizeLine) (hq : ∀ c, Q (.ref c) ((c, .list (va ++ vb)) :: σ)) :
    AddG prog w σ (.ref a) (.ref b) Q := fun A g L m s c d Qc Ec R' rx ry hQ => by
  cases rx; cases ry
  obtain ⟨ca, na, hoa, ra⟩ := R'.rh.list_at ma la
  obtain ⟨cb, nb, hob, rb⟩ := R'.rh.list_at mb lb
  have kp := push_keep s.heap (lstO (ca ++ cb) 0)
  refine P.add_list hoa hob ?_ (by simp [ra.length, rb.length]; exact hz)
  have e : ca.toArray ++ cb.toArray = (ca ++ cb).toArray := by simp
  rw [e]
  exact hQ _ _ _ _ s.toks (hq _) (R'.new kp (Nat.le_refl _) (o := lstO (ca ++ cb) 0) (Heap.get?_push_size _ rfl) ⟨_, 0, rfl, (ra.append rb).mono (.of_keep kp)⟩) (.ref _) (.of_keep kp)
theorem ev_addG {l r : Expr} {pos : Pos} {Q : V → St → Prop} (h : EvE prog w Bs k env l m σ fun x σ1 => EvE prog w Bs k env r m σ1 fun y σ2 => AddG prog w σ2 x y Q) :
    EvE prog w Bs k env (.BinOp l .Add r pos) m σ Q := fun A g s Qc Ec hA hB R hQ =>
  wpAny_BinOp (Ev.two (Qc := fun c d s₂ => wpAny (model prog w) A (binaryOp .Add c d) Qc Ec s₂) h (fun t r => r.mono t) hA hB R fun c d x y σ' h' tk hq R' rx ry t =>
    hq A g env.locals m { s with heap := h', toks := tk } c d Qc Ec R' rx ry fun cv v σ2 h2 tk2 q R2 r2 t2 => hQ cv v σ2 h2 tk2 q R2 r2 (t.trans t2))
variable (Bs mg mb) in
/-- a constant of the text -/
structure GIs (x : Str) (v : V) : Prop where
  ctx : Ctx Bs mg mb
  val : ∃ cv, mg x = some cv ∧ VR Bs cv v
theorem ev_gname {v : V} {x : Str} {p : Pos} {Q : V → St → Prop} (B : GIs Bs mg mb x v) (h : Q v σ)
    (hg : env.globals = mainGlobals := by rfl) (hk : env.scope.kind = .function := by rfl) (hx : env.kindOf x = some .globalImplicit := by rfl) (hd : (x == ("__debug__" : Str)) = false := by decide) : EvE prog w Bs k env (.Name x p) m σ Q := by
  obtain ⟨cv, h1, h2⟩ := B.val
  exact ev_global (hg ▸ B.ctx.g) h1 h2 h hk hx hd
/-- ways that meet behind a statement -/
theorem evs_join {α : Type} {st : Stmt} {rest : List Stmt} {Q : Fl → Env' → St → Prop} (P : α → Prop) (mm : α → Env') (ss : α → St)
    (h1 : EvX prog w Bs k env st m σ fun f m' σ' => f = .next ∧ ∃ y, P y ∧ leE (mm y) m' ∧ SubP (ss y) σ') (h2 : ∀ y, P y → EvS prog w Bs k env rest (mm y) (ss y) Q) : EvS prog w Bs k env (st :: rest) m σ Q :=
  evs_cons (h1.mono fun f m' σ' ⟨e, y, hp, hm, hs⟩ => by subst e; exact EvSt.le hm (EvSt.subP hs (h2 y hp)))
theorem mul_ok {a b : Int} (h0 : 0 ≤ a) (h1 : a < 1000000) : IntMulOk a b := .of_left (by
  obtain ⟨n, rfl⟩ : ∃ n : Nat, a = n := ⟨a.toNat, by omega⟩
  unfold Builtin.Int.intBits
  split
  · omega
  · rename_i hn
    have h2 : n ≠ 0 := fun e => hn (by rw [e]; rfl)
    have : (n : Int).natAbs.log2 < 63 := (Nat.log2_lt (by simpa using h2)).mpr (by simp; omega)
    omega)
/-- the loop by an invariant over what was walked -/
theorem forB_inv {bnd : Env' → V → Env'} {body : List Stmt} {need : St → Prop} {Q : Fl → Env' → St → Prop} (Inv : List V → Env' → St → Prop) {vs : List V}
    (step : ∀ pre v post m σ, vs = pre ++ v :: post → Inv pre m σ → EvS prog w Bs k env body (bnd m v) σ fun f m' σ' => match f with
      | .brk => Q .next m' σ'
      | .ret u => Q (.ret u) m' σ'
      | _ => ∃ m1 σ1, leE m1 m' ∧ SubP σ1 σ' ∧ need σ1 ∧ Inv (pre ++ [v]) m1 σ1)
    (done : ∀ m1 σ1 m σ, leE m1 m → SubP σ1 σ → Inv vs m1 σ1 → Q .next m σ)
    {m1 : Env'} {σ1 : St} (hm : leE m1 m) (hs : SubP σ1 σ) (h0 : Inv [] m1 σ1)
    (mono : ∀ v m1 m, (∀ x u, m1.lookup x = some u → m.lookup x = some u) → (∀ x u, (bnd m1 v).lookup x = some u → (bnd m v).lookup x = some u)) (hn : ∀ σ1 σ, SubP σ1 σ → need σ1 → need σ) : ForB prog w Bs k env bnd body need Q vs m σ := by
  have key : ∀ (post pre : List V) (m1 : Env') (σ1 : St) (m : Env') (σ : St), vs = pre ++ post → leE m1 m → SubP σ1 σ → Inv pre m1 σ1 → ForB prog w Bs k env bnd body need Q post m σ := by
    intro post
    induction post with
    | nil =>
      intro pre m1 σ1 m σ e hm hs hi
      rw [List.append_nil] at e; subst e
      exact done m1 σ1 m σ hm hs hi
    | cons v post ih =>
      intro pre m1 σ1 m σ e hm hs hi
      refine EvSt.weakEnv (mono v m1 m hm.get) (EvSt.subP hs ((step pre v post m1 σ1 e hi).mono fun f m' σ' hq => ?_))
      have nx : (∃ m1 σ1, leE m1 m' ∧ SubP σ1 σ' ∧ need σ1 ∧ Inv (pre ++ [v]) m1 σ1) → need σ' ∧ ForB prog w Bs k env bnd body need Q post m' σ' := by
        rintro ⟨m2, σ2, h1, h2, h3, h4⟩
        exact ⟨hn _ _ h2 h3, ih (pre ++ [v]) m2 σ2 m' σ' (by rw [e]; simp) h1 h2 h4⟩
      cases f with
      | next => exact nx hq
      | cont => exact nx hq
      | brk => exact hq
      | ret u => exact hq
  exact key vs [] m1 σ1 m σ rfl hm hs h0
theorem mset_mono {x : Str} (v : V) (m1 m : Env') (h : ∀ y u, m1.lookup y = some u → m.lookup y = some u) : ∀ y u, (mset m1 x v).lookup y = some u → (mset m x v).lookup y = some u := fun y u e => by
  rw [lookup_mset] at e ⊢
  cases q : y == x with
  | true => rw [q] at e; simpa using e
  | false => rw [q] at e; simpa using h y u (by simpa using e)
/-- for x in a list of the ledger -/
theorem evx_for_list {x : Str} {px pos : Pos} {iter : Expr} {body : List Stmt} {Q : Fl → Env' → St → Prop}
    (h : EvE prog w Bs k env iter m σ fun v σ1 => ∃ a ob vs, v = .ref a ∧ (a, ob) ∈ σ1 ∧ ob.peel = .list vs ∧ ∃ (Inv : List V → Env' → St → Prop) (m1 : Env') (σ2 : St), leE m1 m ∧ SubP σ2 σ1 ∧ Inv [] m1 σ2 ∧
      (∀ pre v post m σ, vs = pre ++ v :: post → Inv pre m σ → EvS prog w Bs k env body (mset m x v) σ fun f m' σ' => match f with
        | .brk => Q .next m' σ'
        | .ret u => Q (.ret u) m' σ'
        | _ => ∃ m1 σ1, leE m1 m' ∧ SubP σ1 σ' ∧ (a, ob) ∈ σ1 ∧ Inv (pre ++ [v]) m1 σ1) ∧
      (∀ m1 σ1 m σ, leE m1 m → SubP σ1 σ → Inv vs m1 σ1 → Q .next m σ))
    (hl : env.kindOf x = some .local := by rfl) (hk : env.scope.kind = .function := by rfl) (hs : ∀ x, foldedSetIterable iter env x = pure x := by intro _; rfl) :
    EvX prog w Bs k env (.For (.Name x px) iter body [] pos) m σ Q :=
  evx_for (h.mono fun v σ1 ⟨a, ob, vs, e, hm, hl, Inv, m1, σ2, i1, i2, i3, step, done⟩ => e ▸ its_list hm hl (forB_inv Inv step done i1 i2 i3 mset_mono fun _ _ s h => s.subset h)) hl hk hs
/-- for x in range(n) -/
theorem evx_for_range {x : Str} {px pos : Pos} {iter : Expr} {body : List Stmt} {Q : Fl → Env' → St → Prop}
    (h : EvE prog w Bs k env iter m σ fun v σ1 => ∃ r b t u y σ0 n, v = .ref r ∧ σ1 = (r, .obj (rngO 0 b t u y)) :: σ0 ∧ b = ((n : Nat) : Int) ∧ b < 2 ^ 62 ∧ ∃ (Inv : Nat → Env' → St → Prop) (m1 : Env') (σ2 : St), leE m1 m ∧ SubP σ2 σ0 ∧ Inv 0 m1 σ2 ∧
      (∀ (i : Nat) m σ, i < n → Inv i m σ → EvS prog w Bs k env body (mset m x (.int (i : Int))) σ fun f m' σ' => match f with
        | .brk => Q .next m' σ'
        | .ret u => Q (.ret u) m' σ'
        | _ => ∃ m1 σ1, leE m1 m' ∧ SubP σ1 σ' ∧ Inv (i + 1) m1 σ1) ∧
      (∀ m1 σ1 m σ, leE m1 m → SubP σ1 σ → Inv n m1 σ1 → Q .next m σ))
    (hl : env.kindOf x = some .local := by rfl) (hk : env.scope.kind = .function := by rfl) (hs : ∀ x, foldedSetIterable iter env x = pure x := by intro _; rfl) :
    EvX prog w Bs k env (.For (.Name x px) iter body [] pos) m σ Q :=
  evx_for (h.mono fun v σ1 hh => by
    obtain ⟨r, b, t, u, y, σ0, n, rfl, es, hb, hb2, Inv, m1, σ2, i1, i2, i3, step, done⟩ := hh
    refine its_range n hb hb2 es ?_
    refine forB_inv (fun pre => Inv pre.length) ?_ (fun m1 σ1 m σ h1 h2 h3 => done m1 σ1 m σ h1 h2 (by simpa [rngV_length] using h3)) i1 i2 i3 mset_mono fun _ _ _ _ => trivial
    intro pre v post m σ e hi
    have hv : (rngV 0 n)[pre.length]? = some v := by rw [e]; simp
    obtain ⟨hlt, rfl⟩ := rngV_get hv
    have st := step pre.length m σ hlt hi
    rw [show (0 : Int) + (pre.length : Int) = (pre.length : Int) by omega]
    refine EvSt.mono st fun f m' σ' hq => ?_
    have nx : (∃ m1 σ1, leE m1 m' ∧ SubP σ1 σ' ∧ Inv (pre.length + 1) m1 σ1) → ∃ m1 σ1, leE m1 m' ∧ SubP σ1 σ' ∧ True ∧ Inv (pre ++ [V.int (pre.length : Int)]).length m1 σ1 := by
      rintro ⟨m2, σ2, h1, h2, h3⟩
      exact ⟨m2, σ2, h1, h2, trivial, by simpa using h3⟩
    cases f with
    | next => exact nx hq
    | cont => exact nx hq
    | brk => exact hq
    | ret u => exact hq) hl hk hs
end
end Mine

set_option Elab.async false
set_option linter.unusedVariables false
set_option maxRecDepth 100000
namespace Mine
open PySem PyProof.Rows PySem.Calls PySem.W PySem.Spec

theorem filter_tt {α : Type} (l : List α) : (l.filter fun _ => true) = l := List.filter_eq_self.mpr fun _ _ => rfl
abbrev PS := List (Str × Int)
/-- a dict of str to int -/
def kvI (ps : PS) : KV := ps.map fun p => (p.1, V.int p.2)
def keys (ps : PS) : List Str := ps.map (·.1)
def sans (ps : PS) (x : Str) : PS := ps.filter fun p => decide (p.1 ≠ x)
theorem kvI_length (ps : PS) : (kvI ps).length = ps.length := by simp [kvI]
theorem kvI_lookup : ∀ (ps : PS) (x : Str), (kvI ps).lookup x = (ps.lookup x).map V.int
  | [], x => rfl
  | (y, i) :: r, x => by
    have ih := kvI_lookup r x
    simp only [kvI, List.map_cons, List.lookup_cons] at ih ⊢
    cases x == y with
    | true => rfl
    | false => exact ih
theorem kvI_ddel (ps : PS) (x : Str) : ddel (kvI ps) x = kvI (sans ps x) := by
  simp only [ddel, kvI, sans, List.filter_map]; rfl
theorem kvI_append (ps qs : PS) : kvI (ps ++ qs) = kvI ps ++ kvI qs := by simp [kvI]
theorem kvI_items (ps : PS) : ((kvI ps).map fun p => V.tup [.str p.1, p.2]) = ps.map kvV := by simp [kvI, kvV]
theorem kvI_keys (ps : PS) : ((kvI ps).map fun p => V.str p.1) = (keys ps).map V.str := by simp [kvI, keys]
theorem sans_length_le (ps : PS) (x : Str) : (sans ps x).length ≤ ps.length := List.length_filter_le ..
theorem sans_mem {ps : PS} {x : Str} {p : Str × Int} (h : p ∈ sans ps x) : p ∈ ps ∧ p.1 ≠ x := by
  simpa [sans] using h
theorem lookup_none_iff : ∀ {ps : PS} {x : Str}, ps.lookup x = none ↔ x ∉ keys ps
  | [], x => by simp [keys]
  | (y, i) :: r, x => by
    have ih := lookup_none_iff (ps := r) (x := x)
    rw [List.lookup_cons]
    cases q : x == y with
    | true => have := eq_of_beq q; subst this; simp [keys]
    | false =>
      have : x ≠ y := by simpa using q
      simp only [keys, List.map_cons, List.mem_cons, not_or] at ih ⊢
      rw [ih]
      exact ⟨fun h => ⟨this, h⟩, fun h => h.2⟩
theorem sans_none {ps : PS} {x : Str} (h : ps.lookup x = none) : sans ps x = ps := by
  unfold sans
  refine List.filter_eq_self.mpr fun p hp => decide_eq_true fun e => ?_
  exact lookup_none_iff.mp h (by rw [← e]; exact List.mem_map_of_mem (f := (·.1)) hp)
theorem same_none {ps : PS} {x : Str} (h : ps.lookup x = none) : ps.filter (fun p => decide (p.1 = x)) = [] := by
  refine List.filter_eq_nil_iff.mpr fun p hp => ?_
  simp only [decide_eq_true_eq]
  intro e
  exact lookup_none_iff.mp h (by rw [← e]; exact List.mem_map_of_mem (f := (·.1)) hp)
theorem same_some : ∀ {ps : PS} {x : Str} {v : Int}, (keys ps).Nodup → ps.lookup x = some v → ps.filter (fun p => decide (p.1 = x)) = [(x, v)]
  | (y, i) :: r, x, v, nd, h => by
    rw [List.lookup_cons] at h
    have nd' := List.nodup_cons.mp nd
    cases q : x == y with
    | true =>
      rw [q] at h; cases h
      have := eq_of_beq q; subst this
      have : r.lookup x = none := lookup_none_iff.mpr nd'.1
      rw [List.filter_cons_of_pos (by simp), same_none this]
    | false =>
      rw [q] at h
      have : x ≠ y := by simpa using q
      rw [List.filter_cons_of_neg (by simpa using fun e => this e.symm)]
      exact same_some nd'.2 h
theorem keys_sans {ps : PS} {x : Str} (nd : (keys ps).Nodup) : (keys (sans ps x)).Nodup := nd.sublist ((List.filter_sublist).map _)
theorem keys_sans_off {ps : PS} {x : Str} : x ∉ keys (sans ps x) := fun h => by
  obtain ⟨p, hp, e⟩ := List.mem_map.mp h
  exact (sans_mem hp).2 e
theorem keys_put {ps : PS} {x : Str} {v : Int} (nd : (keys ps).Nodup) : (keys (sans ps x ++ [(x, v)])).Nodup := by
  unfold keys
  rw [List.map_append]
  refine List.nodup_append.mpr ⟨keys_sans nd, by simp, fun a ha b hb e => ?_⟩
  simp at hb
  subst hb e
  exact keys_sans_off ha
theorem dput_new {kvs : KV} {x : Str} {v : V} (h : x ∉ kvs.map (·.1)) : dput kvs x v = kvs ++ [(x, v)] := by
  unfold dput
  rw [if_neg]
  intro ha
  obtain ⟨p, hp, e⟩ := List.any_eq_true.mp ha
  exact h (by rw [← of_decide_eq_true e]; exact List.mem_map_of_mem (f := (·.1)) hp)
theorem kvI_map_fst (ps : PS) : (kvI ps).map (·.1) = keys ps := by simp [kvI, keys]
theorem dmake_go : ∀ (ps acc : PS), (keys (acc ++ ps)).Nodup → (kvI ps).foldl (fun c p => dput c p.1 p.2) (kvI acc) = kvI (acc ++ ps)
  | [], acc, _ => by simp [kvI]
  | (x, i) :: r, acc, nd => by
    have nd2 : (keys (acc ++ [(x, i)] ++ r)).Nodup := by simpa using nd
    have hx : x ∉ keys acc := by
      unfold keys at nd
      rw [List.map_append] at nd
      exact fun h => (List.nodup_append.mp nd).2.2 _ h x (by simp) rfl
    show List.foldl _ (dput (kvI acc) x (.int i)) (kvI r) = _
    rw [dput_new (by rw [kvI_map_fst]; exact hx)]
    have := dmake_go r (acc ++ [(x, i)]) nd2
    rw [kvI_append] at this
    rw [show kvI acc ++ [(x, V.int i)] = kvI acc ++ kvI [(x, i)] from rfl, this]
    simp
theorem dmake_nodup {ps : PS} (nd : (keys ps).Nodup) : dmake (kvI ps) = kvI ps := by
  exact dmake_go ps [] nd
theorem kv_ok {ps : PS} (h : ∀ p ∈ ps, PyData.strOk p.1 = true) : kqdOk 9 (.list (ps.map kvD)) = true := by
  simp only [kqdOk, List.all_eq_true, List.mem_map]
  rintro d ⟨p, hp, rfl⟩
  simp [kvD, kqdOk, h p hp]

/-- what cache_put drops and keeps -/
def putD (ps : PS) (x : Str) (cap : Int) : Str × PS :=
  if (ps.lookup x).isSome then ("", sans ps x) else if cap ≤ (ps.length : Int) then ((keys ps).headD "", ps.tail) else ("", ps)
theorem Up.mid {a : Addr} {o o' : O} (o1 : O) : ∀ {l l' : St}, Up a o o' l l' → ∃ l1, Up a o o1 l l1 ∧ Up a o1 o' l1 l'
  | _, _, .head => ⟨_, .head, .head⟩
  | _, _, .tail u => let ⟨_, x, y⟩ := u.mid o1; ⟨_, .tail x, .tail y⟩
theorem dput_ddel (kvs : KV) (x : Str) (v : V) : dput (ddel kvs x) x v = ddel kvs x ++ [(x, v)] := by
  unfold dput
  rw [if_neg]
  simp [ddel]
theorem SubP.more : ∀ {l' l : St} (p : Addr × O), SubP l' l → SubP l' (p :: l)
  | _, _, _, .nil => .nil
  | _, _, p, .cons t s => .cons (.tail t) (s.more p)
theorem SubP.of_tail {p : Addr × O} (l : St) : SubP l (p :: l) := (SubP.refl l).more p
theorem nodup_map_on {α β : Type} {f : α → β} {l : List α} (h : ∀ x ∈ l, ∀ y ∈ l, f x = f y → x = y) (nd : l.Nodup) : (l.map f).Nodup :=
  List.pairwise_map.mpr (List.Pairwise.imp_of_mem (fun ha hb hne e => hne (h _ ha _ hb e)) nd)
theorem sans_lt {ps : PS} {x : Str} {v : Int} (nd : (keys ps).Nodup) (h : ps.lookup x = some v) : (sans ps x).length + 1 = ps.length := by
  have h1 := same_some nd h
  have h2 : ∀ (l : PS), (sans l x).length + (l.filter fun p => decide (p.1 = x)).length = l.length := by
    intro l
    induction l with
    | nil => rfl
    | cons p l ih =>
      by_cases hp : p.1 = x
      · simp [sans, hp] at ih ⊢; omega
      · simp [sans, hp] at ih ⊢; omega
  have := h2 ps
  rw [h1] at this
  simpa using this
theorem kvV_inj {a b : Str × Int} (h : kvV a = kvV b) : a = b := by
  obtain ⟨a1, a2⟩ := a; obtain ⟨b1, b2⟩ := b
  simp [kvV] at h; simp [h]
theorem kvVs_inj {ps qs : PS} (h : ps.map kvV = qs.map kvV) : ps = qs := by
  induction ps generalizing qs with
  | nil => cases qs with
    | nil => rfl
    | cons _ _ => simp at h
  | cons a l1 ih => cases qs with
    | nil => simp at h
    | cons b qs =>
      simp only [List.map_cons, List.cons.injEq] at h
      rw [ih h.2, kvV_inj h.1]
theorem map_split {ps qs : PS} {v : V} {post : List V} (e : ps.map kvV = qs.map kvV ++ v :: post) : ∃ q qs2, v = kvV q ∧ post = qs2.map kvV ∧ ps = qs ++ q :: qs2 := by
  obtain ⟨l1, l2, rfl, h1, h2⟩ := List.map_eq_append_iff.mp e
  obtain ⟨q, l3, rfl, rfl, rfl⟩ := List.map_eq_cons_iff.mp h2
  exact ⟨q, l3, rfl, rfl, by rw [kvVs_inj h1]⟩

theorem putD_eq {ps : PS} {x : Str} {cap : Int} (nd : (keys ps).Nodup) (hle : (ps.length : Int) ≤ cap) : putD ps x cap = if ((sans ps x).length : Int) = cap then ((keys (sans ps x)).headD "", (sans ps x).tail) else ("", sans ps x) := by
  unfold putD
  cases hv : ps.lookup x with
  | some v =>
    have := sans_lt nd hv
    rw [if_pos (show (some v).isSome = true from rfl), if_neg (by omega)]
  | none =>
    rw [sans_none hv]
    simp only [Option.isSome_none, Bool.false_eq_true, if_false]
    by_cases h : (ps.length : Int) = cap
    · rw [if_pos h, if_pos (by omega)]
    · rw [if_neg h, if_neg (by omega)]
/-- the script's cell, 0 beyond its end -/
def cz (ns : List Int) (i : Nat) : Int := ns.getD i 0
theorem cz_in {ns : List Int} {i : Nat} (h : i < ns.length) : (ns.map V.int)[i]? = some (.int (cz ns i)) := by simp [cz, h]
theorem cz_out {ns : List Int} {i : Nat} (h : ¬ i < ns.length) : cz ns i = 0 := by simp [cz, List.getD, List.getElem?_eq_none (by omega : ns.length ≤ i)]

theorem dput_lookup (kvs : KV) (x : Str) (v : V) (y : Str) : (dput kvs x v).lookup y = if y == x then some v else kvs.lookup y := by
  unfold dput
  cases ha : kvs.any (fun p => decide (p.1 = x)) with
  | true =>
    rw [if_pos rfl]
    induction kvs with
    | nil => simp at ha
    | cons p r ih =>
      obtain ⟨z, u⟩ := p
      simp only [List.map_cons]
      by_cases hz : z = x
      · subst hz
        rw [if_pos rfl, List.lookup_cons]
        cases q : y == z with
        | true => simp
        | false =>
          simp only [Bool.false_eq_true, if_false, List.lookup_cons, q]
          clear ih ha
          induction r with
          | nil => rfl
          | cons p r ih =>
            obtain ⟨z', u'⟩ := p
            simp only [List.map_cons]
            by_cases hz' : z' = z
            · subst hz'
              rw [if_pos rfl, List.lookup_cons, q, List.lookup_cons, q]
              exact ih
            · rw [if_neg hz', List.lookup_cons, List.lookup_cons]
              cases y == z' with
              | true => rfl
              | false => exact ih
      · rw [if_neg hz]
        simp only [List.any_cons, Bool.or_eq_true, decide_eq_true_eq, hz, false_or] at ha
        rw [List.lookup_cons]
        cases q : y == z with
        | true =>
          have hy : y = z := eq_of_beq q
          have : (y == x) = false := by rw [hy]; simpa using hz
          simp [this, List.lookup_cons, q]
        | false =>
          simp only [List.lookup_cons, q]
          exact ih ha
  | false =>
    rw [if_neg (by simp)]
    induction kvs with
    | nil => simp only [List.nil_append, List.lookup_cons, List.lookup_nil]; cases y == x <;> rfl
    | cons p r ih =>
      obtain ⟨z, u⟩ := p
      simp only [List.any_cons, Bool.or_eq_false_iff, decide_eq_false_iff_not] at ha
      simp only [List.cons_append, List.lookup_cons]
      cases q : y == z with
      | true =>
        have hy : y = z := eq_of_beq q
        have : (y == x) = false := by rw [hy]; simpa using ha.1
        simp [this]
      | false => exact ih ha.2
theorem dput_length (kvs : KV) (x : Str) (v : V) : (dput kvs x v).length ≤ kvs.length + 1 := by
  unfold dput
  split <;> simp
theorem keys_sans_eq (ps : PS) (x : Str) : keys (sans ps x) = (keys ps).filter fun y => decide (y ≠ x) := by
  simp only [keys, sans, List.filter_map]; rfl
theorem mem_keys_iff {ps : PS} {x : Str} : x ∈ keys ps ↔ (ps.lookup x).isSome = true := by
  cases h : ps.lookup x with
  | none => simp [lookup_none_iff.mp h]
  | some v =>
    simp only [Option.isSome_some, iff_true]
    exact Classical.byContradiction fun hn => by rw [lookup_none_iff.mpr hn] at h; cases h
theorem lookup_mem : ∀ {ps : PS} {x : Str} {v : Int}, ps.lookup x = some v → (x, v) ∈ ps
  | (y, i) :: r, x, v, h => by
    rw [List.lookup_cons] at h
    cases q : x == y with
    | true => rw [q] at h; cases h; rw [eq_of_beq q]; exact .head _
    | false => rw [q] at h; exact .tail _ (lookup_mem h)

section
variable {prog : Program} {w : World} {Bs : Heap} {k : Nat} {env : Env} {m : Env'} {σ : St} {g h : Heap} {a b d : Addr} {oa ob : O} {ps qs : PS}
theorem cmp_ne_kv (ma : (a, oa) ∈ σ) (la : oa.peel = .list (ps.map kvV)) (mb : (b, ob) ∈ σ) (lb : ob.peel = .list (qs.map kvV)) (ha : ∀ p ∈ ps, PyData.strOk p.1 = true) (hb : ∀ p ∈ qs, PyData.strOk p.1 = true) :
    CmpG prog w σ .NotEq (.ref a) (.ref b) (!decide (ps = qs)) :=
  cmp_neD (.list ma la (dvs_kv _)) (.list mb lb (dvs_kv _)) (kv_ok ha) (kv_ok hb) (by
    rw [decide_eq_true_eq]
    constructor
    · rintro rfl; rfl
    · intro e; injection e with e; exact kvDs_inj e)
theorem cmp_eq_kv (ma : (a, oa) ∈ σ) (la : oa.peel = .list (ps.map kvV)) (mb : (b, ob) ∈ σ) (lb : ob.peel = .list (qs.map kvV)) (ha : ∀ p ∈ ps, PyData.strOk p.1 = true) (hb : ∀ p ∈ qs, PyData.strOk p.1 = true) :
    CmpG prog w σ .Eq (.ref a) (.ref b) (decide (ps = qs)) :=
  cmp_eqD (.list ma la (dvs_kv _)) (.list mb lb (dvs_kv _)) (kv_ok ha) (kv_ok hb) (by
    rw [decide_eq_true_eq]
    constructor
    · rintro rfl; rfl
    · intro e; injection e with e; exact kvDs_inj e)
theorem bf_dict_kv {Q : V → St → Prop} (hm : (a, ob) ∈ σ) (hl : ob.peel = .list (ps.map kvV)) (hz : ps.length ≤ 10000) (nd : (keys ps).Nodup) (hq : ∀ c, Q (.ref c) ((c, .dict (kvI ps)) :: σ)) : EvF prog w Bs k (.type "dict") [.ref a] σ Q :=
  bf_dict_pairs (ps := kvI ps) hm (by rw [hl, kvI_items]) (len_ok (by rw [kvI_length]; exact hz)) (by rw [dmake_nodup nd]; exact hq)
theorem bf_list_items_kv {r : Addr} {σ' : St} {Q : V → St → Prop} (hs : σ = (r, .obj (viewO "dict_items" d)) :: σ') (hm : (d, ob) ∈ σ') (hl : ob.peel = .dict (kvI ps)) (hz : ps.length ≤ 10000) (hq : ∀ c, Q (.ref c) ((c, .list (ps.map kvV)) :: σ')) :
    EvF prog w Bs k (.type "list") [.ref r] σ Q :=
  bf_list_items hs hm hl (len_ok (by rw [kvI_length]; exact hz)) (by rw [kvI_items]; exact hq)
end
end Mine

set_option Elab.async false
set_option linter.unusedVariables false
set_option maxRecDepth 100000
namespace Mine
open PySem PyProof.Rows PySem.Calls PySem.W PySem.Spec

section
variable {prog p : Program} {w : World} {h : Heap} {l : Addr} {cvs : List Value} {n : Nat} {mg mb : Str → Option Value} {loose : List Str} {mean : ExcName → Option Value}
theorem mask_but {b : Addr} {o : Obj} (ho : h.get? l = some (lstO cvs n)) (hb : h.get? b = some o) (hd : ∀ c k, o.data ≠ .seq c k) : (mask h [l]).get? b = some o := by
  rw [mask_out]
  · exact hb
  · intro hm
    rw [List.mem_singleton.mp hm, ho] at hb
    cases hb
    exact hd _ _ rfl
theorem ns_mask {a : Addr} {m : Str → Option Value} (ho : h.get? l = some (lstO cvs n)) (x : h.Ns a m) : (mask h [l]).Ns a m := by
  obtain ⟨o, es, ep, h1, h2, r⟩ := x
  exact ⟨o, es, ep, mask_but ho h1 (fun c k e => by rw [h2] at e; cases e), h2, r⟩
theorem ctx_mask (ho : h.get? l = some (lstO cvs n)) (T : Top p loose mean mg mb h) : Ctx (mask h [l]) mg mb where
  g := ns_mask ho T.g
  b := ns_mask ho T.b
  lim := let ⟨mc, a, b⟩ := T.nolimit; ⟨mc, ns_mask ho a, b⟩
theorem fn_mask (ho : h.get? l = some (lstO cvs n)) (T : Top p loose mean mg mb h) {fn : Str} {d : DefRec} (hd : d ∈ recsOf p) (hn : d.name = fn) : ∃ f pm code doc, FnAt (mask h [l]) mg fn d f pm code doc := by
  obtain ⟨a, o, pm, code, doc, h1, h2, h3, c, co, vs, t, h4, h5, h6, h7⟩ := T.fn d hd
  exact ⟨a, pm, code, doc, hn, h1, ⟨o, mask_but ho h2 (fun c k e => by rw [h3] at e; cases e), h3⟩, c, co, vs, t, h4, mask_but ho h5 (fun c k e => by rw [h6] at e; cases e), h6, h7⟩
theorem bi_mask (ho : h.get? l = some (lstO cvs n)) (T : Top p loose mean mg mb h) {x : Str} {v : Value}
    (hx : x ∉ startupNames ∧ x ∉ loose ∧ x ∉ (recsOf p).map (·.name) ∧ x ∉ (litsOf p).map (·.1) ∧ x ∉ (clssOf p loose).map (·.name)) (hn : x ≠ "__name__") (hv : bootBuiltins x = some v) : BIs (mask h [l]) mg mb x v :=
  ⟨ctx_mask ho T, T.free x hx.1 hx.2.1 hx.2.2.1 hx.2.2.2.1 hx.2.2.2.2, (T.builtins x hn).trans hv⟩
theorem ints_vr : ∀ {vs : List Value} {ns : List Int}, IntsAre vs ns → VRs h vs (ns.map .int)
  | _, _, .nil => .nil
  | _, _, .cons _ _ r => .cons (.int ..) (ints_vr r)
theorem low_of (ho : h.get? l = some (lstO cvs n)) (T : Top p loose mean mg mb h) (hs : (l == sysModules) = false) : cStatics < l := by
  have off : ∀ {a : Addr} {m : Str → Option Value}, h.Ns a m → l ≠ a := fun {a m} x e => by
    obtain ⟨o, es, ep, h1, h2, _⟩ := x
    rw [← e, ho] at h1; cases h1; cases h2
  have h0 : l ≠ 0 := off T.b
  have h2 : l ≠ 2 := let ⟨mc, a, b⟩ := T.nolimit; off a
  have h1 : l ≠ 1 := fun e => by subst e; simp [sysModules] at hs
  show (2 : Nat) < l
  have h0' : (l : Nat) ≠ 0 := h0
  have h1' : (l : Nat) ≠ 1 := h1
  have h2' : (l : Nat) ≠ 2 := h2
  exact Nat.lt_of_le_of_ne (Nat.lt_of_le_of_ne (Nat.lt_of_le_of_ne (Nat.zero_le _) h0'.symm) h1'.symm) h2'.symm
theorem lst_of {P : Params} {xs : List PyData} (hL : h.IsList l cvs.toArray) (w1 : Well P h (.ref l) (ofPy (.list xs))) : h.get? l = some (lstO cvs 0) := by
  obtain ⟨o1, h1, h2, n, h3⟩ := hL
  rw [show ofPy (.list xs) = .list (ofPys xs) from by simp [ofPy]] at w1
  cases w1 with
  | list ho _ =>
    rw [ho] at h1
    cases h1
    have := (Data.seq.inj h3).1
    rw [ho, this]
theorem sys_of {xs : List PyData} {bs cs : List Addr} (r : Reads h (.ref l) (.list xs) bs) (hlo : ∀ a ∈ bs ++ cs, (a == sysModules) = false) : (l == sysModules) = false := by
  cases r
  exact hlo _ (List.mem_append_left _ (.head _))
theorem lit_mask {K : Frag} {lc : List Value} {ln : Nat} (KX : K.In h) (hg : h.Ns mainGlobals mg) (ho : h.get? l = some (lstO lc ln)) {x : Str} {a : Addr} {cvs : List Value} {n : Nat} {vs : List V}
    (e1 : nsIn K mainGlobals x = some (some (.ref a))) (e2 : K.lookup a = some (tupO cvs n)) (r : ∀ h, VRs h cvs vs) : ∃ v, mg x = some v ∧ VR (mask h [l]) v (.tup vs) := by
  refine ⟨.ref a, mg_of KX hg e1, .tup (cvs := cvs) (n := n) ?_ (r _)⟩
  have := KX _ _ e2
  rw [mask_out]
  · exact this
  · intro hm
    rw [List.mem_singleton.mp hm, ho] at this
    exact absurd (Value.type.inj (congrArg Obj.cls (Option.some.inj this))) (by decide)
/-- from the walk to the row's goal -/
theorem law_glue {c : ClaimW} {cl : Str → Option Addr} {mean' : ExcName → Option Value} {args : List WData} {s₁ : Shared} {fa : Addr} {ns : List Int} (ho : s₁.heap.get? l = some (lstO cvs n)) (hI : IntsAre cvs ns) (hg : s₁.gens = #[])
    (T : Top p loose mean mg mb s₁.heap) (hs : (l == sysModules) = false)
    (hr : ∀ cls, c.raises args cls = false) (hp : c.post args (.bool true) args = true)
    (h : EvF prog w (mask s₁.heap [l]) 9 (.ref fa) [.ref l] [(l, .fix (lstO cvs n) (.list (ns.map .int)))] fun v σ' => v = .bool true ∧ σ' = [(l, .fix (lstO cvs n) (.list (ns.map .int)))]) :
    wpAny (model prog w) callerA (call (.ref fa) [.ref l]) (fun v s' => GoodWG c cl mean' args s₁ (.ok (.ret v)) s') (fun e s' => GoodWG c cl mean' args s₁ (.error e) s') s₁ := by
  refine h callerA (mask s₁.heap [l]) s₁ _ _ [.ref l] ⟨rfl, by decide, by decide +kernel⟩ (fun _ _ e => e) ⟨fun b o e => mask_sub e, by simp, fun q hq => ?_, ?_, fun q hq => ?_⟩ (.cons (.ref _) .nil) fun cv v σ' h' tk hq R' r t => ?_
  · rw [List.mem_singleton.mp hq]
    exact ⟨mask_in (.head _), _, ho, rfl, cvs, n, rfl, ints_vr hI⟩
  · obtain ⟨mc, ⟨o, es, ep, h1, h2, _⟩, b⟩ := T.nolimit
    exact ⟨o, mask_but ho h1 (fun c k e => by rw [h2] at e; cases e)⟩
  · rw [List.mem_singleton.mp hq]
    exact low_of ho T hs
  · obtain ⟨rfl, rfl⟩ := hq
    cases r
    refine GoodW.toG ⟨.inl ⟨_, .bool true, [], rfl, hr, .bool true, hp, fun _ => ⟨by simp, fun a ha => by cases ha⟩⟩, fun b o e => ?_, rfl, hg⟩
    by_cases hb : b = l
    · subst hb
      obtain ⟨_, o', ho', e', _⟩ := R'.own _ (.head _)
      rw [ho] at e; cases e
      have e2 : o' = lstO cvs n := e'
      rw [e2] at ho'
      exact ho'
    · exact R'.keep b o (by rw [mask_out (by simpa using hb)]; exact e)
end
end Mine

set_option Elab.async false
set_option linter.unusedVariables false
set_option maxRecDepth 100000
namespace Mine
open PySem PyProof.Rows PySem.Calls PySem.W PySem.Spec

section
variable {prog : Program} {w : World} {Bs : Heap} {k : Nat} {env : Env} {m : Env'} {σ : St} {g g' h h' : Heap} {L a : Addr} {ob : O} {vs : List V}

/-- back into a frame that was laid by -/
theorem Rel.back (R : Rel prog w g L m σ h) {σ' : St} (le : ∀ b o, g.get? b = some o → g'.get? b = some o) (hL : ∀ o, h.get? L = some o → g'.get? L = some o) (R' : RH prog w g' σ' h') (tk : TK h h') : Rel prog w g L m σ' h' := by
  obtain ⟨mc, hn, hv⟩ := R.ns
  refine ⟨R'.less R.rh.st le, ⟨mc, ?_, fun x v e => let ⟨cv, a, b⟩ := hv x v e; ⟨cv, a, b.mono tk⟩⟩, fun p hp e => ?_⟩
  · obtain ⟨o, es, ep, ho, r⟩ := hn
    exact ⟨o, es, ep, R'.keep _ _ (hL o ho), r⟩
  · obtain ⟨o, ho⟩ := R.lt
    have := (R'.own p hp).1
    rw [e, hL o ho] at this; cases this

abbrev testsOf (ifs : List Expr) (env : Env) : Sem Bool := forIn ifs true fun c r => if r = true then do let ok ← isTrue c env (eval c env); pure (ForInStep.yield ok) else pure (ForInStep.yield r)
variable (prog w Bs) in
abbrev EvT (k : Nat) (env : Env) (ifs : List Expr) (m : Env') (σ : St) (Q : Bool → St → Prop) : Prop := Ev prog w Bs EqR k env.locals (testsOf ifs env) m σ Q
theorem evt_nil {Q : Bool → St → Prop} (h : Q true σ) : EvT prog w Bs k env [] m σ Q := fun A g s Qc Ec hA hB R hQ => wpAny_pure (hQ _ _ σ s.heap s.toks h R rfl (.refl _))
theorem evt_one {c : Expr} {Q : Bool → St → Prop} (h : EvB prog w Bs k env c m σ Q) : EvT prog w Bs k env [c] m σ Q := fun A g s Qc Ec hA hB R hQ => by
  unfold testsOf
  rw [List.forIn_cons]
  refine wpAny_bind ?_
  rw [if_pos rfl]
  refine wpAny_bind (h A g s _ _ hA hB R fun cv v σ' h' tk hq R' e t => wpAny_pure (wpAny_pure (hQ cv v σ' h' tk hq R' e t)))

variable (prog w Bs) in
/-- a comprehension's turns -/
def CompB (k : Nat) (env : Env) (x : Str) (ifs : List Expr) (elt : Expr) (need : St → Prop) (Q : List V → St → Prop) : List V → List V → St → Prop
  | [], acc, σ => Q acc σ
  | v :: r, acc, σ => EvT prog w Bs k env ifs [(x, v)] σ fun ok σ1 => if ok then EvE prog w Bs k env elt [(x, v)] σ1 fun u σ2 => ∃ σ3, SubP σ3 σ2 ∧ need σ3 ∧ CompB k env x ifs elt need Q r (acc ++ [u]) σ3
      else ∃ σ3, SubP σ3 σ1 ∧ need σ3 ∧ CompB k env x ifs elt need Q r acc σ3
/-- the frame of a comprehension -/
def compOk (scope : Scope) (x : Str) : Bool := decide (scope.kind = .function) && (scope.names.all fun y => decide (y.2 ≠ .cell)) && (scope.names.all fun y => decide (y.2 = .local → scope.names.lookup y.1 = some .local)) && decide (scope.names.lookup x = some .local)

theorem not_in {S : Nat → Heap → Prop} {I : Addr} {fp wr : List Addr} {need : St → Prop} (W : Iter prog w I fp wr vs need S) {i : Nat} (hst : S i h) (R : RH prog w g' σ h') (gf : ∀ b ∈ fp, ∀ o, h.get? b = some o → g'.get? b = some o) : ∀ b ∈ fp, ∀ p ∈ σ, p.1 ≠ b := fun b hb p hp e => by
  obtain ⟨o, ho⟩ := W.there _ _ hst b hb
  have := (R.own p hp).1
  rw [e, gf b hb o ho] at this; cases this
theorem comp_loop {scope : Scope} {cl : List (Str × Addr)} {x : Str} {px pos : Pos} {ifs : List Expr} {elt iter : Expr} {I C D : Addr} {fp wr : List Addr} {need : St → Prop} {S : Nat → Heap → Prop} {g0 : Heap} (W : Iter prog w I fp wr vs need S) (hsz : vs.length ≤ sizeLine)
    {A : Around} {s : Shared} {Q : List V → St → Prop} {RR : Result → Shared → Prop} (hA : AOk k A) (hB : ∀ b o, Bs.get? b = some o → g0.get? b = some o)
    (hkind : scope.kind = .function) (hx : scope.names.lookup x = some .local)
    (R : Rel prog w g0 C [] σ s.heap) (hC : g0.get? C = none) (hD : g0.get? D = none) (hDC : D ≠ C) (hDσ : ∀ p ∈ σ, p.1 ≠ D) (hDo : s.heap.get? D = some (lstO [] 0)) (hst : S 0 s.heap) (hfp : ∀ b ∈ fp, b ≠ C ∧ b ≠ D ∧ ∀ p ∈ σ, p.1 ≠ b) (hwr : ∀ b ∈ wr, g0.get? b = none) (hn : need σ)
    (h : CompB prog w Bs k (compEnvC scope cl C env) x ifs elt need Q vs [] σ)
    (hRR : ∀ acc σ' h' tk m', Q acc σ' → Rel prog w g0 C m' σ' h' → (∃ cacc n, h'.get? D = some (lstO cacc n) ∧ VRs h' cacc acc) → (∀ p ∈ σ', p.1 ≠ D) → TK s.heap h' → RR (.ok .next) { s with heap := h', toks := tk }) :
    codeAny (model prog w) A (.compLoop (.ListComp elt [⟨.Name x px, iter, ifs, 0⟩] scope pos) 0 (.ref I) (.ref D) (compEnvC scope cl C env)) RR s := by
  have hl : (compEnvC scope cl C env).kindOf x = some .local := lookup_relabel_local hx
  have hk : (compEnvC scope cl C env).scope.kind = .function := by simp [compEnvC, relabel, hkind]
  refine codeAny_compLoop_tests (fun n s' => ∃ i m σ h tk acc cacc cn, s' = { s with heap := h, toks := tk } ∧ i ≤ vs.length ∧ n = vs.length - i ∧ Rel prog w g0 C m σ h ∧ S i h ∧ (∀ b ∈ fp, b ≠ C ∧ b ≠ D ∧ ∀ p ∈ σ, p.1 ≠ b) ∧ need σ ∧
      CompB prog w Bs k (compEnvC scope cl C env) x ifs elt need Q (vs.drop i) acc σ ∧ h.get? D = some (lstO cacc cn) ∧ VRs h cacc acc ∧ acc.length ≤ i ∧ (∀ p ∈ σ, p.1 ≠ D) ∧ TK s.heap h) ?_ vs.length
      ⟨0, [], σ, s.heap, s.toks, [], [], 0, rfl, Nat.zero_le _, rfl, R, hst, hfp, hn, by simpa using h, hDo, .nil, Nat.le_refl _, hDσ, .refl _⟩
  rintro n s' ⟨i, m, σ, hh, tk, acc, cacc, cn, rfl, hi, rfl, R, hst, hfp, hn, hb, hDo, hacc, hal, hDσ, ht⟩
  by_cases hlt : i < vs.length
  · have hv : vs[i]? = some vs[i] := by simp [hlt]
    have hd : vs.drop i = vs[i] :: vs.drop (i + 1) := List.drop_eq_getElem_cons hlt
    rw [hd] at hb
    refine W.item A k g0 σ _ _ _ i _ hA R.rh hn hst hv fun cv h1 tk1 r1 st1 kp1 t1 => ?_
    have R1 := R.but kp1 (fun b hb => ⟨hwr b hb, (hfp b (W.sub b hb)).1, (hfp b (W.sub b hb)).2.2⟩) t1
    have hD1 : h1.get? D = some (lstO cacc cn) := kp1 D _ (fun hm => (hfp D (W.sub D hm)).2.1 rfl) hDo
    refine wpAny_assign_Name ?_
    obtain ⟨mc, hn1, hm1⟩ := R1.ns
    refine wpAny_storeName_local hl hn1 (fun h2 hn2 hs2 => ?_) (by rw [hk]; rfl)
    have R2 : Rel prog w g0 C (mset m x vs[i]) σ h2 := R1.store hC hn1 hm1 hn2 hs2 r1
    have t2 : TK h1 h2 := ns_tk hn1 hs2
    have hD2 : h2.get? D = some (lstO cacc cn) := (hs2.2 D hDC).trans hD1
    have st2 : S (i + 1) h2 := W.frame _ _ _ st1 (fun b hb o e => (hs2.2 b (hfp b hb).1).trans e) t2
    have le := R2.le_mask hC
    have R2e : Rel prog w g0 C [(x, vs[i])] σ h2 := R2.env fun y u e => by
      rw [List.lookup_cons] at e
      rw [lookup_mset]
      cases q : y == x with
      | true => rw [q] at e; simpa using e
      | false => rw [q] at e; simp at e
    have gin : ∀ b, b ≠ C → (∀ p ∈ σ, p.1 ≠ b) → (mask h2 (C :: σ.map (·.1))).get? b = h2.get? b := fun b hb hs => by
      rw [mask_out]
      intro hm
      rcases List.mem_cons.mp hm with e | hm
      · exact hb e
      · obtain ⟨p, hp, q⟩ := List.mem_map.mp hm
        exact hs p hp q
    refine hb A _ _ _ _ hA (fun b o e => le b o (hB b o e)) (R2e.masked hC) fun okc ok σ1 h3 tk3 hq R3 eok t3 => ?_
    subst eok
    have hD3 : h3.get? D = some (lstO cacc cn) := R3.rh.keep _ _ (by rw [gin D hDC hDσ]; exact hD2)
    have offD : ∀ {σ' : St} {h' : Heap}, RH prog w (mask h2 (C :: σ.map (·.1))) σ' h' → ∀ p ∈ σ', p.1 ≠ D := fun {σ' h'} R' p hp e => by
      have := (R'.own p hp).1
      rw [e, gin D hDC hDσ] at this
      have hD2' : h2.get? D = some (lstO cacc cn) := hD2
      rw [hD2'] at this; cases this
    have offF : ∀ {σ' : St} {h' : Heap}, RH prog w (mask h2 (C :: σ.map (·.1))) σ' h' → ∀ b ∈ fp, ∀ p ∈ σ', p.1 ≠ b := fun {σ' h'} R' =>
      not_in W st2 R' fun b hb o e => by rw [gin b (hfp b hb).1 (hfp b hb).2.2]; exact e
    have keepF : ∀ {σ' : St} {h' : Heap}, RH prog w (mask h2 (C :: σ.map (·.1))) σ' h' → ∀ b ∈ fp, ∀ o, h2.get? b = some o → h'.get? b = some o := fun {σ' h'} R' b hb o e =>
      R'.keep b o (by rw [gin b (hfp b hb).1 (hfp b hb).2.2]; exact e)
    cases okc with
    | true =>
      refine hq A _ _ _ _ hA (fun b o e => le b o (hB b o e)) R3 fun cu u σ2 h4 tk4 hq4 R4 ru t4 => ?_
      obtain ⟨σ3, sub, hn3, hb3⟩ := hq4
      have hD4 : h4.get? D = some (lstO cacc cn) := R4.rh.keep _ _ (by rw [gin D hDC hDσ]; exact hD2)
      have hacc4 : VRs h4 cacc acc := hacc.mono (t1.trans (t2.trans (t3.trans t4)))
      refine wpAny_list_append_plain (l := D) (items := cacc.toArray) ⟨cn, hD4⟩ (fun h5 hp5 hs5 => ?_) (by simp [hacc.length]; omega)
      obtain ⟨n', ho5⟩ := hp5
      have t5 : TK h4 h5 := list_tk hD4 hs5
      have R4' : Rel prog w g0 C [(x, vs[i])] σ3 h4 := (R4.less R2.rh.st le).subP sub
      have R5 : Rel prog w g0 C [(x, vs[i])] σ3 h5 := R4'.but (wr := [D]) (fun b o hb e => (hs5.2 b fun q => hb (by rw [q]; exact .head _)).trans e) (fun b hb => by
        rw [List.mem_singleton.mp hb]
        exact ⟨hD, hDC, fun p hp => offD R4.rh p (sub.subset hp)⟩) t5
      refine ⟨_, ?_, i + 1, _, σ3, h5, tk4, acc ++ [u], cacc ++ [cu], n', rfl, hlt, rfl, R5, ?_, ?_, hn3, hb3, by rw [ho5]; simp, (hacc4.append (.cons ru .nil)).mono t5, by simp; omega, fun p hp => offD R4.rh p (sub.subset hp), ht.trans (t1.trans (t2.trans (t3.trans (t4.trans t5))))⟩
      · omega
      · refine W.frame _ _ _ st2 (fun b hb o e => (hs5.2 b (hfp b hb).2.1).trans (keepF R4.rh b hb o e)) (t3.trans (t4.trans t5))
      · exact fun b hb => ⟨(hfp b hb).1, (hfp b hb).2.1, fun p hp => offF R4.rh b hb p (sub.subset hp)⟩
    | false =>
      obtain ⟨σ3, sub, hn3, hb3⟩ := hq
      refine ⟨_, ?_, i + 1, _, σ3, h3, tk3, acc, cacc, cn, rfl, hlt, rfl, (R3.less R2.rh.st le).subP sub, ?_, ?_, hn3, hb3, hD3, hacc.mono (t1.trans (t2.trans t3)), by omega, fun p hp => offD R3.rh p (sub.subset hp), ht.trans (t1.trans (t2.trans t3))⟩
      · omega
      · exact W.frame _ _ _ st2 (keepF R3.rh) t3
      · exact fun b hb => ⟨(hfp b hb).1, (hfp b hb).2.1, fun p hp => offF R3.rh b hb p (sub.subset hp)⟩
  · have e : i = vs.length := by omega
    subst e
    refine W.done A k g0 σ _ _ _ hA R.rh hn hst fun h1 tk1 kp1 t1 => ?_
    have R1 := R.but kp1 (fun b hb => ⟨hwr b hb, (hfp b (W.sub b hb)).1, (hfp b (W.sub b hb)).2.2⟩) t1
    rw [List.drop_length] at hb
    exact hRR acc σ h1 tk1 m hb R1 ⟨cacc, cn, kp1 D _ (fun hm => (hfp D (W.sub D hm)).2.1 rfl) hDo, hacc.mono t1⟩ hDσ (ht.trans t1)
theorem comp_core {scope : Scope} {cl : List (Str × Addr)} {x : Str} {px pos : Pos} {ifs : List Expr} {elt iter : Expr} {I : Addr} {fp wr : List Addr} {need : St → Prop} {S : Nat → Heap → Prop} (W : Iter prog w I fp wr vs need S) (hsz : vs.length ≤ sizeLine)
    {A : Around} {s : Shared} {E : Value → Shared → Prop} {Q : List V → St → Prop} {RR : Value → Addr → Result → Shared → Prop} (hA : AOk k A) (hB : ∀ b o, Bs.get? b = some o → g.get? b = some o)
    (hkind : scope.kind = .function) (hx : scope.names.lookup x = some .local) (hcell : ∀ y ∈ scope.names, y.2 ≠ .cell)
    (R : Rel prog w g L m σ s.heap) (hst : S 0 s.heap) (hfp : ∀ b ∈ fp, b ≠ L ∧ ∀ p ∈ σ, p.1 ≠ b) (hwr : ∀ b ∈ wr, g.get? b = none) (hn : need σ)
    (h : ∀ C, CompB prog w Bs k (compEnvC scope cl C env) x ifs elt need Q vs [] σ)
    (hRR : ∀ D C acc σ' h' tk m', Q acc σ' → Rel prog w g L m ((D, .list acc) :: σ') h' → h'.Ns C m' → g.get? C = none → C ≠ L → C ≠ D → (∀ p ∈ σ', p.1 ≠ C) → TK s.heap h' → RR (.ref D) C (.ok .next) { s with heap := h', toks := tk }) :
    wpAny (model prog w) A (newList []) (fun acc s₃ => wpAny (model prog w) A (newFunctionEnv scope env.globals cl [] env.qual none .none (some env)) (fun cenv s₄ =>
      codeAny (model prog w) A (.compStart (.ListComp elt [⟨.Name x px, iter, ifs, 0⟩] scope pos) 0 (.ref I) acc { cenv with scope := relabel scope env }) (RR acc cenv.locals) s₄) E s₃) E s := by
  refine wpAny_newObj_type (wpAny_newFunctionEnv hcell (by intro y hy; simp at hy) (fun h₁ hns₁ hsb₁ => ?_) hkind)
  dsimp only at hns₁ hsb₁ ⊢
  generalize hH2 : s.heap.push { cls := .type "list", dict := none, data := .seq ([] : List Value).toArray } = H2 at hns₁ hsb₁ ⊢
  have hCz : H2.objs.size = s.heap.objs.size + 1 := by rw [← hH2, Heap.size_push]
  generalize hDz : s.heap.objs.size = D at *
  generalize hCC : H2.objs.size = C at *
  have hDC : D ≠ C := by rw [hCz]; exact Nat.ne_of_lt (Nat.lt_succ_self _)
  have fresh : ∀ a, s.heap.objs.size ≤ a → s.heap.get? a = none := fun a ha => get_none_of_size ha
  have hDn : s.heap.get? D = none := fresh D (by rw [hDz]; exact Nat.le_refl _)
  have hCn : s.heap.get? C = none := fresh C (by rw [hDz, hCz]; exact Nat.le_succ _)
  have hH2C : H2.get? C = none := get_none_of_size (by rw [hCC]; exact Nat.le_refl _)
  have keepH : ∀ b o, H2.get? b = some o → h₁.get? b = some o := fun b o e => (hsb₁.2 b fun q => by rw [q, hH2C] at e; cases e).trans (Heap.get?_push_of_some _ e)
  have old : ∀ b o, s.heap.get? b = some o → h₁.get? b = some o := fun b o e => keepH b o (by rw [← hH2]; exact Heap.get?_push_of_some _ e)
  have hDo : h₁.get? D = some (lstO [] 0) := keepH D _ (by rw [← hH2, ← hDz]; exact Heap.get?_push_size _ rfl)
  -- what is laid by during the loop
  have gout : ∀ b, b ∉ wr ++ σ.map (·.1) → (mask s.heap (wr ++ σ.map (·.1))).get? b = s.heap.get? b := fun b hb => mask_out hb
  have gle : ∀ b o, g.get? b = some o → (mask s.heap (wr ++ σ.map (·.1))).get? b = some o := fun b o e => by
    rw [gout]
    · exact R.rh.keep b o e
    · intro hm
      rcases List.mem_append.mp hm with hm | hm
      · rw [hwr b hm] at e; cases e
      · obtain ⟨p, hp, q⟩ := List.mem_map.mp hm
        have := (R.rh.own p hp).1
        rw [q, e] at this; cases this
  have gL : ∀ o, s.heap.get? L = some o → (mask s.heap (wr ++ σ.map (·.1))).get? L = some o := fun o e => by
    rw [gout]
    · exact e
    · intro hm
      rcases List.mem_append.mp hm with hm | hm
      · exact (hfp L (W.sub L hm)).1 rfl
      · obtain ⟨p, hp, q⟩ := List.mem_map.mp hm
        exact R.offS p hp q
  have gnone : ∀ b, s.heap.get? b = none → (mask s.heap (wr ++ σ.map (·.1))).get? b = none := fun b e => by
    cases q : (mask s.heap (wr ++ σ.map (·.1))).get? b with
    | none => rfl
    | some o => rw [mask_sub q] at e; cases e
  have offD : ∀ p ∈ σ, p.1 ≠ D := fun p hp e => by obtain ⟨_, o, ho, _⟩ := R.rh.own p hp; rw [e, hDn] at ho; cases ho
  have offC : ∀ p ∈ σ, p.1 ≠ C := fun p hp e => by obtain ⟨_, o, ho, _⟩ := R.rh.own p hp; rw [e, hCn] at ho; cases ho
  have R1 : RH prog w (mask s.heap (wr ++ σ.map (·.1))) σ h₁ :=
    ⟨fun b o e => old b o (mask_sub e), R.rh.nd, fun p hp => ⟨mask_in (List.mem_append_right _ (List.mem_map_of_mem hp)), let ⟨_, o, e, r⟩ := R.rh.own p hp; ⟨o, old _ _ e, r.mono _ _ (.of_keep old)⟩⟩,
      let ⟨o, e⟩ := R.rh.st; ⟨o, gle _ _ e⟩, R.rh.low⟩
  have Rc : Rel prog w (mask s.heap (wr ++ σ.map (·.1))) C [] σ h₁ := ⟨R1, ⟨_, hns₁, fun x v e => by simp at e⟩, offC⟩
  have st1 : S 0 h₁ := W.frame _ _ _ hst (fun b _ o e => old b o e) (.of_keep old)
  have loop : ∀ s₃ : Shared, s₃ = { s with heap := h₁, toks := s.toks + ([] : List (Str × Value)).length } →
      codeAny (model prog w) A (.compLoop (.ListComp elt [⟨.Name x px, iter, ifs, 0⟩] scope pos) 0 (.ref I) (.ref D) (compEnvC scope cl C env)) (RR (.ref D) C) s₃ := by
    rintro s₃ rfl
    refine comp_loop W hsz hA (fun b o e => gle b o (hB b o e)) hkind hx Rc (gnone C hCn) (gnone D hDn) hDC offD hDo st1 ?_ (fun b hb => mask_in (List.mem_append_left _ hb)) hn (h C) ?_
    · intro b hb
      obtain ⟨o, ho⟩ := W.there _ _ hst b hb
      refine ⟨fun e => ?_, fun e => ?_, (hfp b hb).2⟩
      · rw [e, hCn] at ho; cases ho
      · rw [e, hDn] at ho; cases ho
    · intro acc σ' h' tk m' hq R' ⟨cacc, n, hD', hacc⟩ hDσ t
      have t' : TK s.heap h' := (TK.of_keep old).trans t
      have Rb : Rel prog w g L m σ' h' := R.back gle gL R'.rh t'
      have gD : g.get? D = none := by
        cases q : g.get? D with
        | none => rfl
        | some o => have := gle _ _ q; rw [gnone D hDn] at this; cases this
      have gC : g.get? C = none := by
        cases q : g.get? C with
        | none => rfl
        | some o => have := gle _ _ q; rw [gnone C hCn] at this; cases this
      have hLo : ∃ o, s.heap.get? L = some o := R.lt
      have hDL : D ≠ L := fun e => by obtain ⟨o, ho⟩ := hLo; rw [← e, hDn] at ho; cases ho
      have hCL : C ≠ L := fun e => by obtain ⟨o, ho⟩ := hLo; rw [← e, hCn] at ho; cases ho
      obtain ⟨mc, hns', _⟩ := R'.ns
      refine hRR D C acc σ' h' tk mc hq ⟨⟨Rb.rh.keep, ?_, fun p hp => ?_, Rb.rh.st, fun p hp => ?_⟩, Rb.ns, fun p hp => ?_⟩ hns' gC hCL (Ne.symm hDC) R'.offS t'
      · refine List.nodup_cons.mpr ⟨fun hm => ?_, Rb.rh.nd⟩
        obtain ⟨p, hp, e⟩ := List.mem_map.mp hm
        exact hDσ p hp e
      · rcases List.mem_cons.mp hp with rfl | hp
        · exact ⟨gD, _, hD', cacc, n, rfl, hacc⟩
        · exact Rb.rh.own p hp
      · rcases List.mem_cons.mp hp with rfl | hp
        · show cStatics < D
          rw [← hDz]; exact R.rh.big
        · exact Rb.rh.low p hp
      · rcases List.mem_cons.mp hp with rfl | hp
        · exact hDL
        · exact Rb.offS p hp
  exact codeAny_compStart_list (loop _ rfl) (W.self A 0 _ _ _ st1 (loop _ rfl))
theorem Rel.offC {C : Addr} (R : Rel prog w g L m σ h) (hs : Heap.SameBut C h h') (gC : g.get? C = none) (hC : C ≠ L) (hσ : ∀ p ∈ σ, p.1 ≠ C) {mc : Str → Option Value} (hn : h.Ns C mc) : Rel prog w g L m σ h' ∧ TK h h' := by
  have t := ns_tk hn hs
  exact ⟨R.but (wr := [C]) (fun b o hb e => (hs.2 b fun q => hb (by rw [q]; exact .head _)).trans e) (fun b hb => by rw [List.mem_singleton.mp hb]; exact ⟨gC, hC, hσ⟩) t, t⟩
theorem ev_comp {scope : Scope} {cl : List (Str × Addr)} {x : Str} {px pos : Pos} {ifs : List Expr} {elt iter : Expr} {Q : V → St → Prop} (hclos : closureFor scope env = pure cl) (hok : compOk scope x = true)
    (h : EvE prog w Bs k env iter m σ fun v σ1 => Its prog w Bs k env.locals v m σ1 fun vs need σ2 => vs.length ≤ sizeLine ∧ ∀ C, CompB prog w Bs k (compEnvC scope cl C env) x ifs elt need (fun acc σ3 => ∀ D, Q (.ref D) ((D, .list acc) :: σ3)) vs [] σ2)
    (hs : ∀ x, foldedSetIterable iter env x = pure x := by intro _; rfl) : EvE prog w Bs k env (.ListComp elt [⟨.Name x px, iter, ifs, 0⟩] scope pos) m σ Q := fun A g s Qc Ec hA hB R hQ => by
  simp only [compOk, Bool.and_eq_true, decide_eq_true_eq, List.all_eq_true] at hok
  obtain ⟨⟨⟨o1, o2⟩, o3⟩, o4⟩ := hok
  rw [eval_ListComp]
  refine wpAny_comprehension_free (use := none) rfl hs hclos o1 (fun y hy => o3 y hy) ?_
  refine h A g s _ _ hA hB R fun cv v σ1 h1 tk1 hi R1 r1 t1 => hi A g _ cv _ _ hA hB R1 r1 fun I fp wr vs need S σ' h' tk hb W st R' t' hfp hwr hn _ => ?_
  refine comp_core (RR := fun acc C => compPost (model prog w) A Ec none Qc acc C) W hb.1 hA hB o1 o4 (fun y hy => o2 y hy) R' st hfp hwr hn hb.2 ?_
  intro D C acc σ3 h3 tk3 m3 hq R3 hns gC hCL hCD hσ t3
  refine ⟨m3, hns, fun h4 hs4 => ?_⟩
  obtain ⟨R4, t4⟩ := R3.offC hs4 gC hCL (fun p hp => by
    rcases List.mem_cons.mp hp with rfl | hp
    · exact Ne.symm hCD
    · exact hσ p hp) hns
  exact hQ _ _ _ h4 tk3 (hq D) R4 (.ref _) (t1.trans (t'.trans (t3.trans t4)))
theorem evx_assign_comp {scope : Scope} {cl : List (Str × Addr)} {x y : Str} {px py pos spos : Pos} {ifs : List Expr} {elt iter : Expr} {Q : Fl → Env' → St → Prop} (hclos : closureFor scope env = pure cl) (hok : compOk scope x = true)
    (h : EvE prog w Bs k env iter m σ fun v σ1 => Its prog w Bs k env.locals v m σ1 fun vs need σ2 => vs.length ≤ sizeLine ∧ ∀ C, CompB prog w Bs k (compEnvC scope cl C env) x ifs elt need (fun acc σ3 => ∀ D, Q .next (mset m y (.ref D)) ((D, .list acc) :: σ3)) vs [] σ2)
    (hsw : swapsWith (.ListComp elt [⟨.Name x px, iter, ifs, 0⟩] scope pos) (some (.Name y py)) spos.line env = pure true := by rfl) (hl : env.kindOf y = some .local := by rfl) (hk : env.scope.kind = .function := by rfl)
    (hs : ∀ x, foldedSetIterable iter env x = pure x := by intro _; rfl) : EvX prog w Bs k env (.Assign [.Name y py] (.ListComp elt [⟨.Name x px, iter, ifs, 0⟩] scope pos) spos) m σ Q := fun A g s Qc Ec hA hB hL R hQ => by
  simp only [compOk, Bool.and_eq_true, decide_eq_true_eq, List.all_eq_true] at hok
  obtain ⟨⟨⟨o1, o2⟩, o3⟩, o4⟩ := hok
  rw [exec_Assign_Name_used _ _ _ _ hsw]
  refine wpAny_bind (wpAny_standAt (wpAny_bind ?_))
  show wpAny _ A (do let _ ← comprehension (.ListComp elt [⟨.Name x px, iter, ifs, 0⟩] scope pos) scope env _ (newList []) false (eval iter env) (some (assign (.Name y py) env))) _ _ s
  refine wpAny_bind (wpAny_mono (wpAny_comprehension_free (use := some (assign (.Name y py) env)) (Q := fun _ s' => Qc .next s') rfl hs hclos o1 (fun y hy => o3 y hy) ?_) (fun _ s' hq => wpAny_pure (wpAny_pure hq)) fun _ _ e => e)
  refine h A g s _ _ hA hB R fun cv v σ1 h1 tk1 hi R1 r1 t1 => hi A g _ cv _ _ hA hB R1 r1 fun I fp wr vs need S σ' h' tk hb W st R' t' hfp hwr hn _ => ?_
  refine comp_core (RR := fun acc C => compPost (model prog w) A Ec (some (assign (.Name y py) env)) (fun _ s' => Qc .next s') acc C) W hb.1 hA hB o1 o4 (fun y hy => o2 y hy) R' st hfp hwr hn hb.2 ?_
  intro D C acc σ3 h3 tk3 m3 hq R3 hns gC hCL hCD hσ t3
  show wpAny _ A (assign (.Name y py) env (.ref D)) _ _ _
  obtain ⟨mc, hnL, hmL⟩ := R3.ns
  refine wpAny_assign_Name (wpAny_storeName_local hl hnL (fun h4 hn4 hs4 => ?_) (by rw [hk]; rfl))
  have R4 := R3.store hL hnL hmL hn4 hs4 (.ref D)
  have t4 := ns_tk hnL hs4
  refine ⟨m3, hns.sameBut hs4 hCL, fun h5 hs5 => ?_⟩
  obtain ⟨R5, t5⟩ := R4.offC hs5 gC hCL (fun p hp => by
    rcases List.mem_cons.mp hp with rfl | hp
    · exact Ne.symm hCD
    · exact hσ p hp) (hns.sameBut hs4 hCL)
  exact hQ .next .next _ _ h5 _ (hq D) R5 .next (t1.trans (t'.trans (t3.trans (t4.trans t5))))
/-- turns that leave the objects alone -/
theorem compB_pure {α : Type} {x : Str} {ifs : List Expr} {elt : Expr} {need : St → Prop} {Q : List V → St → Prop} (f : α → V) (p : α → Bool) (u : α → V) : ∀ (xs : List α) (acc : List V),
    (∀ y ∈ xs, EvT prog w Bs k env ifs [(x, f y)] σ fun ok σ1 => ok = p y ∧ SubP σ σ1) → (∀ y ∈ xs, p y = true → EvE prog w Bs k env elt [(x, f y)] σ fun v σ1 => v = u y ∧ SubP σ σ1) → need σ → Q (acc ++ (xs.filter p).map u) σ →
    CompB prog w Bs k env x ifs elt need Q (xs.map f) acc σ
  | [], acc, _, _, _, hq => by simpa [CompB] using hq
  | y :: xs, acc, h1, h2, hn, hq => by
    simp only [List.map_cons, CompB]
    have e1 := h1 y (.head _)
    refine Ev.mono e1 fun ok σ1 ⟨e, sub⟩ => ?_
    subst e
    cases hp : p y with
    | true =>
      refine if_tt rfl ?_
      have e2 := h2 y (.head _) hp
      intro A g s Qc Ec hA hB R hQ
      refine e2 A g s Qc Ec hA hB (R.subP sub) fun cv v σ2 h' tk ⟨ev, sub2⟩ R' r t => hQ cv v σ2 h' tk ⟨σ, sub2, hn, ?_⟩ R' r t
      subst ev
      exact compB_pure f p u xs _ (fun z hz => h1 z (.tail _ hz)) (fun z hz => h2 z (.tail _ hz)) hn (by simpa [hp] using hq)
    | false =>
      refine if_ff rfl ?_
      exact ⟨σ, sub, hn, compB_pure f p u xs _ (fun z hz => h1 z (.tail _ hz)) (fun z hz => h2 z (.tail _ hz)) hn (by simpa [hp] using hq)⟩
theorem its_comp_list {α : Type} {x : Str} {ifs : List Expr} {elt : Expr} {ce : Addr → Env} {Q : List V → St → Prop} (xs : List α) (f : α → V) (p : α → Bool) (u : α → V) (hm : (a, ob) ∈ σ) (hl : ob.peel = .list (xs.map f)) (hz : xs.length ≤ 10000)
    (h1 : ∀ C, ∀ y ∈ xs, EvT prog w Bs k (ce C) ifs [(x, f y)] σ fun ok σ1 => ok = p y ∧ SubP σ σ1) (h2 : ∀ C, ∀ y ∈ xs, p y = true → EvE prog w Bs k (ce C) elt [(x, f y)] σ fun v σ1 => v = u y ∧ SubP σ σ1) (hq : Q ((xs.filter p).map u) σ) :
    Its prog w Bs k L (.ref a) m σ fun vs need σ2 => vs.length ≤ sizeLine ∧ ∀ C, CompB prog w Bs k (ce C) x ifs elt need Q vs [] σ2 :=
  its_list hm hl ⟨len_ok (by simpa using hz), fun C => compB_pure f p u xs [] (h1 C) (h2 C) hm (by simpa using hq)⟩
theorem its_comp_range {x : Str} {ifs : List Expr} {elt : Expr} {ce : Addr → Env} {Q : List V → St → Prop} {r : Addr} {b : Int} {t t' t'' : Tok} {σ' : St} (n : Nat) (p : Nat → Bool) (u : Nat → V) (hn : b = (n : Int)) (hz : n ≤ 10000) (hs : σ = (r, .obj (rngO 0 b t t' t'')) :: σ')
    (h1 : ∀ C, ∀ y, y < n → EvT prog w Bs k (ce C) ifs [(x, .int (y : Int))] σ' fun ok σ1 => ok = p y ∧ SubP σ' σ1) (h2 : ∀ C, ∀ y, y < n → p y = true → EvE prog w Bs k (ce C) elt [(x, .int (y : Int))] σ' fun v σ1 => v = u y ∧ SubP σ' σ1) (hq : Q (((List.range n).filter p).map u) σ') :
    Its prog w Bs k L (.ref r) m σ fun vs need σ2 => vs.length ≤ sizeLine ∧ ∀ C, CompB prog w Bs k (ce C) x ifs elt need Q vs [] σ2 := by
  refine its_range n hn (by omega) hs ⟨len_ok (by rw [rngV_length]; exact hz), fun C => ?_⟩
  have e : rngV 0 n = (List.range n).map fun i : Nat => V.int (i : Int) := by simp [rngV]
  rw [e]
  exact compB_pure _ p u (List.range n) [] (fun y hy => h1 C y (List.mem_range.mp hy)) (fun y hy => h2 C y (List.mem_range.mp hy)) trivial (by simpa using hq)
end
end Mine

set_option Elab.async false
set_option linter.unusedVariables false
set_option maxRecDepth 100000
namespace Mine
open PySem PyProof.Rows PySem.Calls PySem.W PySem.Spec

section
variable {prog : Program} {w : World} {Bs : Heap} {k : Nat} {env : Env} {m : Env'} {σ σ' : St} {g h h' : Heap} {L a d : Addr} {ob : O} {vs : List V} {kvs : KV}

/-- an entry said more weakly -/
theorem RH.change (R : RH prog w g σ h) {o o' : O} (u : Up a o o' σ σ') (hc : ∀ c, h.get? a = some c → OR prog w h c o → OR prog w h c o') : RH prog w g σ' h := by
  have ha := R.own _ u.mem
  refine ⟨R.keep, by rw [u.map]; exact R.nd, fun p hp => ?_, R.st, fun p hp => ?_⟩
  · rcases u.of hp R.nd with rfl | ⟨hm, _⟩
    · obtain ⟨h1, c, h2, h3⟩ := ha
      exact ⟨h1, c, h2, hc c h2 h3⟩
    · exact R.own p hm
  · rcases u.of hp R.nd with rfl | ⟨hm, _⟩
    · exact R.low (a, o) u.mem
    · exact R.low p hm
theorem Rel.change (R : Rel prog w g L m σ h) {o o' : O} (u : Up a o o' σ σ') (hc : ∀ c, h.get? a = some c → OR prog w h c o → OR prog w h c o') : Rel prog w g L m σ' h :=
  ⟨R.rh.change u hc, R.ns, fun p hp => by
    rcases u.of hp R.rh.nd with rfl | ⟨hm, _⟩
    · exact fun e => R.offS _ u.mem e
    · exact R.offS p hm⟩
theorem EvSt.unfix {t : Sem Flow} {Q : Fl → Env' → St → Prop} {c : Obj} {o : O} (u : Up a (.fix c o) o σ σ') (h : EvSt prog w Bs k L t m σ' Q) : EvSt prog w Bs k L t m σ Q :=
  fun A g s' Qc Ec hA hB hL R hQ => h A g s' Qc Ec hA hB hL (R.change u fun _ _ r => r.2) hQ

theorem Up.fixes {o o' : O} : ∀ {l l' : St}, Up a o o' l l' → ∃ f : Obj → St, (∀ c, Up a o (.fix c o) l (f c)) ∧ ∀ c, Up a (.fix c o) o (f c) l
  | _, _, .head (r := r) => ⟨fun c => (a, .fix c o) :: r, fun _ => .head, fun _ => .head⟩
  | _, _, .tail (p := p) u => let ⟨f, x, y⟩ := u.fixes; ⟨fun c => p :: f c, fun c => .tail (x c), fun c => .tail (y c)⟩
/-- a dict's keys are walked; it is held as it is -/
theorem iter_dict {I : Addr} {c : Obj} {ckvs : List (Str × Value)} {ep : Nat} (hI : d ≠ I) (hc : ∀ h : Heap, h.get? d = some c → h.DictAt (strKind prog w) d ckvs ep) (hk : ckvs.map (·.1) = kvs.map (·.1)) :
    Iter prog w I [I] [I] (kvs.map fun p => .str p.1) (fun σ => (d, .fix c (.dict kvs)) ∈ σ) (fun i h => h.IsKeyIter I d i ckvs.length ep) where
  sub := fun _ hb => hb
  there := fun i h st b hb => by
    obtain ⟨o, ho, _⟩ := st
    rw [List.mem_singleton.mp hb]; exact ⟨o, ho⟩
  frame := fun i h h' st kp _ => st.at fun o e => kp I (.head _) o e
  item := fun A k g σ s Qc Ec i v hA R hn st hv hQ => by
    obtain ⟨_, o, ho, e, _⟩ := R.own _ hn
    have e' : o = c := e
    subst e'
    have hd := hc _ ho
    rw [List.getElem?_map] at hv
    obtain ⟨p, hp, rfl⟩ := Option.map_eq_some_iff.mp hv
    have hl : ckvs[i]? = some (p.1, (ckvs[i]?.map (·.2)).getD .none) := by
      have : (ckvs.map (·.1))[i]? = some p.1 := by rw [hk, List.getElem?_map, hp]; rfl
      rw [List.getElem?_map] at this
      cases q : ckvs[i]? with
      | none => rw [q] at this; cases this
      | some y => rw [q] at this; obtain ⟨y1, y2⟩ := y; simp at this; subst this; rfl
    refine wpAny_pyNext_dict_item st hd hl fun key h' hkey st' hs => ?_
    have tk : TK s.heap h' := by
      obtain ⟨o, hoI, hcI, _⟩ := st
      exact tk_but (wr := [I]) (fun b o hb e => (hs.2 b fun q => hb (by rw [q]; exact .head _)).trans e) fun b hb => by
        rw [List.mem_singleton.mp hb]; exact not_tup hoI hcI (by decide)
    have : ∃ t, key = .str p.1 t := by
      have hkey' : Value.isStrOf p.1 key = true := hkey
      cases key with
      | str x t => exact ⟨t, by simp [Value.isStrOf] at hkey'; rw [hkey']⟩
      | _ => simp [Value.isStrOf] at hkey'
    obtain ⟨t, rfl⟩ := this
    exact hQ _ h' s.toks (.str _ _) st' (fun b o hb e => (hs.2 b fun q => hb (by rw [q]; exact .head _)).trans e) tk
  done := fun A k g σ s Qc Ec hA R hn st hQ => by
    obtain ⟨_, o, ho, e, _⟩ := R.own _ hn
    have e' : o = c := e
    subst e'
    have hd := hc _ ho
    have hl : ckvs.length = kvs.length := by have := congrArg List.length hk; simpa using this
    refine wpAny_pyNext_dict_end hA.1 st hd (by simp [hl]) fun h' hs => ?_
    have kp : ∀ b o, b ∉ [I] → s.heap.get? b = some o → h'.get? b = some o := fun b o hb e => hs b o (fun q => hb (by rw [q]; exact .head _)) e
    have tk : TK s.heap h' := by
      obtain ⟨o, hoI, hcI, _⟩ := st
      exact tk_but kp fun b hb => by
        rw [List.mem_singleton.mp hb]; exact not_tup hoI hcI (by decide)
    exact hQ h' s.toks kp tk
  self := fun A i s Qc Ec st hQ => wpAny_pyIter_keyiter st hQ
theorem its_dict {K : ∀ (vs : List V) (need : St → Prop), St → Prop} {σf : Obj → St} (u : ∀ c, Up d (.dict kvs) (.fix c (.dict kvs)) σ (σf c)) (h : ∀ c, K (kvs.map fun p => .str p.1) (fun σ => (d, .fix c (.dict kvs)) ∈ σ) (σf c)) : Its prog w Bs k L (.ref d) m σ K := by
  intro A g s cv Qc Ec hA hB R r hQ
  cases r
  have um := (u default).mem
  obtain ⟨_, c, hoc, ckvs, hdo, rk⟩ := R.rh.own _ um
  obtain ⟨ckvs', hd', rk'⟩ := R.rh.dict_at um rfl
  have hd : s.heap.DictOf (strKind prog w) d ckvs := Heap.dictOf_iff.mpr ⟨c, hoc, hdo⟩
  obtain ⟨ep, hat⟩ := hd.dictAt
  have hfix : ∀ h : Heap, h.get? d = some c → h.DictAt (strKind prog w) d ckvs ep := fun h e => by
    obtain ⟨o, es, ho, r⟩ := hat
    rw [hoc] at ho; cases ho
    exact ⟨c, es, e, r⟩
  refine wpAny_pyIter_dict (R.rh.notModules um) hat ?_
  have R1 : Rel prog w g L m (σf c) s.heap := R.change (u c) fun c' e r => ⟨by rw [hoc] at e; exact (Option.some.inj e).symm, r⟩
  have kp := push_keep s.heap { cls := .type "dict_keyiterator", data := .fields #[.ref d, .int 0 0, .int ckvs.length 0, .int ep 0] }
  have hne : d ≠ s.heap.objs.size := Nat.ne_of_lt (Heap.lt_size hoc)
  obtain ⟨o1, o2⟩ := push_off R1
  have hmem : (d, O.fix c (.dict kvs)) ∈ σf c := by
    have : ∀ {l l' : St} {o o' : O}, Up d o o' l l' → (d, o') ∈ l' := by
      intro l l' o o' u
      induction u with
      | head => exact .head _
      | tail _ ih => exact .tail _ ih
    exact this (u c)
  refine hQ _ _ _ _ _ _ (σf c) _ s.toks (h c) (iter_dict (I := s.heap.objs.size) hne hfix rk.keys) ⟨_, Heap.get?_push_size _ rfl, rfl, rfl⟩ (R1.ext kp) (.of_keep kp) o1 o2 hmem ?_
  intro i v hv elts x1 pos cv s' Qc' Ec' rv st hq
  rw [List.getElem?_map] at hv
  obtain ⟨p, hp, rfl⟩ := Option.map_eq_some_iff.mp hv
  cases rv
  exact wpAny_pure hq

/-- xs.pop(i) -/
theorem bf_listpop {i : Int} {j : Nat} {v : V} {Q : V → St → Prop} (hi : i = (j : Int)) (hb : j < 1000000) (hv : vs[j]? = some v) (hz : vs.length ≤ sizeLine) (u : Up a (.list vs) (.list (vs.eraseIdx j)) σ σ') (hq : Q v σ') : EvF prog w Bs k (.builtin "list.pop") [.ref a, .int i] σ Q := by
  intro A g s Qc Ec cvs hA hB R rs hQ
  cases rs with
  | cons r rs =>
    cases r
    cases rs with
    | cons r rs =>
      cases rs; cases r
      rename_i tk
      obtain ⟨cl, n, ho, rl⟩ := R.list_at u.mem rfl
      obtain ⟨cv, hcv, rv⟩ := rl.get hv
      have hlt : j < cl.length := (List.getElem?_eq_some_iff.mp hcv).1
      have hidx : seqIndex? i cl.toArray.size = some j := by
        unfold seqIndex?
        have e1 : (if i < 0 then i + (cl.toArray.size : Int) else i) = i := if_neg (by omega)
        simp only [e1]
        rw [if_pos (by rw [Bool.and_eq_true, decide_eq_true_eq, decide_eq_true_eq]; simp only [List.size_toArray]; omega), hi, Int.toNat_natCast]
      obtain ⟨n', hup⟩ : ∃ n', (s.heap.update a (Obj.mapSeq fun xs => xs.eraseIdxIfInBounds j)).get? a = some (lstO (cl.eraseIdx j) n') := by
        have q := PySem.IsL.update (h := s.heap) (l := a) (items := cl.toArray) (n := n) ho (fun xs => xs.eraseIdxIfInBounds j)
        have e : cl.toArray.eraseIdxIfInBounds j = (cl.eraseIdx j).toArray := by simp
        rw [e] at q
        exact ⟨_, q⟩
      have hs : Heap.SameBut a s.heap (s.heap.update a (Obj.mapSeq fun xs => xs.eraseIdxIfInBounds j)) := Heap.SameBut.update ..
      have t := list_tk ho hs
      have rv2 : VRs s.heap (cl.eraseIdx j) (vs.eraseIdx j) := by
        clear hq u hQ hup hs t ho hidx hcv hlt hv hz
        have : ∀ (j : Nat) {c : List Value} {v : List V}, VRs s.heap c v → VRs s.heap (c.eraseIdx j) (v.eraseIdx j) := by
          intro j
          induction j with
          | zero => intro c v r; cases r with
            | nil => exact .nil
            | cons a r => exact r
          | succ j ih => intro c v r; cases r with
            | nil => exact .nil
            | cons a r => exact .cons a (ih r)
        exact this j rl
      have hfit : Builtin.List.listFitsIndex i = true := by
        unfold Builtin.List.listFitsIndex
        rw [Bool.and_eq_true, decide_eq_true_eq, decide_eq_true_eq]
        omega
      have hsz : cl.toArray.size ≤ sizeLine := by rw [List.size_toArray, rl.length]; exact hz
      have hy : cl.toArray[j]? = some cv := by rw [List.getElem?_toArray]; exact hcv
      exact call_meets F.slot_list_pop ⟨_, ho, rfl⟩ F.entry_list_pop (F.args_list_pop_2 (.ref a) (.int i tk)) (MeetsSeq.list_pop_at a cl.toArray n i tk j cv hfit hidx hy hsz) ⟨ho, hQ _ _ σ' _ s.toks hq (R.upd u hs t hup ⟨_, _, rfl, rv2.mono t⟩) (rv.mono t) t⟩
end
end Mine

set_option Elab.async false
set_option linter.unusedVariables false
set_option maxRecDepth 100000
namespace Mine
open PySem PyProof.Rows PySem.Calls PySem.W PySem.Spec

section
variable (prog : Program) (w : World)
/-- what is walked into a target -/
structure IterT (target : Expr) (I : Addr) (fp wr : List Addr) (vs : List V) (need : St → Prop) (S : Nat → Heap → Prop) : Prop where
  sub : ∀ b ∈ wr, b ∈ fp
  there : ∀ i h, S i h → ∀ b ∈ fp, ∃ o, h.get? b = some o
  frame : ∀ i h h', S i h → (∀ b ∈ fp, ∀ o, h.get? b = some o → h'.get? b = some o) → TK h h' → S i h'
  item : ∀ (A : Around) (k : Nat) (g : Heap) (σ : St) (s : Shared) (Qc : Value → Shared → Prop) (Ec : Value → Shared → Prop) (i : Nat) (v : V), AOk k A → RH prog w g σ s.heap → need σ → S i s.heap → vs[i]? = some v →
    (∀ cv h' tk, VR h' cv v → S (i + 1) h' → (∀ b o, b ∉ wr → s.heap.get? b = some o → h'.get? b = some o) → TK s.heap h' → Qc cv { s with heap := h', toks := tk }) →
    wpAny (model prog w) A (pyNext (.ref I)) (fun r s₁ => ∃ cv, r = some cv ∧ wpAny (model prog w) A (letOwnedTupleGo target (.ref I) cv) (fun _ s₂ => Qc cv s₂) Ec s₁) Ec s
  done : ∀ (A : Around) (k : Nat) (g : Heap) (σ : St) (s : Shared) (Qc : Option Value → Shared → Prop) (Ec : Value → Shared → Prop), AOk k A → RH prog w g σ s.heap → need σ → S vs.length s.heap →
    (∀ h' tk, (∀ b o, b ∉ wr → s.heap.get? b = some o → h'.get? b = some o) → TK s.heap h' → Qc none { s with heap := h', toks := tk }) → wpAny (model prog w) A (pyNext (.ref I)) Qc Ec s
end
section
variable {prog : Program} {w : World} {Bs : Heap} {k : Nat} {env : Env} {m : Env'} {σ σ' : St} {g h h' : Heap} {L a d : Addr} {ob : O} {vs : List V} {kvs : KV}

variable (prog w) in
def AsgT (k : Nat) (env : Env) (target : Expr) (v : V) (bnd : Env' → V → Env') : Prop :=
  ∀ (A : Around) (g : Heap) (m : Env') (σ : St) (s : Shared) (cv : Value) (Qc : Unit → Shared → Prop) (Ec : Value → Shared → Prop), AOk k A → g.get? env.locals = none → Rel prog w g env.locals m σ s.heap → VR s.heap cv v →
    (∀ h' tk, Rel prog w g env.locals (bnd m v) σ h' → TK s.heap h' → (∀ b o, b ≠ env.locals → s.heap.get? b = some o → h'.get? b = some o) → Qc () { s with heap := h', toks := tk }) →
    wpAny (model prog w) A (assign target env cv) Qc Ec s
/-- names bound in a row -/
def bindT : List Str → List V → Env' → Env'
  | x :: xs, v :: vs, m => bindT xs vs (mset m x v)
  | _, _, m => m
def bndT (xs : List Str) (m : Env') : V → Env'
  | .tup vs => bindT xs vs m
  | _ => m
theorem bindT_mono : ∀ (xs : List Str) (us : List V) (m1 m : Env'), (∀ x u, m1.lookup x = some u → m.lookup x = some u) → ∀ x u, (bindT xs us m1).lookup x = some u → (bindT xs us m).lookup x = some u
  | [], us, m1, m, h => by cases us <;> exact h
  | x :: xs, [], m1, m, h => h
  | x :: xs, u :: us, m1, m, h => bindT_mono xs us _ _ (mset_mono u m1 m h)
def namesE (es : List (Str × Pos)) : List Expr := es.map fun p => .Name p.1 p.2
theorem assign_names {A : Around} {Qc : Unit → Shared → Prop} {Ec : Value → Shared → Prop} (hk : env.scope.kind = .function) (hL : g.get? env.locals = none) : ∀ (es : List (Str × Pos)) (cvs : List Value) (vs : List V) (m : Env') (s : Shared),
    (∀ p ∈ es, env.kindOf p.1 = some .local) → Rel prog w g env.locals m σ s.heap → VRs s.heap cvs vs → cvs.length = es.length →
    (∀ h' tk, Rel prog w g env.locals (bindT (es.map (·.1)) vs m) σ h' → TK s.heap h' → (∀ b o, b ≠ env.locals → s.heap.get? b = some o → h'.get? b = some o) → Qc () { s with heap := h', toks := tk }) →
    wpAny (model prog w) A (assignInOrder ((assignEach (namesE es) env).map (·.2)) cvs) Qc Ec s
  | [], cvs, vs, m, s, _, R, r, hl, hQ => by
    cases cvs with
    | nil => cases r; exact wpAny_pure (hQ s.heap s.toks R (.refl _) fun _ _ _ e => e)
    | cons _ _ => simp at hl
  | (x, p) :: es, cvs, vs, m, s, hx, R, r, hl, hQ => by
    cases r with
    | nil => simp at hl
    | @cons c v cs vs r rs =>
      show wpAny _ A (do holding cs (assign (.Name x p) env c); assignInOrder ((assignEach (namesE es) env).map (·.2)) cs) _ _ _
      obtain ⟨mc, hn, hm⟩ := R.ns
      refine wpAny_bind (wpAny_holding (wpAny_assign_Name (wpAny_storeName_local (hx (x, p) (.head _)) hn (fun h1 hn1 hs1 => ?_) (by rw [hk]; rfl))))
      have t1 := ns_tk hn hs1
      refine assign_names hk hL es cs vs (mset m x v) _ (fun q hq => hx q (.tail _ hq)) (R.store hL hn hm hn1 hs1 r) (rs.mono t1) (by simpa using hl) fun h' tk R' t' kp => ?_
      exact hQ h' tk R' (t1.trans t') fun b o hb e => kp b o hb ((hs1.2 b hb).trans e)
theorem asg_tuple {es : List (Str × Pos)} {kk : Nat} {pos : Pos} {us : List V} (hk : env.scope.kind = .function) (hx : ∀ p ∈ es, env.kindOf p.1 = some .local) (hlen : us.length = es.length) :
    AsgT prog w k env (.Tuple (namesE es) kk pos) (.tup us) (bndT (es.map (·.1))) := fun A g m σ s cv Qc Ec hA hL R r hQ => by
  cases r with
  | @tup t cvs n _ ho rs =>
    have hz : ∀ (es : List (Str × Pos)), (assignEach (namesE es) env).length = es.length ∧ (assignEach (namesE es) env).findIdx? (·.1) = none := by
      intro es
      induction es with
      | nil => exact ⟨rfl, rfl⟩
      | cons p es ih =>
        refine ⟨?_, ?_⟩
        · show (assignEach (namesE es) env).length + 1 = _
          rw [ih.1]; rfl
        · show List.findIdx? (·.1) ((false, assign (.Name p.1 p.2) env) :: assignEach (namesE es) env) = none
          rw [List.findIdx?_cons]
          simp [ih.2]
    refine wpAny_assign_Tuple hA.1 (items := cvs.toArray) ⟨_, ho, rfl, n, rfl⟩ (by rw [(hz es).1, List.size_toArray, rs.length, hlen]) (hz es).2 fun h1 hx1 => ?_
    have kp : ∀ b o, s.heap.get? b = some o → h1.get? b = some o := fun b o e => hx1 b o (Nat.ne_of_lt (Heap.lt_size e)) e
    exact assign_names hk hL es cvs us m _ hx (R.ext kp) (rs.mono (.of_keep kp)) (by rw [rs.length, hlen]) fun h' tk R' t kp' => hQ h' tk R' ((TK.of_keep kp).trans t) fun b o hb e => kp' b o hb (kp b o e)

theorem for_iterT {target : Expr} {bnd : Env' → V → Env'} {body : List Stmt} {I : Addr} {fp wr : List Addr} {need : St → Prop} {S : Nat → Heap → Prop} (W : IterT prog w target I fp wr vs need S)
    {A : Around} {s : Shared} {Q : Fl → Env' → St → Prop} {R' : Result → Shared → Prop} (hA : AOk k A) (hB : ∀ b o, Bs.get? b = some o → g.get? b = some o) (hL : g.get? env.locals = none)
    (hasg : ∀ (i : Nat) v, vs[i]? = some v → AsgT prog w k env target v bnd)
    (R : Rel prog w g env.locals m σ s.heap) (hst : S 0 s.heap) (hfp : ∀ b ∈ fp, b ≠ env.locals ∧ ∀ p ∈ σ, p.1 ≠ b) (hwr : ∀ b ∈ wr, g.get? b = none) (hn : need σ)
    (h : ForB prog w Bs k env bnd body need Q vs m σ)
    (hQ : ∀ c f m' σ' h' tk, Q f m' σ' → Rel prog w g env.locals m' σ' h' → FR h' c f → TK s.heap h' → R' (.ok c) { s with heap := h', toks := tk }) :
    codeAny (model prog w) A (.forLoop target (.ref I) body [] env) R' s := by
  refine codeAny_forLoop_any (fun n s' => ∃ i m σ h tk, s' = { s with heap := h, toks := tk } ∧ i ≤ vs.length ∧ n = vs.length - i ∧ Rel prog w g env.locals m σ h ∧ S i h ∧ (∀ b ∈ fp, b ≠ env.locals ∧ ∀ p ∈ σ, p.1 ≠ b) ∧ need σ ∧
      ForB prog w Bs k env bnd body need Q (vs.drop i) m σ ∧ TK s.heap h) ?_ vs.length ⟨0, m, σ, s.heap, s.toks, rfl, Nat.zero_le _, rfl, R, hst, hfp, hn, by simpa using h, .refl _⟩
  rintro n s' ⟨i, m, σ, h, tk, rfl, hi, rfl, R, hst, hfp, hn, hb, ht⟩
  by_cases hlt : i < vs.length
  · have hv : vs[i]? = some vs[i] := by simp [hlt]
    have hd : vs.drop i = vs[i] :: vs.drop (i + 1) := List.drop_eq_getElem_cons hlt
    rw [hd] at hb
    refine wpAny_mono (W.item A k g σ _ (fun cv s₁' => wpAny (model prog w) A (assign target env cv) (fun _ s₂ => wpAny (model prog w) A (execs body env) (fun f s₃ => match f with
            | .next | .cont => ∃ m, m < vs.length - i ∧ (fun n s' => ∃ i m σ h tk, s' = { s with heap := h, toks := tk } ∧ i ≤ vs.length ∧ n = vs.length - i ∧ Rel prog w g env.locals m σ h ∧ S i h ∧ (∀ b ∈ fp, b ≠ env.locals ∧ ∀ p ∈ σ, p.1 ≠ b) ∧ need σ ∧
      ForB prog w Bs k env bnd body need Q (vs.drop i) m σ ∧ TK s.heap h) m s₃
            | .brk => R' (.ok .next) s₃
            | .ret v => R' (.ok (.ret v)) s₃) (notedBy (model prog w) A env fun e s' => R' (.error e) s') s₂) (notedBy (model prog w) A env fun e s' => R' (.error e) s') s₁') _ i _ hA R.rh hn hst hv fun cv h1 tk1 r1 st1 kp1 t1 => ?_) (fun r s₁ hx => by obtain ⟨cv, e, hw⟩ := hx; subst e; exact hw) fun _ _ e => e
    have R1 := R.but kp1 (fun b hb => ⟨hwr b hb, hfp b (W.sub b hb)⟩) t1
    refine hasg i _ hv A g m σ _ cv _ _ hA hL R1 r1 fun h2 tk2 R2 t2 kp2 => ?_
    have st2 : S (i + 1) h2 := W.frame _ _ _ st1 (fun b hb o e => kp2 b o (hfp b hb).1 e) t2
    have le := R2.le_mask hL
    refine hb A _ _ _ _ hA (fun b o e => le b o (hB b o e)) (mask_in (.head _)) (R2.masked hL) fun c f m' σ' h3 tk3 hq R3 fr t3 => ?_
    have kp3 : ∀ b ∈ fp, ∀ o, h2.get? b = some o → h3.get? b = some o := fun b hb o e => R3.rh.keep b o (by
      rw [mask_out]; exact e
      intro hm
      rcases List.mem_cons.mp hm with e | hm
      · exact (hfp b hb).1 e
      · obtain ⟨p, hp, q⟩ := List.mem_map.mp hm
        exact (hfp b hb).2 p hp q)
    have off : ∀ b ∈ fp, b ≠ env.locals ∧ ∀ p ∈ σ', p.1 ≠ b := fun b hb => ⟨(hfp b hb).1, fun p hp q => by
      obtain ⟨o, ho⟩ := W.there _ _ st2 b hb
      have := (R3.rh.own p hp).1
      rw [q, mask_out] at this
      · have ho' : h2.get? b = some o := ho
        have this' : h2.get? b = none := this
        rw [ho'] at this'; cases this'
      · intro hm
        rcases List.mem_cons.mp hm with e | hm
        · exact (hfp b hb).1 e
        · obtain ⟨p, hp, q⟩ := List.mem_map.mp hm
          exact (hfp b hb).2 p hp q⟩
    have R3' := R3.less R2.rh.st le
    have st3 := W.frame _ _ _ st2 kp3 t3
    have tt : TK s.heap h3 := ht.trans (t1.trans (t2.trans t3))
    cases fr with
    | next => exact ⟨_, by omega, i + 1, m', σ', h3, tk3, rfl, hlt, rfl, R3', st3, off, hq.1, hq.2, tt⟩
    | cont => exact ⟨_, by omega, i + 1, m', σ', h3, tk3, rfl, hlt, rfl, R3', st3, off, hq.1, hq.2, tt⟩
    | brk => exact hQ _ _ m' σ' h3 tk3 hq R3' .next tt
    | ret r => exact hQ _ _ m' σ' h3 tk3 hq R3' (.ret r) tt
  · have e : i = vs.length := by omega
    subst e
    refine W.done A k g σ _ _ _ hA R.rh hn hst fun h1 tk1 kp1 t1 => ?_
    have R1 := R.but kp1 (fun b hb => ⟨hwr b hb, hfp b (W.sub b hb)⟩) t1
    refine wpAny_execs_nil (hQ _ _ m σ h1 tk1 ?_ R1 .next (ht.trans t1))
    rw [List.drop_length] at hb
    exact hb

variable (prog w Bs) in
def ItsT (k : Nat) (L : Addr) (target : Expr) (v : V) (m : Env') (σ : St) (K : ∀ (vs : List V) (need : St → Prop), St → Prop) : Prop :=
  ∀ (A : Around) (g : Heap) (s : Shared) (cv : Value) (Qc : Value → Shared → Prop) (Ec : Value → Shared → Prop), AOk k A → (∀ b o, Bs.get? b = some o → g.get? b = some o) → Rel prog w g L m σ s.heap → VR s.heap cv v →
    (∀ I fp wr vs need S σ' h' tk, K vs need σ' → IterT prog w target I fp wr vs need S → S 0 h' → Rel prog w g L m σ' h' → TK s.heap h' → (∀ b ∈ fp, b ≠ L ∧ ∀ p ∈ σ', p.1 ≠ b) → (∀ b ∈ wr, g.get? b = none) → need σ' →
      Qc (.ref I) { s with heap := h', toks := tk }) →
    wpAny (model prog w) A (pyIter cv) Qc Ec s
theorem evx_forT {target iter : Expr} {pos : Pos} {body : List Stmt} {bnd : Env' → V → Env'} {Q : Fl → Env' → St → Prop}
    (h : EvE prog w Bs k env iter m σ fun v σ1 => ItsT prog w Bs k env.locals target v m σ1 fun vs need σ2 => (∀ v ∈ vs, AsgT prog w k env target v bnd) ∧ ForB prog w Bs k env bnd body need Q vs m σ2)
    (hs : ∀ x, foldedSetIterable iter env x = pure x := by intro _; rfl) :
    EvX prog w Bs k env (.For target iter body [] pos) m σ Q := fun A g s Qc Ec hA hB hL R hQ =>
  wpAny_For (h A g s _ _ hA hB R fun cv v σ1 h1 tk1 hi R1 r1 t1 => hi A g _ cv _ _ hA hB R1 r1 fun I fp wr vs need S σ' h' tk hb W st R' t' hfp hwr hn =>
    for_iterT W (s := { s with heap := h', toks := tk }) hA hB hL (fun i v hv => hb.1 v (List.mem_of_getElem? hv)) R' st hfp hwr hn hb.2 fun c f m' σ'' h'' tk' hq R'' fr t'' =>
      hQ c f m' σ'' h'' tk' hq R'' fr (t1.trans (t'.trans t''))) hs
/-- a list, into names -/
theorem itsT_list {es : List Expr} {kk : Nat} {tp : Pos} {K : ∀ (vs : List V) (need : St → Prop), St → Prop} (hm : (a, ob) ∈ σ) (hl : ob.peel = .list vs) (h : K vs (fun σ => (a, ob) ∈ σ) σ) : ItsT prog w Bs k L (.Tuple es kk tp) (.ref a) m σ K := by
  intro A g s cv Qc Ec hA hB R r hQ
  cases r
  obtain ⟨cvs, n, ho, rs⟩ := R.rh.list_at hm hl
  refine wpAny_pyIter_list ⟨_, ho, rfl, n, rfl⟩ ?_
  have kp := push_keep s.heap { cls := .type "list_iterator", data := .fields #[.ref a, .int 0 0] }
  have hne : a ≠ s.heap.objs.size := Nat.ne_of_lt (Heap.lt_size ho)
  obtain ⟨o1, o2⟩ := push_off R
  have W := iter_list (prog := prog) (w := w) (I := s.heap.objs.size) (vs := vs) hne hl
  refine hQ _ _ _ vs _ _ σ _ s.toks h ⟨W.sub, W.there, W.frame, ?_, W.done⟩ ⟨_, Heap.get?_push_size _ rfl, rfl, rfl⟩ (R.ext kp) (.of_keep kp) o1 o2 hm
  intro A' k' g' σ' s' Qc' Ec' i v hA' R' hn st hv hQ'
  refine W.item A' k' g' σ' s' _ _ i v hA' R' hn st hv fun cv h' tk rv st' kp' t' => ⟨cv, rfl, ?_⟩
  have fin := hQ' cv h' tk rv st' kp' t'
  cases rv with
  | tup e _ => exact wpAny_letOwnedTupleGo_listiter st' fin
  | ref b => exact wpAny_letOwnedTupleGo_listiter st' fin
  | raw c =>
    cases cv <;> first | exact wpAny_letOwnedTupleGo_listiter st' fin | exact wpAny_pure fin
  | _ => exact wpAny_pure fin

/-- for a, b, c in a list of tuples, by an invariant -/
theorem evx_for_tups {es : List (Str × Pos)} {kk : Nat} {tp pos : Pos} {iter : Expr} {body : List Stmt} {Q : Fl → Env' → St → Prop}
    (h : EvE prog w Bs k env iter m σ fun v σ1 => ∃ a ob vs, v = .ref a ∧ (a, ob) ∈ σ1 ∧ ob.peel = .list vs ∧ (∀ v ∈ vs, ∃ us, v = .tup us ∧ us.length = es.length) ∧ ∃ (Inv : List V → Env' → St → Prop) (m1 : Env') (σ2 : St), leE m1 m ∧ SubP σ2 σ1 ∧ Inv [] m1 σ2 ∧
      (∀ pre v post m σ, vs = pre ++ v :: post → Inv pre m σ → EvS prog w Bs k env body (bndT (es.map (·.1)) m v) σ fun f m' σ' => match f with
        | .brk => Q .next m' σ'
        | .ret u => Q (.ret u) m' σ'
        | _ => ∃ m1 σ1, leE m1 m' ∧ SubP σ1 σ' ∧ (a, ob) ∈ σ1 ∧ Inv (pre ++ [v]) m1 σ1) ∧
      (∀ m1 σ1 m σ, leE m1 m → SubP σ1 σ → Inv vs m1 σ1 → Q .next m σ))
    (hx : ∀ p ∈ es, env.kindOf p.1 = some .local) (hk : env.scope.kind = .function := by rfl) (hs : ∀ x, foldedSetIterable iter env x = pure x := by intro _; rfl) :
    EvX prog w Bs k env (.For (.Tuple (namesE es) kk tp) iter body [] pos) m σ Q :=
  evx_forT (bnd := bndT (es.map (·.1))) (h.mono fun v σ1 ⟨a, ob, vs, e, hm, hl, htup, Inv, m1, σ2, i1, i2, i3, step, done⟩ => by
    subst e
    refine itsT_list hm hl ⟨fun v hv => ?_, forB_inv Inv step done i1 i2 i3 ?_ fun _ _ s h => s.subset h⟩
    · obtain ⟨us, rfl, hlen⟩ := htup v hv
      exact asg_tuple hk hx hlen
    · intro v m1 m hle
      cases v with
      | tup us =>
        exact bindT_mono (es.map (·.1)) us m1 m hle
      | _ => exact hle) hs

-- enumerate
abbrev enumO (it : Addr) : Obj := { cls := .type "enumerate", dict := none, data := .fields #[.none, .bool false, .ref it, rawInt 0, .none, .none], slots := #[] }
def enumV (n : Nat) : List V → List V
  | [] => []
  | v :: r => .tup [.int (n : Int), v] :: enumV (n + 1) r
theorem enumV_get : ∀ {vs : List V} {n i : Nat} {u : V}, (enumV n vs)[i]? = some u → ∃ v, vs[i]? = some v ∧ u = .tup [.int ((n + i : Nat) : Int), v]
  | [], n, i, u, h => by simp [enumV] at h
  | v :: r, n, 0, u, h => by simp [enumV] at h; exact ⟨v, by simp, by simp [← h]⟩
  | v :: r, n, i + 1, u, h => by
    simp [enumV] at h
    obtain ⟨v', h1, h2⟩ := enumV_get h
    exact ⟨v', by simpa using h1, by rw [h2, show n + 1 + i = n + (i + 1) by omega]⟩
theorem enumV_length : ∀ (vs : List V) (n : Nat), (enumV n vs).length = vs.length
  | [], _ => rfl
  | v :: r, n => by simp [enumV, enumV_length r]
theorem bf_enum {Q : V → St → Prop} (hm : (a, ob) ∈ σ) (hl : ob.peel = .list vs) (hq : ∀ e it io, io = ({ cls := .type "list_iterator", data := .fields #[.ref a, .int 0 0] } : Obj) → Q (.ref e) ((e, .obj (enumO it)) :: (it, .obj io) :: σ)) : EvF prog w Bs k (.type "enumerate") [.ref a] σ Q := by
  intro A g s Qc Ec cvs hA hB R rs hQ
  cases rs with
  | cons r rs =>
    cases r; cases rs
    obtain ⟨cl, n, ho, rl⟩ := R.list_at hm hl
    refine callType_new F.called_enumerate (by decide) (F.typeCall_enumerate_1 _) (F.newCall_enumerate_1 _) (fun obj => F.args_object_init_2 obj _) F.entry_enumerate_new
      (meets_enumerate_new a cl.toArray n) ⟨ho, ?_⟩
    have kp1 := push_keep s.heap { cls := .type "list_iterator", data := .fields #[.ref a, .int 0 0] }
    have R1 := R.new (ao := .obj { cls := .type "list_iterator", data := .fields #[.ref a, .int 0 0] }) kp1 (Nat.le_refl _) (Heap.get?_push_size _ rfl) rfl
    have kp2 := push_keep (s.heap.push { cls := .type "list_iterator", data := .fields #[.ref a, .int 0 0] }) (enumO s.heap.objs.size)
    have R2 := R1.new (ao := .obj (enumO s.heap.objs.size)) kp2 (Nat.le_refl _) (Heap.get?_push_size _ rfl) rfl
    exact ⟨⟨_, Heap.get?_push_size _ rfl, rfl⟩, hQ _ _ _ _ s.toks (hq _ _ _ rfl) R2 (.ref _) (.of_keep fun b o e => kp2 b o (kp1 b o e))⟩
theorem itsT_enum {es : List Expr} {kk : Nat} {tp : Pos} {e it : Addr} {K : ∀ (vs : List V) (need : St → Prop), St → Prop} (hs : σ = (e, .obj (enumO it)) :: (it, .obj ({ cls := .type "list_iterator", data := .fields #[.ref a, .int 0 0] } : Obj)) :: σ')
    (hm : (a, ob) ∈ σ') (hl : ob.peel = .list vs) (h : K (enumV 0 vs) (fun σ => (a, ob) ∈ σ) σ') : ItsT prog w Bs k L (.Tuple es kk tp) (.ref e) m σ K := by
  intro A g s cv Qc Ec hA hB R r hQ
  subst hs
  cases r
  obtain ⟨ge, oe, hoe, ee⟩ := R.rh.own _ (.head _)
  obtain ⟨gi, oi, hoi, ei⟩ := R.rh.own _ (.tail _ (.head _))
  have ee' : oe = enumO it := ee
  have ei' : oi = { cls := .type "list_iterator", data := .fields #[.ref a, .int 0 0] } := ei
  subst ee' ei'
  have R1 : Rel prog w g L m σ' s.heap := R.sub ((List.sublist_cons_self _ _).trans (List.sublist_cons_self _ _))
  have nd := R.rh.nd
  simp only [List.map_cons, List.nodup_cons, List.mem_cons, not_or] at nd
  obtain ⟨⟨nei, nes⟩, nis, _⟩ := nd
  have nea : e ≠ a := fun q => nes (List.mem_map.mpr ⟨_, hm, q.symm⟩)
  have nia : it ≠ a := fun q => nis (List.mem_map.mpr ⟨_, hm, q.symm⟩)
  have hT : s.TypeIs (.ref e) "enumerate" := ⟨_, hoe, rfl⟩
  refine wpAny_pyIter_slot hT F.slot_enumerate_iter (wpAny_call_entry F.slot_enumerate_iter hT F.entry_enumerate_iter ?_ (F.args_enumerate_iter_1 _))
  show wpAny _ _ (ret (.ref e)) _ _ s
  refine wpAny_pure ⟨_, rfl, "enumerate", _, hT, F.slot_enumerate_next.lookup, ?_⟩
  refine hQ e [e, it] [e, it] _ (fun σ => (a, ob) ∈ σ) (fun i h => (∃ old, IsEnum h e it (i : Int) old) ∧ h.IsListIter it a i) σ' s.heap s.toks h ⟨fun _ hb => hb, ?_, ?_, ?_, ?_⟩ ⟨⟨_, hoe⟩, ⟨_, hoi, rfl, rfl⟩⟩ R1 (.refl _) ?_ ?_ hm
  · rintro i h ⟨⟨old, he⟩, o, ho, _⟩ b hb
    rcases List.mem_cons.mp hb with rfl | hb
    · exact ⟨_, he⟩
    · rw [List.mem_singleton.mp hb]; exact ⟨o, ho⟩
  · rintro i h h' ⟨⟨old, he⟩, st⟩ kp _
    exact ⟨⟨old, kp e (.head _) _ he⟩, st.at fun o e => kp it (.tail _ (.head _)) o e⟩
  · intro A' k' g' σ2 s' Qc' Ec' i u hA' R' hn st hv hQ'
    obtain ⟨⟨old, he⟩, hit⟩ := st
    obtain ⟨v, hv2, rfl⟩ := enumV_get hv
    rw [Nat.zero_add] at hQ'
    obtain ⟨cvs, n, ho, rs⟩ := R'.list_at hn hl
    obtain ⟨cv, hc, rv⟩ := rs.get hv2
    refine wpAny_pyNext_enum_item he hit ⟨_, ho, rfl, n, rfl⟩ (by simpa using hc) nei fun h1 heo hit1 ht1 hz1 kp1 => ⟨_, rfl, ?_⟩
    refine wpAny_letOwnedTupleGo_enum heo fun h2 he2 hs2 => ?_
    replace hs2 : Heap.SameBut e h1 h2 := hs2
    have kp : ∀ b o, b ∉ [e, it] → s'.heap.get? b = some o → h2.get? b = some o := fun b o hb x => by
      simp only [List.mem_cons, List.not_mem_nil, or_false, not_or] at hb
      exact (hs2.2 b hb.1).trans (kp1 b o hb.1 hb.2 x)
    have t : TK s'.heap h2 := tk_but kp fun b hb => by
      rcases List.mem_cons.mp hb with rfl | hb
      · exact not_tup he rfl (by decide)
      · rw [List.mem_singleton.mp hb]
        obtain ⟨o, ho', hc', _⟩ := hit
        exact not_tup ho' hc' (by decide)
    have hes : e ≠ s'.heap.objs.size := Nat.ne_of_lt (Heap.lt_size he)
    have ht2 : h2.get? s'.heap.objs.size = some (tupO [.int i s'.toks, cv] 0) := (hs2.2 _ hes.symm).trans ht1
    refine hQ' _ h2 _ (.tup ht2 (.cons (.int ..) (.cons (rv.mono t) .nil))) ⟨⟨cv, ?_⟩, ?_⟩ kp t
    · have : ((i + 1 : Nat) : Int) = (i : Int) + 1 := by push_cast; rfl
      rw [this]; exact he2
    · exact hit1.at fun o x => (hs2.2 it (Ne.symm nei)).trans x
  · intro A' k' g' σ2 s' Qc' Ec' hA' R' hn st hQ'
    obtain ⟨⟨old, he⟩, hit⟩ := st
    rw [enumV_length] at he hit
    obtain ⟨cvs, n, ho, rs⟩ := R'.list_at hn hl
    refine wpAny_pyNext_enum_end hA'.1 he hit ⟨_, ho, rfl, n, rfl⟩ (by simp [rs.length]) fun h1 hx1 => ?_
    have kp : ∀ b o, b ∉ [e, it] → s'.heap.get? b = some o → h1.get? b = some o := fun b o hb x => by
      simp only [List.mem_cons, List.not_mem_nil, or_false, not_or] at hb
      exact hx1 b o hb.2 x
    have t : TK s'.heap h1 := tk_but kp fun b hb => by
      rcases List.mem_cons.mp hb with rfl | hb
      · exact not_tup he rfl (by decide)
      · rw [List.mem_singleton.mp hb]
        obtain ⟨o, ho', hc', _⟩ := hit
        exact not_tup ho' hc' (by decide)
    exact hQ' h1 s'.toks kp t
  · intro b hb
    rcases List.mem_cons.mp hb with rfl | hb
    · exact ⟨R.offS _ (.head _), fun p hp q => nes (List.mem_map.mpr ⟨p, hp, q⟩)⟩
    · rw [List.mem_singleton.mp hb]
      exact ⟨R.offS _ (.tail _ (.head _)), fun p hp q => nis (List.mem_map.mpr ⟨p, hp, q⟩)⟩
  · intro b hb
    rcases List.mem_cons.mp hb with rfl | hb
    · exact ge
    · rw [List.mem_singleton.mp hb]; exact gi
theorem evx_for_enum {xa xb : Str} {pa pb : Pos} {kk : Nat} {tp pos : Pos} {iter : Expr} {body : List Stmt} {Q : Fl → Env' → St → Prop}
    (h : EvE prog w Bs k env iter m σ fun v σ1 => ∃ e it a ob vs σ0, v = .ref e ∧ σ1 = (e, .obj (enumO it)) :: (it, .obj ({ cls := .type "list_iterator", data := .fields #[.ref a, .int 0 0] } : Obj)) :: σ0 ∧ (a, ob) ∈ σ0 ∧ ob.peel = .list vs ∧ ∃ (Inv : Nat → Env' → St → Prop) (m1 : Env') (σ2 : St), leE m1 m ∧ SubP σ2 σ0 ∧ Inv 0 m1 σ2 ∧
      (∀ (i : Nat) (u : V) m σ, vs[i]? = some u → Inv i m σ → EvS prog w Bs k env body (mset (mset m xa (.int (i : Int))) xb u) σ fun f m' σ' => match f with
        | .brk => Q .next m' σ'
        | .ret u => Q (.ret u) m' σ'
        | _ => ∃ m1 σ1, leE m1 m' ∧ SubP σ1 σ' ∧ (a, ob) ∈ σ1 ∧ Inv (i + 1) m1 σ1) ∧
      (∀ m1 σ1 m σ, leE m1 m → SubP σ1 σ → Inv vs.length m1 σ1 → Q .next m σ))
    (hxa : env.kindOf xa = some .local := by rfl) (hxb : env.kindOf xb = some .local := by rfl) (hk : env.scope.kind = .function := by rfl) (hs : ∀ x, foldedSetIterable iter env x = pure x := by intro _; rfl) :
    EvX prog w Bs k env (.For (.Tuple [.Name xa pa, .Name xb pb] kk tp) iter body [] pos) m σ Q := by
  show EvX prog w Bs k env (.For (.Tuple (namesE [(xa, pa), (xb, pb)]) kk tp) iter body [] pos) m σ Q
  refine evx_forT (bnd := bndT [xa, xb]) (h.mono fun v σ1 hh => ?_) hs
  obtain ⟨e, it, a, ob, vs, σ0, rfl, hs, hm, hl, Inv, m1, σ2, i1, i2, i3, step, done⟩ := hh
  refine itsT_enum hs hm hl ⟨fun v hv => ?_, forB_inv (fun pre => Inv pre.length) ?_ (fun m1 σ1 m σ h1 h2 h3 => done m1 σ1 m σ h1 h2 (by rw [enumV_length] at h3; exact h3)) i1 i2 i3 ?_ fun _ _ s h => s.subset h⟩
  · obtain ⟨i, hi⟩ := List.mem_iff_getElem?.mp hv
    obtain ⟨u, _, rfl⟩ := enumV_get hi
    exact asg_tuple (es := [(xa, pa), (xb, pb)]) hk (fun p hp => by
      rcases List.mem_cons.mp hp with rfl | hp
      · exact hxa
      · rw [List.mem_singleton.mp hp]; exact hxb) rfl
  · intro pre v post m σ ev hi
    have hv : (enumV 0 vs)[pre.length]? = some v := by rw [ev]; simp
    obtain ⟨u, hu, rfl⟩ := enumV_get hv
    have st := step pre.length u m σ hu hi
    rw [Nat.zero_add]
    refine EvSt.mono st fun f m' σ' hq => ?_
    have nx : (∃ m1 σ1, leE m1 m' ∧ SubP σ1 σ' ∧ (a, ob) ∈ σ1 ∧ Inv (pre.length + 1) m1 σ1) → ∃ m1 σ1, leE m1 m' ∧ SubP σ1 σ' ∧ (a, ob) ∈ σ1 ∧ Inv (pre ++ [V.tup [.int (pre.length : Int), u]]).length m1 σ1 := by
      rintro ⟨m2, σ2, h1, h2, h3, h4⟩
      exact ⟨m2, σ2, h1, h2, h3, by simpa using h4⟩
    cases f with
    | next => exact nx hq
    | cont => exact nx hq
    | brk => exact hq
    | ret u => exact hq
  · intro v m1 m hle
    cases v with
    | tup us => exact bindT_mono _ us m1 m hle
    | _ => exact hle

-- membership in a list
theorem cmp_inD {x : V} {d : Dat} {ds : List Dat} {c : Bool} (dx : DV σ x d) (hm : (a, ob) ∈ σ) (hl : ob.peel = .list vs) (dl : DVs σ vs ds) (hd : kqdOk 8 d = true) (hds : ∀ e ∈ ds, kqdOk 8 e = true) (hc : c = true ↔ d ∈ ds) : CmpG prog w σ .In x (.ref a) c := fun A k g s ca cb Qc Ec hA R ra rb hQ => by
  obtain ⟨as, r1⟩ := dx.reads R ra
  cases rb
  obtain ⟨cvs, n, ho, rs⟩ := R.list_at hm hl
  obtain ⟨bs, r2⟩ := dl.reads R rs
  have l := kqd_layL hds
  have ld := kqd_lay 8 d hd
  have e : ((kqdPs ds).any fun y => PyData.eqv y (kqdP d)) = c := by
    cases c with
    | true => exact (kqd_any ds d hds hd).mpr (hc.mp rfl)
    | false => exact Bool.eq_false_iff.mpr fun z => absurd (hc.mpr ((kqd_any ds d hds hd).mp z)) (by simp)
  have l2 := ld.2
  refine SeqAt.in_list_reads (reads_list_at ho rfl rfl (by simpa using r2)) r1 l.1 ld.1 ?_ (by rw [e]; exact hQ _)
  have := Nat.min_le_right (PyData.depthAll (kqdPs ds)) (kqdP d).depth
  have := hA.2.2
  omega
theorem cmp_notInD {x : V} {d : Dat} {ds : List Dat} {c : Bool} (dx : DV σ x d) (hm : (a, ob) ∈ σ) (hl : ob.peel = .list vs) (dl : DVs σ vs ds) (hd : kqdOk 8 d = true) (hds : ∀ e ∈ ds, kqdOk 8 e = true) (hc : c = true ↔ d ∈ ds) : CmpG prog w σ .NotIn x (.ref a) (!c) := fun A k g s ca cb Qc Ec hA R ra rb hQ => by
  obtain ⟨as, r1⟩ := dx.reads R ra
  cases rb
  obtain ⟨cvs, n, ho, rs⟩ := R.list_at hm hl
  obtain ⟨bs, r2⟩ := dl.reads R rs
  have l := kqd_layL hds
  have ld := kqd_lay 8 d hd
  have e : ((kqdPs ds).any fun y => PyData.eqv y (kqdP d)) = c := by
    cases c with
    | true => exact (kqd_any ds d hds hd).mpr (hc.mp rfl)
    | false => exact Bool.eq_false_iff.mpr fun z => absurd (hc.mpr ((kqd_any ds d hds hd).mp z)) (by simp)
  have l2 := ld.2
  refine SeqAt.notIn_list_reads (reads_list_at ho rfl rfl (by simpa using r2)) r1 l.1 ld.1 ?_ (by rw [e]; exact hQ _)
  have := Nat.min_le_right (PyData.depthAll (kqdPs ds)) (kqdP d).depth
  have := hA.2.2
  omega
theorem dvs_str {S : St} : ∀ (xs : List Str), DVs S (xs.map .str) (xs.map .str)
  | [] => .nil
  | x :: xs => .cons (.str _) (dvs_str xs)
theorem mem_strD {x : Str} {xs : List Str} : (Dat.str x ∈ xs.map Dat.str) ↔ x ∈ xs := by
  constructor
  · intro h
    obtain ⟨y, hy, e⟩ := List.mem_map.mp h
    injection e with e
    rw [← e]; exact hy
  · intro h; exact List.mem_map_of_mem h
theorem cmp_inS {x : Str} {xs : List Str} (hm : (a, ob) ∈ σ) (hl : ob.peel = .list (xs.map .str)) (hx : PyData.strOk x = true) (hxs : ∀ y ∈ xs, PyData.strOk y = true) : CmpG prog w σ .In (.str x) (.ref a) (decide (x ∈ xs)) :=
  cmp_inD (.str x) hm hl (dvs_str xs) (by simpa [kqdOk] using hx) (fun e he => by obtain ⟨y, hy, rfl⟩ := List.mem_map.mp he; simpa [kqdOk] using hxs y hy) (by rw [decide_eq_true_eq, mem_strD])
theorem cmp_notInS {x : Str} {xs : List Str} (hm : (a, ob) ∈ σ) (hl : ob.peel = .list (xs.map .str)) (hx : PyData.strOk x = true) (hxs : ∀ y ∈ xs, PyData.strOk y = true) : CmpG prog w σ .NotIn (.str x) (.ref a) (!decide (x ∈ xs)) :=
  cmp_notInD (.str x) hm hl (dvs_str xs) (by simpa [kqdOk] using hx) (fun e he => by obtain ⟨y, hy, rfl⟩ := List.mem_map.mp he; simpa [kqdOk] using hxs y hy) (by rw [decide_eq_true_eq, mem_strD])
-- sum of a list of ints
theorem bf_sum {ns : List Int} {Q : V → St → Prop} (hm : (a, ob) ∈ σ) (hl : ob.peel = .list (ns.map .int)) (hq : Q (.int ns.sum) σ) : EvF prog w Bs k (.builtin "sum") [.ref a] σ Q := by
  intro A g s Qc Ec cvs hA hB R rs hQ
  cases rs with
  | cons r rs =>
    cases r; cases rs
    obtain ⟨cl, n, ho, rl⟩ := R.list_at hm hl
    have hne : a ≠ s.heap.objs.size := Nat.ne_of_lt (Heap.lt_size ho)
    have W := (Walks.list (prog := prog) (w := w) (A := A.in1) hA.1 s.heap.objs.size a hne cl.toArray).toS
    refine call_sum_walkAnyS (wpAny_pyIter_list ⟨_, ho, rfl, n, rfl⟩ ?_)
    refine ⟨s.heap.objs.size, _, _, _, _, _, _, fun i => ns.getD i 0, rfl, W, ⟨⟨_, Heap.get?_push_size _ rfl, rfl, rfl⟩, ⟨_, Heap.get?_push_of_some _ ho, rfl, n, rfl⟩⟩, fun b hb => ?_, fun i v hP => ?_, fun s' t' hm => ?_⟩
    · rcases List.mem_cons.mp hb with rfl | hb
      · exact Heap.lt_size (Heap.get?_push_size _ rfl)
      · obtain rfl := List.mem_singleton.mp hb
        exact Heap.lt_size (Heap.get?_push_of_some _ ho)
    · have hP' : cl[i]? = some v := by simpa using hP
      obtain ⟨x, hx, rv⟩ := rl.get' hP'
      rw [List.getElem?_map] at hx
      obtain ⟨j, hj, rfl⟩ := Option.map_eq_some_iff.mp hx
      cases rv
      rename_i tt
      exact ⟨tt, by simp [List.getD, hj]⟩
    · have kp : ∀ b o, s.heap.get? b = some o → s'.heap.get? b = some o := fun b o e => hm.heap b o (fun hb => absurd (Heap.lt_size e) ((List.mem_singleton.mp hb) ▸ Nat.lt_irrefl _)) (Heap.get?_push_of_some _ e)
      rw [Moved.eq_with hm]
      have hs : preSum (fun i => ns.getD i 0) cl.toArray.size = ns.sum := by
        rw [preSum_getD]
        have : cl.toArray.size = ns.length := by simp [rl.length]
        rw [this, List.take_length]
      rw [hs]
      exact hQ _ _ σ s'.heap s'.toks hq (R.ext kp) (.int ..) (.of_keep kp)
end
end Mine

set_option Elab.async false
set_option linter.unusedVariables false
set_option maxRecDepth 100000
namespace Mine
open PySem PyProof.Rows PySem.Calls PySem.W PySem.Spec

/-- a deed: get or put, key, value -/
abbrev Op := Bool × Str × Int
def opV (o : Op) : V := .tup [.str (if o.1 then "get" else "put"), .str o.2.1, .int o.2.2]
def opD (o : Op) : Dat := .tuple [.str (if o.1 then "get" else "put"), .str o.2.1, .int o.2.2]
/-- an answer -/
inductive An where
  | no
  | num (i : Int)
  | key (x : Str)
def anV : An → V
  | .no => .none
  | .num i => .int i
  | .key x => .str x
def anD : An → Dat
  | .no => .none
  | .num i => .int i
  | .key x => .str x
theorem anD_inj {a b : An} (h : anD a = anD b) : a = b := by
  cases a <;> cases b <;> simp [anD] at h <;> simp [h]
theorem anDs_inj : ∀ {as bs : List An}, as.map anD = bs.map anD → as = bs
  | [], [], _ => rfl
  | [], _ :: _, h => by simp at h
  | _ :: _, [], h => by simp at h
  | a :: as, b :: bs, h => by
    simp only [List.map_cons, List.cons.injEq] at h
    rw [anD_inj h.1, anDs_inj h.2]
theorem dv_an {S : St} (a : An) : DV S (anV a) (anD a) := by
  cases a
  · exact .none
  · exact .int _
  · exact .str _
theorem dvs_an {S : St} : ∀ (as : List An), DVs S (as.map anV) (as.map anD)
  | [] => .nil
  | a :: as => .cons (dv_an a) (dvs_an as)
theorem dvs_op {S : St} : ∀ (os : List Op), DVs S (os.map opV) (os.map opD)
  | [] => .nil
  | o :: os => .cons (.tup (.cons (.str _) (.cons (.str _) (.cons (.int _) .nil)))) (dvs_op os)
def stepM (ps : PS) (o : Op) (cap : Int) : An × PS :=
  if o.1 then (match ps.lookup o.2.1 with
    | none => (.no, ps)
    | some v => (.num v, sans ps o.2.1 ++ [(o.2.1, v)]))
  else (.key (putD ps o.2.1 cap).1, (putD ps o.2.1 cap).2 ++ [(o.2.1, o.2.2)])
def playF (cap : Int) (st : List An × PS) (o : Op) : List An × PS := (st.1 ++ [(stepM st.2 o cap).1], (stepM st.2 o cap).2)
def playM (ops : List Op) (cap : Int) : List An × PS := ops.foldl (playF cap) ([], [])
theorem playM_snoc (ops : List Op) (o : Op) (cap : Int) : playM (ops ++ [o]) cap = playF cap (playM ops cap) o := by
  simp [playM, List.foldl_append]
/-- what holds of the cache on the way -/
structure PInv (K : List Str) (n : Nat) (cap : Int) (ps : PS) : Prop where
  nd : (keys ps).Nodup
  len : ps.length ≤ n
  room : (ps.length : Int) ≤ cap
  mem : ∀ q ∈ ps, q.1 ∈ K
def AnIn (K : List Str) : An → Prop
  | .key x => x ∈ K ∨ x = ""
  | _ => True
theorem PInv.init {K : List Str} {cap : Int} (h : 1 ≤ cap) : PInv K 0 cap [] := ⟨by simp [keys], by simp, by simp; omega, by simp⟩
theorem putD_mem {ps : PS} {x : Str} {cap : Int} : ∀ q ∈ (putD ps x cap).2, q ∈ ps := by
  intro q hq
  unfold putD at hq
  split at hq
  · exact (sans_mem hq).1
  · split at hq
    · exact List.mem_of_mem_tail hq
    · exact hq
theorem putD_nodup {ps : PS} {x : Str} {cap : Int} (nd : (keys ps).Nodup) : (keys (putD ps x cap).2).Nodup := by
  unfold putD
  split
  · exact keys_sans nd
  · split
    · exact nd.sublist ((List.tail_sublist ps).map _)
    · exact nd
theorem putD_off {ps : PS} {x : Str} {cap : Int} : x ∉ keys (putD ps x cap).2 := by
  unfold putD
  cases hv : ps.lookup x with
  | some v => exact keys_sans_off
  | none =>
    have hx := lookup_none_iff.mp hv
    simp only [Option.isSome_none, Bool.false_eq_true, if_false]
    split
    · exact fun h => hx (List.Sublist.subset ((List.tail_sublist ps).map _) h)
    · exact hx
theorem putD_len {ps : PS} {x : Str} {cap : Int} (nd : (keys ps).Nodup) (hc : 1 ≤ cap) (hr : (ps.length : Int) ≤ cap) : ((putD ps x cap).2.length : Int) + 1 ≤ cap ∧ (putD ps x cap).2.length ≤ ps.length := by
  unfold putD
  cases hv : ps.lookup x with
  | some v =>
    have := sans_lt nd hv
    simp only [Option.isSome_some, if_true]
    omega
  | none =>
    simp only [Option.isSome_none, Bool.false_eq_true, if_false]
    split
    · simp; omega
    · simp; omega
theorem keys_app {ps : PS} {x : Str} {v : Int} (nd : (keys ps).Nodup) (hx : x ∉ keys ps) : (keys (ps ++ [(x, v)])).Nodup := by
  unfold keys
  rw [List.map_append]
  refine List.nodup_append.mpr ⟨nd, by simp, fun a ha b hb e => ?_⟩
  simp at hb
  subst hb e
  exact hx ha
theorem PInv.step {K : List Str} {n : Nat} {cap : Int} {ps : PS} (h : PInv K n cap ps) (hc : 1 ≤ cap) {o : Op} (hk : o.2.1 ∈ K) : PInv K (n + 1) cap (stepM ps o cap).2 ∧ AnIn K (stepM ps o cap).1 := by
  obtain ⟨g, x, v⟩ := o
  cases g with
  | true =>
    unfold stepM
    simp only [if_true]
    cases hv : ps.lookup x with
    | none => exact ⟨⟨h.nd, Nat.le_succ_of_le h.len, h.room, h.mem⟩, trivial⟩
    | some u =>
      have hl := sans_lt h.nd hv
      have hlen := h.len
      have hroom := h.room
      refine ⟨⟨keys_put h.nd, ?_, ?_, fun q hq => ?_⟩, trivial⟩
      · simp; omega
      · simp; omega
      · rcases List.mem_append.mp hq with hq | hq
        · exact h.mem q (sans_mem hq).1
        · simp at hq; rw [hq]; exact hk
  | false =>
    unfold stepM
    simp only [Bool.false_eq_true, if_false]
    obtain ⟨l1, l2⟩ := putD_len (x := x) h.nd hc h.room
    have hlen := h.len
    refine ⟨⟨keys_app (putD_nodup h.nd) putD_off, ?_, ?_, fun q hq => ?_⟩, ?_⟩
    · simp; omega
    · simp; omega
    · rcases List.mem_append.mp hq with hq | hq
      · exact h.mem q (putD_mem q hq)
      · simp at hq; rw [hq]; exact hk
    · show (putD ps x cap).1 ∈ K ∨ (putD ps x cap).1 = ""
      unfold putD
      split
      · exact .inr rfl
      · split
        · cases ps with
          | nil => exact .inr rfl
          | cons p r => exact .inl (h.mem p (.head _))
        · exact .inr rfl
theorem playM_inv {K : List Str} {cap : Int} (hc : 1 ≤ cap) : ∀ (ops : List Op), (∀ o ∈ ops, o.2.1 ∈ K) → PInv K ops.length cap (playM ops cap).2 ∧ (∀ a ∈ (playM ops cap).1, AnIn K a) ∧ (playM ops cap).1.length = ops.length := by
  intro ops
  have key : ∀ (r : List Op) (st : List An × PS) (n : Nat), PInv K n cap st.2 → (∀ a ∈ st.1, AnIn K a) → st.1.length = n → (∀ o ∈ r, o.2.1 ∈ K) →
      PInv K (n + r.length) cap (r.foldl (playF cap) st).2 ∧ (∀ a ∈ (r.foldl (playF cap) st).1, AnIn K a) ∧ (r.foldl (playF cap) st).1.length = n + r.length := by
    intro r
    induction r with
    | nil => intro st n h1 h2 h3 _; exact ⟨h1, h2, h3⟩
    | cons o r ih =>
      intro st n h1 h2 h3 hk
      obtain ⟨s1, s2⟩ := h1.step hc (hk o (.head _))
      have := ih (playF cap st o) (n + 1) s1 (fun a ha => by
        rcases List.mem_append.mp ha with ha | ha
        · exact h2 a ha
        · rw [List.mem_singleton.mp ha]; exact s2) (by simp [playF, h3]) fun o ho => hk o (.tail _ ho)
      rw [List.foldl_cons, List.length_cons, show n + (r.length + 1) = n + 1 + r.length by omega]
      exact this
  intro hk
  have := key ops ([], []) 0 (PInv.init hc) (by simp) rfl hk
  simpa [playM] using this
theorem an_ok {K : List Str} (hK : ∀ x ∈ K, PyData.strOk x = true) {a : An} (h : AnIn K a) : kqdOk 8 (anD a) = true := by
  cases a with
  | no => rfl
  | num i => rfl
  | key x =>
    show PyData.strOk x = true
    rcases h with h | h
    · exact hK x h
    · rw [h]; decide +kernel
theorem op_ok {K : List Str} (hK : ∀ x ∈ K, PyData.strOk x = true) {o : Op} (h : o.2.1 ∈ K) : kqdOk 8 (opD o) = true := by
  obtain ⟨g, x, v⟩ := o
  have := hK x h
  have e1 : PyData.strOk (Str.ofString "get") = true := by decide +kernel
  have e2 : PyData.strOk (Str.ofString "put") = true := by decide +kernel
  cases g
  · simp only [opD, kqdOk, List.all_cons, List.all_nil, Bool.and_true, Bool.and_eq_true]
    exact ⟨e2, this⟩
  · simp only [opD, kqdOk, List.all_cons, List.all_nil, Bool.and_true, Bool.and_eq_true]
    exact ⟨e1, this⟩
/-- the two results of a play, as data -/
def resD (r : List An × PS) : Dat := .tuple [.list (r.1.map anD), .list (r.2.map kvD)]
theorem resD_inj {r q : List An × PS} (h : resD r = resD q) : r = q := by
  obtain ⟨a, b⟩ := r; obtain ⟨c, d⟩ := q
  simp only [resD, Dat.tuple.injEq, List.cons.injEq, Dat.list.injEq, and_true] at h
  rw [anDs_inj h.1, kvDs_inj h.2]
theorem res_ok {K : List Str} (hK : ∀ x ∈ K, PyData.strOk x = true) {r : List An × PS} (h1 : ∀ a ∈ r.1, AnIn K a) (h2 : ∀ q ∈ r.2, q.1 ∈ K) : kqdOk 9 (resD r) = true := by
  simp only [resD, kqdOk, List.all_cons, List.all_nil, Bool.and_true, Bool.and_eq_true, List.all_eq_true, List.mem_map]
  refine ⟨?_, ?_⟩
  · rintro d ⟨a, ha, rfl⟩
    have := h1 a ha
    cases a with
    | no => rfl
    | num i => rfl
    | key x =>
      show PyData.strOk x = true
      rcases this with h | h
      · exact hK x h
      · rw [h]; decide +kernel
  · rintro d ⟨q, hq, rfl⟩
    simp [kvD, kqdOk, hK _ (h2 q hq)]
section
variable {prog : Program} {w : World} {σ : St} {K : List Str} {g l g2 l2 a b : Addr} {oa ob : O} {r q : List An × PS}
theorem dv_res {S : St} (hg : (g, .list (r.1.map anV)) ∈ S) (hl : (l, .list (r.2.map kvV)) ∈ S) : DV S (.tup [.ref g, .ref l]) (resD r) :=
  .tup (.cons (.list hg rfl (dvs_an _)) (.cons (.list hl rfl (dvs_kv _)) .nil))
open Classical in
theorem cmp_ne_res (hK : ∀ x ∈ K, PyData.strOk x = true) (h1 : ∀ a ∈ r.1, AnIn K a) (h2 : ∀ p ∈ r.2, p.1 ∈ K) (h3 : ∀ a ∈ q.1, AnIn K a) (h4 : ∀ p ∈ q.2, p.1 ∈ K) (hg : (g, .list (r.1.map anV)) ∈ σ) (hl : (l, .list (r.2.map kvV)) ∈ σ) (hg2 : (g2, .list (q.1.map anV)) ∈ σ) (hl2 : (l2, .list (q.2.map kvV)) ∈ σ) :
    CmpG prog w σ .NotEq (.tup [.ref g, .ref l]) (.tup [.ref g2, .ref l2]) (!decide (r = q)) :=
  cmp_neD (dv_res hg hl) (dv_res hg2 hl2) (res_ok hK h1 h2) (res_ok hK h3 h4) (by
    rw [decide_eq_true_eq]
    exact ⟨fun e => by rw [e], resD_inj⟩)
open Classical in
theorem cmp_eq_res (hK : ∀ x ∈ K, PyData.strOk x = true) (h1 : ∀ a ∈ r.1, AnIn K a) (h2 : ∀ p ∈ r.2, p.1 ∈ K) (h3 : ∀ a ∈ q.1, AnIn K a) (h4 : ∀ p ∈ q.2, p.1 ∈ K) (hg : (g, .list (r.1.map anV)) ∈ σ) (hl : (l, .list (r.2.map kvV)) ∈ σ) (hg2 : (g2, .list (q.1.map anV)) ∈ σ) (hl2 : (l2, .list (q.2.map kvV)) ∈ σ) :
    CmpG prog w σ .Eq (.tup [.ref g, .ref l]) (.tup [.ref g2, .ref l2]) (decide (r = q)) :=
  cmp_eqD (dv_res hg hl) (dv_res hg2 hl2) (res_ok hK h1 h2) (res_ok hK h3 h4) (by
    rw [decide_eq_true_eq]
    exact ⟨fun e => by rw [e], resD_inj⟩)
/-- the deeds against their copy -/
theorem cmp_ne_ops {ops : List Op} (hK : ∀ x ∈ K, PyData.strOk x = true) (h : ∀ o ∈ ops, o.2.1 ∈ K) (ma : (a, oa) ∈ σ) (la : oa.peel = .list (ops.map opV)) (mb : (b, ob) ∈ σ) (lb : ob.peel = .list (ops.map opV)) : CmpG prog w σ .NotEq (.ref a) (.ref b) (!true) := by
  have hok : kqdOk 9 (.list (ops.map opD)) = true := by
    simp only [kqdOk, List.all_eq_true, List.mem_map]
    rintro d ⟨o, ho, rfl⟩
    exact op_ok hK (h o ho)
  exact cmp_neD (.list ma la (dvs_op _)) (.list mb lb (dvs_op _)) hok hok (by simp)
end
theorem opV_inj {a b : Op} (h : opV a = opV b) : a = b := by
  obtain ⟨a1, a2, a3⟩ := a; obtain ⟨b1, b2, b3⟩ := b
  simp only [opV, V.tup.injEq, List.cons.injEq, V.str.injEq, V.int.injEq, and_true] at h
  have : a1 = b1 := by
    cases a1 <;> cases b1 <;> simp at h ⊢
    · exact absurd h.1 (by decide)
    · exact absurd h.1 (by decide)
  simp [this, h.2.1, h.2.2]
theorem opVs_inj : ∀ {ps qs : List Op}, ps.map opV = qs.map opV → ps = qs
  | [], [], _ => rfl
  | [], _ :: _, h => by simp at h
  | _ :: _, [], h => by simp at h
  | a :: as, b :: bs, h => by
    simp only [List.map_cons, List.cons.injEq] at h
    rw [opV_inj h.1, opVs_inj h.2]
theorem op_split {ps qs : List Op} {v : V} {post : List V} (e : ps.map opV = qs.map opV ++ v :: post) : ∃ q qs2, v = opV q ∧ post = qs2.map opV ∧ ps = qs ++ q :: qs2 := by
  obtain ⟨l1, l2, rfl, h1, h2⟩ := List.map_eq_append_iff.mp e
  obtain ⟨q, l3, rfl, rfl, rfl⟩ := List.map_eq_cons_iff.mp h2
  exact ⟨q, l3, rfl, rfl, by rw [opVs_inj h1]⟩
end Mine

set_option Elab.async false
set_option linter.unusedVariables false
set_option maxRecDepth 100000
namespace Mine
open PySem PyProof.Rows PySem.Calls PySem.W PySem.Spec

/-- names bound in a row, cells among them -/
inductive BindN (env : Env) : List Str → List V → Env' → St → Env' → St → Prop
  | nil {m σ} : BindN env [] [] m σ m σ
  | loc {x xs v vs m m' σ σ'} : env.kindOf x = some .local → BindN env xs vs (mset m x v) σ m' σ' → BindN env (x :: xs) (v :: vs) m σ m' σ'
  | cell {x xs v vs m m' σ σ1 σ' c ov} : env.kindOf x = some .cell → env.cells.lookup x = some c → Up c (.cell ov) (.cell (some v)) σ σ1 → BindN env xs vs m σ1 m' σ' → BindN env (x :: xs) (v :: vs) m σ m' σ'
theorem BindN.map {env : Env} {xs : List Str} {vs : List V} {m m' : Env'} {σ σ' : St} (b : BindN env xs vs m σ m' σ') : σ'.map (·.1) = σ.map (·.1) := by
  induction b with
  | nil => rfl
  | loc _ _ ih => exact ih
  | cell _ _ u _ ih => rw [ih, u.map]
theorem BindN.len {env : Env} {xs : List Str} {vs : List V} {m m' : Env'} {σ σ' : St} (b : BindN env xs vs m σ m' σ') : vs.length = xs.length := by
  induction b with
  | nil => rfl
  | loc _ _ ih => simp [ih]
  | cell _ _ _ _ ih => simp [ih]
section
variable {prog : Program} {w : World} {Bs : Heap} {k : Nat} {env : Env} {m : Env'} {σ σ' : St} {g h h' : Heap} {L a d : Addr} {ob : O} {vs : List V} {kvs : KV}

theorem assign_bind {A : Around} {Qc : Unit → Shared → Prop} {Ec : Value → Shared → Prop} (hk : env.scope.kind = .function) (hL : g.get? env.locals = none) {m1 : Env'} {σ1 : St} : ∀ (es : List (Str × Pos)) (cvs : List Value) (vs : List V) (m : Env') (σ : St) (s : Shared),
    BindN env (es.map (·.1)) vs m σ m1 σ1 → Rel prog w g env.locals m σ s.heap → VRs s.heap cvs vs →
    (∀ h' tk, Rel prog w g env.locals m1 σ1 h' → TK s.heap h' → (∀ b o, b ≠ env.locals → (∀ p ∈ σ, p.1 ≠ b) → s.heap.get? b = some o → h'.get? b = some o) → Qc () { s with heap := h', toks := tk }) →
    wpAny (model prog w) A (assignInOrder ((assignEach (namesE es) env).map (·.2)) cvs) Qc Ec s
  | [], cvs, vs, m, σ, s, b, R, r, hQ => by
    cases b
    cases r
    exact wpAny_pure (hQ s.heap s.toks R (.refl _) fun _ _ _ _ e => e)
  | (x, p) :: es, cvs, vs, m, σ, s, b, R, r, hQ => by
    cases r with
    | nil => cases b
    | @cons c v cs vs r rs =>
      show wpAny _ A (do holding cs (assign (.Name x p) env c); assignInOrder ((assignEach (namesE es) env).map (·.2)) cs) _ _ _
      cases b with
      | loc hx b =>
        obtain ⟨mc, hn, hm⟩ := R.ns
        refine wpAny_bind (wpAny_holding (wpAny_assign_Name (wpAny_storeName_local hx hn (fun h1 hn1 hs1 => ?_) (by rw [hk]; rfl))))
        have t1 := ns_tk hn hs1
        refine assign_bind hk hL es cs vs (mset m x v) σ _ b (R.store hL hn hm hn1 hs1 r) (rs.mono t1) fun h' tk R' t' kp => ?_
        exact hQ h' tk R' (t1.trans t') fun b o hb hσ e => kp b o hb hσ ((hs1.2 b hb).trans e)
      | @cell _ _ _ _ _ _ _ σ2 _ ca ov hx hc u b =>
        obtain ⟨_, o, ho, cv₀, hd, _⟩ := R.rh.own _ u.mem
        refine wpAny_bind (wpAny_holding (wpAny_assign_Name (wpAny_storeName_cell hk hx hc ⟨o, ho, hd⟩ fun h1 hv hs1 => ?_)))
        obtain ⟨o', ho', hd'⟩ := hv
        have t1 := cell_tk ho hd hs1
        refine assign_bind hk hL es cs vs m σ2 _ b (R.upd u hs1 t1 ho' ⟨_, hd', .some (r.mono t1)⟩) (rs.mono t1) fun h' tk R' t' kp => ?_
        refine hQ h' tk R' (t1.trans t') fun b o hb hσ e => kp b o hb (fun p hp => ?_) ((hs1.2 b fun q => hσ (ca, .cell ov) u.mem q.symm).trans e)
        have : p.1 ∈ σ.map (·.1) := by rw [← u.map]; exact List.mem_map_of_mem hp
        obtain ⟨q, hq, eq⟩ := List.mem_map.mp this
        rw [← eq]; exact hσ q hq

variable (prog w Bs) in
/-- a loop's turns into names -/
def ForC (k : Nat) (env : Env) (xs : List Str) (body : List Stmt) (need : St → Prop) (Q : Fl → Env' → St → Prop) : List V → Env' → St → Prop
  | [], m, σ => Q .next m σ
  | v :: r, m, σ => ∃ us m0 σ0 m1 σ1, v = .tup us ∧ leE m0 m ∧ SubP σ0 σ ∧ BindN env xs us m0 σ0 m1 σ1 ∧ EvS prog w Bs k env body m1 σ1 fun f m' σ' => match f with
    | .brk => Q .next m' σ'
    | .ret u => Q (.ret u) m' σ'
    | _ => need σ' ∧ ForC k env xs body need Q r m' σ'

theorem for_iterC {es : List (Str × Pos)} {kk : Nat} {tp : Pos} {body : List Stmt} {I : Addr} {fp wr : List Addr} {need : St → Prop} {S : Nat → Heap → Prop} (W : IterT prog w (.Tuple (namesE es) kk tp) I fp wr vs need S)
    {A : Around} {s : Shared} {Q : Fl → Env' → St → Prop} {R' : Result → Shared → Prop} (hA : AOk k A) (hB : ∀ b o, Bs.get? b = some o → g.get? b = some o) (hL : g.get? env.locals = none) (hk : env.scope.kind = .function)
    (R : Rel prog w g env.locals m σ s.heap) (hst : S 0 s.heap) (hfp : ∀ b ∈ fp, b ≠ env.locals ∧ ∀ p ∈ σ, p.1 ≠ b) (hwr : ∀ b ∈ wr, g.get? b = none) (hn : need σ)
    (h : ForC prog w Bs k env (es.map (·.1)) body need Q vs m σ)
    (hQ : ∀ c f m' σ' h' tk, Q f m' σ' → Rel prog w g env.locals m' σ' h' → FR h' c f → TK s.heap h' → R' (.ok c) { s with heap := h', toks := tk }) :
    codeAny (model prog w) A (.forLoop (.Tuple (namesE es) kk tp) (.ref I) body [] env) R' s := by
  refine codeAny_forLoop_any (fun n s' => ∃ i m σ h tk, s' = { s with heap := h, toks := tk } ∧ i ≤ vs.length ∧ n = vs.length - i ∧ Rel prog w g env.locals m σ h ∧ S i h ∧ (∀ b ∈ fp, b ≠ env.locals ∧ ∀ p ∈ σ, p.1 ≠ b) ∧ need σ ∧
      ForC prog w Bs k env (es.map (·.1)) body need Q (vs.drop i) m σ ∧ TK s.heap h) ?_ vs.length ⟨0, m, σ, s.heap, s.toks, rfl, Nat.zero_le _, rfl, R, hst, hfp, hn, by simpa using h, .refl _⟩
  rintro n s' ⟨i, m, σ, h, tk, rfl, hi, rfl, R, hst, hfp, hn, hb, ht⟩
  by_cases hlt : i < vs.length
  · have hv : vs[i]? = some vs[i] := by simp [hlt]
    have hd : vs.drop i = vs[i] :: vs.drop (i + 1) := List.drop_eq_getElem_cons hlt
    rw [hd] at hb
    obtain ⟨us, m0, σ0, m1, σ1, ev, hm0, hs0, bd, hb⟩ := hb
    refine wpAny_mono (W.item A k g σ _ (fun cv s₁' => wpAny (model prog w) A (assign (.Tuple (namesE es) kk tp) env cv) (fun _ s₂ => wpAny (model prog w) A (execs body env) (fun f s₃ => match f with
            | .next | .cont => ∃ m, m < vs.length - i ∧ (fun n s' => ∃ i m σ h tk, s' = { s with heap := h, toks := tk } ∧ i ≤ vs.length ∧ n = vs.length - i ∧ Rel prog w g env.locals m σ h ∧ S i h ∧ (∀ b ∈ fp, b ≠ env.locals ∧ ∀ p ∈ σ, p.1 ≠ b) ∧ need σ ∧
      ForC prog w Bs k env (es.map (·.1)) body need Q (vs.drop i) m σ ∧ TK s.heap h) m s₃
            | .brk => R' (.ok .next) s₃
            | .ret v => R' (.ok (.ret v)) s₃) (notedBy (model prog w) A env fun e s' => R' (.error e) s') s₂) (notedBy (model prog w) A env fun e s' => R' (.error e) s') s₁') _ i _ hA R.rh hn hst hv fun cv h1 tk1 r1 st1 kp1 t1 => ?_) (fun r s₁ hx => by obtain ⟨cv, e, hw⟩ := hx; subst e; exact hw) fun _ _ e => e
    have R1 := (R.but kp1 (fun b hb => ⟨hwr b hb, hfp b (W.sub b hb)⟩) t1 |>.env hm0.get).subP hs0
    have hfp0 : ∀ b ∈ fp, b ≠ env.locals ∧ ∀ p ∈ σ0, p.1 ≠ b := fun b hb => ⟨(hfp b hb).1, fun p hp => (hfp b hb).2 p (hs0.subset hp)⟩
    rw [ev] at r1
    cases r1 with
    | @tup t cvs nn _ ho rs =>
      have hlen : cvs.length = es.length := by rw [rs.length, bd.len, List.length_map]
      have hz : ∀ (es : List (Str × Pos)), (assignEach (namesE es) env).length = es.length ∧ (assignEach (namesE es) env).findIdx? (·.1) = none := by
        intro es
        induction es with
        | nil => exact ⟨rfl, rfl⟩
        | cons p es ih =>
          refine ⟨?_, ?_⟩
          · show (assignEach (namesE es) env).length + 1 = _
            rw [ih.1]; rfl
          · show List.findIdx? (·.1) ((false, assign (.Name p.1 p.2) env) :: assignEach (namesE es) env) = none
            rw [List.findIdx?_cons]
            simp [ih.2]
      refine wpAny_assign_Tuple hA.1 (items := cvs.toArray) ⟨_, ho, rfl, nn, rfl⟩ (by rw [(hz es).1, List.size_toArray, hlen]) (hz es).2 fun h1' hx1 => ?_
      have kpx : ∀ b o, h1.get? b = some o → h1'.get? b = some o := fun b o e => hx1 b o (Nat.ne_of_lt (Heap.lt_size e)) e
      refine assign_bind hk hL es cvs us m0 σ0 _ bd (R1.ext kpx) (rs.mono (.of_keep kpx)) fun h2 tk2 R2 t2' kp2' => ?_
      have t2 : TK h1 h2 := (TK.of_keep kpx).trans t2'
      have hfp1 : ∀ b ∈ fp, b ≠ env.locals ∧ ∀ p ∈ σ1, p.1 ≠ b := fun b hb => ⟨(hfp b hb).1, fun p hp => by
        have : p.1 ∈ σ0.map (·.1) := by rw [← bd.map]; exact List.mem_map_of_mem hp
        obtain ⟨q, hq, eq⟩ := List.mem_map.mp this
        rw [← eq]; exact (hfp0 b hb).2 q hq⟩
      have st2 : S (i + 1) h2 := W.frame _ _ _ st1 (fun b hb o e => kp2' b o (hfp b hb).1 (hfp0 b hb).2 (kpx b o e)) t2
      have le := R2.le_mask hL
      refine hb A _ _ _ _ hA (fun b o e => le b o (hB b o e)) (mask_in (.head _)) (R2.masked hL) fun c f m' σ' h3 tk3 hq R3 fr t3 => ?_
      have kp3 : ∀ b ∈ fp, ∀ o, h2.get? b = some o → h3.get? b = some o := fun b hb o e => R3.rh.keep b o (by
        rw [mask_out]; exact e
        intro hm
        rcases List.mem_cons.mp hm with e | hm
        · exact (hfp b hb).1 e
        · obtain ⟨p, hp, q⟩ := List.mem_map.mp hm
          exact (hfp1 b hb).2 p hp q)
      have off : ∀ b ∈ fp, b ≠ env.locals ∧ ∀ p ∈ σ', p.1 ≠ b := fun b hb => ⟨(hfp b hb).1, fun p hp q => by
        obtain ⟨o, ho⟩ := W.there _ _ st2 b hb
        have := (R3.rh.own p hp).1
        rw [q, mask_out] at this
        · have ho' : h2.get? b = some o := ho
          have this' : h2.get? b = none := this
          rw [ho'] at this'; cases this'
        · intro hm
          rcases List.mem_cons.mp hm with e | hm
          · exact (hfp b hb).1 e
          · obtain ⟨p, hp, q⟩ := List.mem_map.mp hm
            exact (hfp1 b hb).2 p hp q⟩
      have R3' := R3.less R2.rh.st le
      have st3 := W.frame _ _ _ st2 kp3 t3
      have tt : TK s.heap h3 := ht.trans (t1.trans (t2.trans t3))
      cases fr with
      | next => exact ⟨_, by omega, i + 1, m', σ', h3, tk3, rfl, hlt, rfl, R3', st3, off, hq.1, hq.2, tt⟩
      | cont => exact ⟨_, by omega, i + 1, m', σ', h3, tk3, rfl, hlt, rfl, R3', st3, off, hq.1, hq.2, tt⟩
      | brk => exact hQ _ _ m' σ' h3 tk3 hq R3' .next tt
      | ret r => exact hQ _ _ m' σ' h3 tk3 hq R3' (.ret r) tt
  · have e : i = vs.length := by omega
    subst e
    refine W.done A k g σ _ _ _ hA R.rh hn hst fun h1 tk1 kp1 t1 => ?_
    have R1 := R.but kp1 (fun b hb => ⟨hwr b hb, hfp b (W.sub b hb)⟩) t1
    refine wpAny_execs_nil (hQ _ _ m σ h1 tk1 ?_ R1 .next (ht.trans t1))
    rw [List.drop_length] at hb
    exact hb
theorem evx_forC {es : List (Str × Pos)} {kk : Nat} {tp : Pos} {iter : Expr} {pos : Pos} {body : List Stmt} {Q : Fl → Env' → St → Prop}
    (h : EvE prog w Bs k env iter m σ fun v σ1 => ItsT prog w Bs k env.locals (.Tuple (namesE es) kk tp) v m σ1 fun vs need σ2 => ForC prog w Bs k env (es.map (·.1)) body need Q vs m σ2)
    (hk : env.scope.kind = .function := by rfl) (hs : ∀ x, foldedSetIterable iter env x = pure x := by intro _; rfl) :
    EvX prog w Bs k env (.For (.Tuple (namesE es) kk tp) iter body [] pos) m σ Q := fun A g s Qc Ec hA hB hL R hQ =>
  wpAny_For (h A g s _ _ hA hB R fun cv v σ1 h1 tk1 hi R1 r1 t1 => hi A g _ cv _ _ hA hB R1 r1 fun I fp wr vs need S σ' h' tk hb W st R' t' hfp hwr hn =>
    for_iterC W (s := { s with heap := h', toks := tk }) hA hB hL hk R' st hfp hwr hn hb fun c f m' σ'' h'' tk' hq R'' fr t'' =>
      hQ c f m' σ'' h'' tk' hq R'' fr (t1.trans (t'.trans t''))) hs
theorem forC_inv {xs : List Str} {body : List Stmt} {need : St → Prop} {Q : Fl → Env' → St → Prop} (Inv : List V → Env' → St → Prop) {vs : List V}
    (step : ∀ pre v post m σ, vs = pre ++ v :: post → Inv pre m σ → ∃ us m1 σ1, v = .tup us ∧ BindN env xs us m σ m1 σ1 ∧ EvS prog w Bs k env body m1 σ1 fun f m' σ' => match f with
      | .brk => Q .next m' σ'
      | .ret u => Q (.ret u) m' σ'
      | _ => ∃ m1 σ1, leE m1 m' ∧ SubP σ1 σ' ∧ need σ1 ∧ Inv (pre ++ [v]) m1 σ1)
    (done : ∀ m1 σ1 m σ, leE m1 m → SubP σ1 σ → Inv vs m1 σ1 → Q .next m σ)
    {m1 : Env'} {σ1 : St} (hm : leE m1 m) (hs : SubP σ1 σ) (h0 : Inv [] m1 σ1) (hn : ∀ σ1 σ, SubP σ1 σ → need σ1 → need σ) : ForC prog w Bs k env xs body need Q vs m σ := by
  have key : ∀ (post pre : List V) (m1 : Env') (σ1 : St) (m : Env') (σ : St), vs = pre ++ post → leE m1 m → SubP σ1 σ → Inv pre m1 σ1 → ForC prog w Bs k env xs body need Q post m σ := by
    intro post
    induction post with
    | nil =>
      intro pre m1 σ1 m σ e hm hs hi
      rw [List.append_nil] at e; subst e
      exact done m1 σ1 m σ hm hs hi
    | cons v post ih =>
      intro pre m1 σ1 m σ e hm hs hi
      obtain ⟨us, m2, σ2, ev, bd, hb⟩ := step pre v post m1 σ1 e hi
      refine ⟨us, m1, σ1, m2, σ2, ev, hm, hs, bd, hb.mono fun f m' σ' hq => ?_⟩
      have nx : (∃ m1 σ1, leE m1 m' ∧ SubP σ1 σ' ∧ need σ1 ∧ Inv (pre ++ [v]) m1 σ1) → need σ' ∧ ForC prog w Bs k env xs body need Q post m' σ' := by
        rintro ⟨m2, σ2, h1, h2, h3, h4⟩
        exact ⟨hn _ _ h2 h3, ih (pre ++ [v]) m2 σ2 m' σ' (by rw [e]; simp) h1 h2 h4⟩
      cases f with
      | next => exact nx hq
      | cont => exact nx hq
      | brk => exact hq
      | ret u => exact hq
  exact key vs [] m1 σ1 m σ rfl hm hs h0
/-- for a, b, c in a list of tuples; cells among the names -/
theorem evx_for_cells3 {xa xb xc : Str} {pa pb pc : Pos} {kk : Nat} {tp pos : Pos} {iter : Expr} {body : List Stmt} {Q : Fl → Env' → St → Prop}
    (h : EvE prog w Bs k env iter m σ fun v σ1 => ∃ a ob vs, v = .ref a ∧ (a, ob) ∈ σ1 ∧ ob.peel = .list vs ∧ ∃ (Inv : List V → Env' → St → Prop) (m1 : Env') (σ2 : St), leE m1 m ∧ SubP σ2 σ1 ∧ Inv [] m1 σ2 ∧
      (∀ pre v post m σ, vs = pre ++ v :: post → Inv pre m σ → ∃ us m1 σ1, v = .tup us ∧ BindN env [xa, xb, xc] us m σ m1 σ1 ∧ EvS prog w Bs k env body m1 σ1 fun f m' σ' => match f with
        | .brk => Q .next m' σ'
        | .ret u => Q (.ret u) m' σ'
        | _ => ∃ m1 σ1, leE m1 m' ∧ SubP σ1 σ' ∧ (a, ob) ∈ σ1 ∧ Inv (pre ++ [v]) m1 σ1) ∧
      (∀ m1 σ1 m σ, leE m1 m → SubP σ1 σ → Inv vs m1 σ1 → Q .next m σ))
    (hk : env.scope.kind = .function := by rfl) (hs : ∀ x, foldedSetIterable iter env x = pure x := by intro _; rfl) :
    EvX prog w Bs k env (.For (.Tuple [.Name xa pa, .Name xb pb, .Name xc pc] kk tp) iter body [] pos) m σ Q := by
  show EvX prog w Bs k env (.For (.Tuple (namesE [(xa, pa), (xb, pb), (xc, pc)]) kk tp) iter body [] pos) m σ Q
  refine evx_forC (h.mono fun v σ1 hh => ?_) hk hs
  obtain ⟨a, ob, vs, rfl, hm, hl, Inv, m1, σ2, i1, i2, i3, step, done⟩ := hh
  exact itsT_list hm hl (forC_inv Inv step done i1 i2 i3 fun _ _ s h => s.subset h)
end
end Mine

set_option Elab.async false
set_option linter.unusedVariables false
set_option maxRecDepth 100000
namespace Mine
open PySem PyProof.Rows PySem.Calls PySem.W PySem.Spec

def dmerge (kvs more : KV) : KV := more.foldl (fun c p => dput c p.1 p.2) kvs
theorem dmerge_lookup : ∀ (more kvs : KV) (x : Str), (more.map (·.1)).Nodup → (dmerge kvs more).lookup x = ((more.lookup x).or (kvs.lookup x))
  | [], kvs, x, _ => by simp [dmerge]
  | (y, v) :: r, kvs, x, nd => by
    have nd' := List.nodup_cons.mp nd
    show (dmerge (dput kvs y v) r).lookup x = _
    rw [dmerge_lookup r _ x nd'.2, dput_lookup, List.lookup_cons]
    cases q : x == y with
    | true =>
      have hx : x = y := eq_of_beq q
      have : r.lookup x = none := by
        cases h : r.lookup x with
        | none => rfl
        | some u =>
          have : ∀ {l : KV} {u : V}, l.lookup x = some u → x ∈ l.map (·.1) := by
            intro l
            induction l with
            | nil => intro u h; simp at h
            | cons p l ih =>
              intro u h
              obtain ⟨z, w⟩ := p
              rw [List.lookup_cons] at h
              cases q : x == z with
              | true => rw [eq_of_beq q]; simp
              | false => rw [q] at h; exact .tail _ (ih h)
          exact absurd (hx ▸ this h) nd'.1
      rw [this]; rfl
    | false => simp
section
variable {prog : Program} {w : World} {Bs : Heap} {k : Nat} {σ σ' : St} {g h h' : Heap} {d e : Addr} {ob : O} {kvs more : KV}
theorem kvr_merge {c : List (Str × Value)} {cm : List (Str × Value)} (rm : KVR h cm more) : ∀ {c : List (Str × Value)} {kvs : KV}, KVR h c kvs → KVR h (merged c cm) (dmerge kvs more) := by
  induction rm with
  | nil => intro c kvs r; exact r
  | @cons k cv v cs vs rv rs ih => intro c kvs r; exact ih (r.put (x := k) rv)
theorem bf_update {σ0 : St} {Q : V → St → Prop} (hs0 : σ = (d, .dict kvs) :: σ0) (hm : (e, ob) ∈ σ0) (hl : ob.peel = .dict more) (hz : kvs.length + more.length ≤ 10000) (hq : Q .none ((d, .dict (dmerge kvs more)) :: σ0)) : EvF prog w Bs k (.builtin "dict.update") [.ref d, .ref e] σ Q := by
  intro A g s Qc Ec cvs hA hB R rs hQ
  subst hs0
  have hne : d ≠ e := fun q => by
    have nd := R.nd
    simp only [List.map_cons, List.nodup_cons] at nd
    exact nd.1 (List.mem_map.mpr ⟨_, hm, q.symm⟩)
  cases rs with
  | cons r rs =>
    cases r
    cases rs with
    | cons r rs =>
      cases r; cases rs
      obtain ⟨ck, hd, rk⟩ := R.dict_at (.head _) rfl
      obtain ⟨cm, he, rm⟩ := R.dict_at (.tail _ hm) hl
      refine call_meetsIn F.slot_dict_update hd.typeIs F.entry_dict_update (F.args_dict_update_2 _ _) (meets_dict_update (strKind prog w) d e hne (R.notModules (.tail _ hm))) ⟨ck, cm, hd, he, len_ok (by rw [rk.length, rm.length]; exact hz), fun h' hd' he' hs => ?_⟩
      obtain ⟨o, ho, hi⟩ := Heap.dictOf_iff.mp hd'
      have t : TK s.heap h' := dict_tk hd hs
      exact hQ _ _ _ h' s.toks hq (R.upd .head hs t ho ⟨_, hi, (kvr_merge (c := ck) rm rk).mono t⟩) .none t
end
/-- the last count of a name -/
theorem foldl_last {x : Str} : ∀ {ps : PS} (u : Int), (keys ps).Nodup → ps.foldl (fun u q => if q.1 = x then q.2 else u) u = (ps.lookup x).getD u
  | [], u, _ => rfl
  | (y, i) :: r, u, nd => by
    have nd' := List.nodup_cons.mp nd
    rw [List.foldl_cons, List.lookup_cons]
    by_cases h : y = x
    · subst h
      have : r.lookup y = none := lookup_none_iff.mpr nd'.1
      simp only [if_true, beq_self_eq_true]
      rw [foldl_last i nd'.2, this]; rfl
    · have : (x == y) = false := by simpa using fun e => h e.symm
      simp only [if_neg h, this]
      exact foldl_last u nd'.2
end Mine

set_option Elab.async false
set_option linter.unusedVariables false
set_option maxRecDepth 100000
namespace Mine
open PySem PyProof.Rows PySem.Calls PySem.W PySem.Spec

section
variable {prog : Program} {w : World} {Bs : Heap} {k : Nat} {env : Env} {m : Env'} {σ σ' : St} {g h h' : Heap} {L a d : Addr} {ob : O} {vs : List V} {kvs : KV}

theorem RH.updX (R : RH prog w g σ h) {o o' : O} (u : Up a o o' σ σ') {c : Obj} (kp : ∀ b ob, b ≠ a → h.get? b = some ob → h'.get? b = some ob) (tk : TK h h') (hc : h'.get? a = some c) (r : OR prog w h' c o') : RH prog w g σ' h' := by
  have ha := R.own _ u.mem
  refine ⟨fun b ob e => ?_, by rw [u.map]; exact R.nd, fun p hp => ?_, R.st, fun p hp => ?_⟩
  · refine kp b ob (fun q => ?_) (R.keep b ob e)
    rw [q, ha.1] at e; cases e
  · rcases u.of hp R.nd with rfl | ⟨hm, hne⟩
    · exact ⟨ha.1, c, hc, r⟩
    · obtain ⟨h1, ob, h2, h3⟩ := R.own p hm
      exact ⟨h1, ob, kp _ _ hne h2, h3.mono _ _ tk⟩
  · rcases u.of hp R.nd with rfl | ⟨hm, _⟩
    · exact R.low (a, o) u.mem
    · exact R.low p hm
theorem strs_are : ∀ {cvs : List Value} {ss : List Str}, VRs h cvs (ss.map .str) → StrsAre cvs ss
  | _, [], .nil => .nil
  | _, s :: ss, .cons r rs => by cases r; exact .cons _ _ (strs_are rs)
theorem strs_vr : ∀ {cvs : List Value} {ss : List Str}, StrsAre cvs ss → VRs h cvs (ss.map .str)
  | _, _, .nil => .nil
  | _, _, .cons _ _ r => .cons (.str ..) (strs_vr r)
/-- names.sort() -/
theorem bf_sort {ss : List Str} {Q : V → St → Prop} (hm : (a, .list (ss.map .str)) ∈ σ) (hz : ss.length < 64) (hq : ∀ ss', ss'.Perm ss → sortedS ss' = true → ∃ σ', Up a (.list (ss.map .str)) (.list (ss'.map .str)) σ σ' ∧ Q .none σ') : EvF prog w Bs k (.builtin "list.sort") [.ref a] σ Q := by
  intro A g s Qc Ec cvs hA hB R rs hQ
  cases rs with
  | cons r rs =>
    cases r; cases rs
    obtain ⟨cl, n, ho, rl⟩ := R.list_at hm rfl
    have hS := strs_are rl
    have hlen : cl.length = ss.length := by simp [rl.length]
    refine wpAny_call_entry slot_list_sort ⟨_, ho, rfl⟩ entry_list_sort ?_ (args_list_sort _)
    refine list_sort_treeK strKind_oneLt (vs := cl) (n := n) ho hS.keysOf (fun v₁ v₂ rest e => keyKind_strs (by rw [← e]; exact hS)) (by omega) fun st' hp hs => ?_
    obtain ⟨ss', h1, h2, h3⟩ := sorted_out_str hS hp hs
    obtain ⟨σ', u, hq'⟩ := hq ss' h2 h3
    obtain ⟨e, hat⟩ := sortedHeap_at (out := (arrOf st').map (·.2)) ho
    have kp : ∀ b ob, b ≠ a → s.heap.get? b = some ob → (sortedHeap s.heap a cl ((arrOf st').map (·.2))).get? b = some ob := fun b ob hb e => (sortedHeap_old hb (Heap.lt_size e)).trans e
    have t : TK s.heap (sortedHeap s.heap a cl ((arrOf st').map (·.2))) := fun b c n' e => kp b _ (fun q => by
      rw [q, ho] at e
      exact absurd (Value.type.inj (congrArg Obj.cls (Option.some.inj e))) (by decide)) e
    exact ⟨_, rfl, hQ _ _ σ' _ s.toks hq' (R.updX u kp t (c := lstO ((arrOf st').map (·.2)).toList e) (by rw [hat]) ⟨_, e, rfl, strs_vr h1⟩) .none t⟩

theorem sorted_pairwise : ∀ {l : List Str}, sortedS l = true → l.Pairwise fun a b => ¬ b.cps.toList < a.cps.toList
  | [], _ => .nil
  | x :: r, h => by
    have rise : ∀ (p : Str) (l : List Str), risingS p l = true → (∀ y ∈ l, ¬ y.cps.toList < p.cps.toList) ∧ l.Pairwise fun a b => ¬ b.cps.toList < a.cps.toList := by
      intro p l
      induction l generalizing p with
      | nil => intro _; exact ⟨by simp, .nil⟩
      | cons x r ih =>
        intro h
        have h' : (!ltCps x.cps.toList p.cps.toList && risingS x r) = true := h
        rw [Bool.and_eq_true, Bool.not_eq_true', ltCps_eq, decide_eq_false_iff_not] at h'
        obtain ⟨i1, i2⟩ := ih x h'.2
        refine ⟨fun y hy => ?_, .cons (fun y hy => i1 y hy) i2⟩
        rcases List.mem_cons.mp hy with rfl | hy
        · exact h'.1
        · exact List.le_trans h'.1 (i1 y hy)
    obtain ⟨i1, i2⟩ := rise x r h
    exact .cons (fun y hy => i1 y hy) i2
theorem sorted_unique {l1 l2 : List Str} (h1 : sortedS l1 = true) (h2 : sortedS l2 = true) (hp : l1.Perm l2) : l1 = l2 :=
  List.Perm.eq_of_pairwise (le := fun a b => ¬ b.cps.toList < a.cps.toList) (fun a b _ _ x y => by
    have : a.cps.toList = b.cps.toList := List.le_antisymm x y
    obtain ⟨⟨a⟩⟩ := a; obtain ⟨⟨b⟩⟩ := b
    simp at this; rw [this]) (sorted_pairwise h1) (sorted_pairwise h2) hp

/-- names.count(x) -/
theorem bf_count {ss : List Str} {x : Str} {Q : V → St → Prop} (hm : (a, ob) ∈ σ) (hl : ob.peel = .list (ss.map .str)) (hq : Q (.int (ss.count x : Nat)) σ) : EvF prog w Bs k (.builtin "list.count") [.ref a, .str x] σ Q := by
  intro A g s Qc Ec cvs hA hB R rs hQ
  cases rs with
  | cons r rs =>
    cases r
    cases rs with
    | cons r rs =>
      cases rs; cases r
      rename_i tk
      obtain ⟨cl, n, ho, rl⟩ := R.list_at hm hl
      have hS := strs_are rl
      have hc : ∀ {cl : List Value} {ss : List Str}, StrsAre cl ss → cl.countP (fun v => strOf v == x) = ss.count x := by
        intro cl ss h
        induction h with
        | nil => rfl
        | cons y t _ ih =>
          rw [List.countP_cons, List.count_cons, ih]
          rfl
      have hfin : Qc (.int (cl.toArray.toList.countP (fun v => strOf v == x) : Nat) s.toks) { s with toks := s.toks + 1 } := by
        rw [show cl.toArray.toList = cl from rfl, hc hS]
        exact hQ _ _ σ s.heap _ hq R (.int ..) (.refl _)
      refine call_meets F.slot_list_count ⟨_, ho, rfl⟩ F.entry_list_count (F.args_list_count_2 _ _) (MeetsSeq.list_count a cl.toArray n (.str x tk) (fun v => strOf v == x) fun y hy => ?_) ⟨ho, hfin⟩
      obtain ⟨z, t, rfl⟩ := hS.all y (by simpa using hy)
      exact eqGives_str z x t tk
theorem bf_isbool {b : Bool} {Q : V → St → Prop} (hq : Q (.bool true) σ) : EvF prog w Bs k (.builtin "isinstance") [.bool b, .raw (.type "bool")] σ Q := by
  intro A g s Qc Ec cvs hA hB R rs hQ
  cases rs with
  | cons r rs =>
    cases r
    cases rs with
    | cons r rs =>
      cases rs; cases r
      exact PySem.IsiPair.bool_bool (hQ _ _ σ s.heap s.toks hq R (.bool _) (.refl _))

-- and, as a value
theorem ev_and1 {x : Expr} {pos : Pos} {Q : V → St → Prop} (h : EvE prog w Bs k env x m σ Q) : Ev prog w Bs VR k env.locals (boolOp pos .And (evalEach [x] env)) m σ Q := h
theorem ev_andc {x y : Expr} {r : List Expr} {pos : Pos} {Q : V → St → Prop} (h : EvE prog w Bs k env x m σ fun v σ1 => ∃ b, v = .bool b ∧ if b then Ev prog w Bs VR k env.locals (boolOp pos .And (evalEach (y :: r) env)) m σ1 Q else Q (.bool false) σ1) :
    Ev prog w Bs VR k env.locals (boolOp pos .And (evalEach (x :: y :: r) env)) m σ Q := fun A g s Qc Ec hA hB R hQ => by
  show wpAny _ A (eval x env >>= fun v => standAt pos >>= fun _ => holding [v] (truthy v) >>= fun t => _) _ _ _
  refine wpAny_bind (h A g s _ _ hA hB R fun cv v σ1 h1 tk ⟨b, e, hq⟩ R1 r t => ?_)
  subst e
  cases r
  refine wpAny_bind (wpAny_standAt (wpAny_bind (wpAny_holding (wpAny_truthy_bool ?_))))
  cases b with
  | true => exact hq A g _ _ _ hA hB R1 fun c v σ' h' tk hq R' p t' => hQ c v σ' h' tk hq R' p (t.trans t')
  | false => exact wpAny_pure (hQ _ _ σ1 h1 tk hq R1 (.bool _) t)
theorem ev_and {es : List Expr} {pos : Pos} {Q : V → St → Prop} (h : Ev prog w Bs VR k env.locals (boolOp pos .And (evalEach es env)) m σ Q) : EvE prog w Bs k env (.BoolOp .And es pos) m σ Q := h

/-- sum(d.values()) -/
theorem bf_sum_values {r : Addr} {ps : PS} {σ0 : St} {Q : V → St → Prop} (hs : σ = (r, .obj (viewO "dict_values" d)) :: σ0) (hm : (d, ob) ∈ σ0) (hl : ob.peel = .dict (kvI ps)) (hq : Q (.int (ps.map (·.2)).sum) σ0) : EvF prog w Bs k (.builtin "sum") [.ref r] σ Q := by
  intro A g s Qc Ec cvs hA hB R rs hQ
  subst hs
  cases rs with
  | cons rr rs =>
    cases rr; cases rs
    obtain ⟨_, ov, hov, ev⟩ := R.own _ (.head _)
    have ev' : ov = viewO "dict_values" d := ev
    subst ev'
    obtain ⟨ck, hd, rk⟩ := R.dict_at (.tail _ hm) hl
    obtain ⟨ep, hat⟩ := hd.dictAt
    have hdlt : d < s.heap.objs.size := by obtain ⟨o, es, ho, _⟩ := hat; exact Heap.lt_size ho
    have hne : d ≠ s.heap.objs.size := Nat.ne_of_lt hdlt
    have W := (Walks.dictValues (prog := prog) (w := w) (A := A.in1) (knd := strKind prog w) hA.1 s.heap.objs.size d hne ck ep).toS
    have kpp := push_keep s.heap { cls := .type "dict_valueiterator", data := .fields #[.ref d, .int 0 0, .int ck.length 0, .int ep 0] }
    refine call_sum_walkAnyS (wpAny_pyIter_values ⟨_, hov, rfl, rfl⟩ hat ?_)
    have hat2 : (s.heap.push { cls := .type "dict_valueiterator", data := .fields #[.ref d, .int 0 0, .int ck.length 0, .int ep 0] }).DictAt (strKind prog w) d ck ep := hat.at' fun o e => kpp _ _ e
    refine ⟨s.heap.objs.size, _, _, _, _, _, _, fun i => (ps.map (·.2)).getD i 0, rfl, W, ⟨⟨_, Heap.get?_push_size _ rfl, rfl, rfl⟩, hat2⟩, fun b hb => ?_, fun i v hP => ?_, fun s' t' hm' => ?_⟩
    · rcases List.mem_cons.mp hb with rfl | hb
      · exact Heap.lt_size (Heap.get?_push_size _ rfl)
      · obtain rfl := List.mem_singleton.mp hb
        obtain ⟨o, es, ho, _⟩ := hat2
        exact Heap.lt_size ho
    · obtain ⟨x, hx⟩ := hP
      have key : ∀ {ck : List (Str × Value)} {ps : PS}, KVR s.heap ck (kvI ps) → ∀ {i : Nat} {x : Str} {v : Value}, ck[i]? = some (x, v) → ∃ t, v = .int ((ps.map (·.2)).getD i 0) t := by
        intro ck ps rk
        induction ps generalizing ck with
        | nil => cases rk; intro i x v e; simp at e
        | cons p ps ih =>
          cases rk with
          | cons rv rk =>
            intro i x v e
            cases i with
            | zero => simp at e; obtain ⟨rfl, rfl⟩ := e; cases rv; exact ⟨_, rfl⟩
            | succ i => simp at e; simpa using ih rk e
      exact key rk hx
    · have kp : ∀ b o, s.heap.get? b = some o → s'.heap.get? b = some o := fun b o e => hm'.heap b o (fun hb => absurd (Heap.lt_size e) ((List.mem_singleton.mp hb) ▸ Nat.lt_irrefl _)) (kpp _ _ e)
      rw [Moved.eq_with hm']
      have hsum : preSum (fun i => (ps.map (·.2)).getD i 0) ck.length = (ps.map (·.2)).sum := by
        rw [preSum_getD]
        have : ck.length = (ps.map (·.2)).length := by rw [rk.length, kvI_length, List.length_map]
        rw [this, List.take_length]
      rw [hsum]
      exact hQ _ _ σ0 s'.heap s'.toks hq ((R.sub (List.sublist_cons_self _ _)).ext kp) (.int ..) (.of_keep kp)

/-- d.items(), walked into names -/
theorem itsT_items {es : List Expr} {kk : Nat} {tp : Pos} {r : Addr} {σ0 : St} {σf : Obj → St} {K : ∀ (vs : List V) (need : St → Prop), St → Prop} (hs : σ = (r, .obj (viewO "dict_items" d)) :: σ0)
    (u : ∀ c, Up d (.dict kvs) (.fix c (.dict kvs)) σ0 (σf c)) (h : ∀ c, K (kvs.map fun p => .tup [.str p.1, p.2]) (fun σ => (d, .fix c (.dict kvs)) ∈ σ) (σf c)) : ItsT prog w Bs k L (.Tuple es kk tp) (.ref r) m σ K := by
  intro A g s cv Qc Ec hA hB R rr hQ
  subst hs
  cases rr
  obtain ⟨_, ov, hov, ev⟩ := R.rh.own _ (.head _)
  have ev' : ov = viewO "dict_items" d := ev
  subst ev'
  have R0 : Rel prog w g L m σ0 s.heap := R.sub (List.sublist_cons_self _ _)
  have um := (u default).mem
  obtain ⟨_, c, hoc, ckvs, hdo, rk⟩ := R0.rh.own _ um
  have hd : s.heap.DictOf (strKind prog w) d ckvs := Heap.dictOf_iff.mpr ⟨c, hoc, hdo⟩
  obtain ⟨ep, hat⟩ := hd.dictAt
  have hfix : ∀ h : Heap, h.get? d = some c → h.DictAt (strKind prog w) d ckvs ep := fun h e => by
    obtain ⟨o, es, ho, r⟩ := hat
    rw [hoc] at ho; cases ho
    exact ⟨c, es, e, r⟩
  refine wpAny_pyIter_items ⟨_, hov, rfl, rfl⟩ hat ?_
  have R1 : Rel prog w g L m (σf c) s.heap := R0.change (u c) fun c' e r => ⟨by rw [hoc] at e; exact (Option.some.inj e).symm, r⟩
  have kp := push_keep s.heap { cls := .type "dict_itemiterator", data := .fields #[.none, .bool false, .ref d, .int 0 0, .int ckvs.length 0, .int ep 0, .none, .none] }
  obtain ⟨o1, o2⟩ := push_off R1
  have hmem : (d, O.fix c (.dict kvs)) ∈ σf c := by
    have : ∀ {l l' : St} {o o' : O}, Up d o o' l l' → (d, o') ∈ l' := by
      intro l l' o o' u
      induction u with
      | head => exact .head _
      | tail _ ih => exact .tail _ ih
    exact this (u c)
  -- the values, as they stand
  have hvals : ∀ {h : Heap}, TK s.heap h → KVR h ckvs kvs := fun t => rk.mono t
  refine hQ s.heap.objs.size [s.heap.objs.size] [s.heap.objs.size] _ (fun σ => (d, .fix c (.dict kvs)) ∈ σ) (fun i h => (∃ ok ov, IsItemIter h s.heap.objs.size d i ckvs.length ep ok ov) ∧ KVR h ckvs kvs) (σf c) _ s.toks (h c) ⟨fun _ hb => hb, ?_, ?_, ?_, ?_⟩
    ⟨⟨_, _, Heap.get?_push_size _ rfl⟩, hvals (.of_keep kp)⟩ (R1.ext kp) (.of_keep kp) o1 o2 hmem
  · rintro i h ⟨⟨ok, ov, he⟩, _⟩ b hb
    rw [List.mem_singleton.mp hb]; exact ⟨_, he⟩
  · rintro i h h' ⟨⟨ok, ov, he⟩, rk⟩ kp' t
    exact ⟨⟨ok, ov, kp' _ (.head _) _ he⟩, rk.mono t⟩
  · intro A' k' g' σ2 s' Qc' Ec' i uu hA' R' hn st hv hQ'
    obtain ⟨⟨ok, ov, he⟩, rk'⟩ := st
    obtain ⟨_, o, ho, e, _⟩ := R'.own _ hn
    have e' : o = c := e
    subst e'
    have hdd := hfix _ ho
    rw [List.getElem?_map] at hv
    obtain ⟨p, hp, rfl⟩ := Option.map_eq_some_iff.mp hv
    have key : ∀ {ck : List (Str × Value)} {kv : KV}, KVR s'.heap ck kv → ∀ {i : Nat} {p : Str × V}, kv[i]? = some p → ∃ cv, ck[i]? = some (p.1, cv) ∧ VR s'.heap cv p.2 := by
      intro ck kv rk
      induction rk with
      | nil => intro i p e; simp at e
      | cons rv _ ih =>
        intro i p e
        cases i with
        | zero => simp at e; subst e; exact ⟨_, rfl, rv⟩
        | succ i => simp at e; simpa using ih e
    obtain ⟨cv, hcv, rv⟩ := key rk' hp
    refine wpAny_pyNext_items_item he hdd hcv fun kv h1 hkey heo ht1 hz1 kp1 => ⟨_, rfl, ?_⟩
    refine wpAny_letOwnedTupleGo_items heo fun h2 he2 hs2 => ?_
    replace hs2 : Heap.SameBut s.heap.objs.size h1 h2 := hs2
    have kp2 : ∀ b o, b ∉ [s.heap.objs.size] → s'.heap.get? b = some o → h2.get? b = some o := fun b o hb x => by
      have hb' : b ≠ s.heap.objs.size := by simpa using hb
      exact (hs2.2 b hb').trans (kp1 b o hb' x)
    have t : TK s'.heap h2 := tk_but kp2 fun b hb => by rw [List.mem_singleton.mp hb]; exact not_tup he rfl (by decide)
    have hes : s.heap.objs.size ≠ s'.heap.objs.size := Nat.ne_of_lt (Heap.lt_size he)
    have ht2 : h2.get? s'.heap.objs.size = some (tupO [kv, cv] 0) := (hs2.2 _ hes.symm).trans ht1
    have : ∃ t, kv = .str p.1 t := by
      have hkey' : Value.isStrOf p.1 kv = true := hkey
      cases kv with
      | str x t => exact ⟨t, by simp [Value.isStrOf] at hkey'; rw [hkey']⟩
      | _ => simp [Value.isStrOf] at hkey'
    obtain ⟨tt, rfl⟩ := this
    exact hQ' _ h2 s'.toks (.tup ht2 (.cons (.str ..) (.cons (rv.mono t) .nil))) ⟨⟨_, _, he2⟩, rk'.mono t⟩ kp2 t
  · intro A' k' g' σ2 s' Qc' Ec' hA' R' hn st hQ'
    obtain ⟨⟨ok, ov, he⟩, rk'⟩ := st
    obtain ⟨_, o, ho, e, _⟩ := R'.own _ hn
    have e' : o = c := e
    subst e'
    have hdd := hfix _ ho
    rw [List.length_map, ← rk'.length] at he
    refine wpAny_pyNext_items_end hA'.1 he hdd (by simp) fun h1 hx1 => ?_
    have kp1 : ∀ b o, b ∉ [s.heap.objs.size] → s'.heap.get? b = some o → h1.get? b = some o := fun b o hb x => hx1 b o (by simpa using hb) x
    exact hQ' h1 s'.toks kp1 (tk_but kp1 fun b hb => by rw [List.mem_singleton.mp hb]; exact not_tup he rfl (by decide))
theorem mem_fixes {o : O} : ∀ {l : St}, (a, o) ∈ l → ∃ f : Obj → St, (∀ c, Up a o (.fix c o) l (f c)) ∧ ∀ c, Up a (.fix c o) o (f c) l
  | _ :: r, .head _ => ⟨fun c => (a, .fix c o) :: r, fun _ => .head, fun _ => .head⟩
  | p :: _, .tail _ h => let ⟨f, x, y⟩ := mem_fixes h; ⟨fun c => p :: f c, fun c => .tail (x c), fun c => .tail (y c)⟩
theorem Up.mem' {o o' : O} : ∀ {l l' : St}, Up a o o' l l' → (a, o') ∈ l'
  | _, _, .head => .head _
  | _, _, .tail u => .tail _ u.mem'
/-- for x, n in d.items(), by an invariant -/
theorem evx_for_items {xa xb : Str} {pa pb : Pos} {kk : Nat} {tp pos : Pos} {iter : Expr} {body : List Stmt} {Q : Fl → Env' → St → Prop}
    (h : EvE prog w Bs k env iter m σ fun v σ1 => ∃ (r d : Addr) (ps : PS) (σ0 : St) (σf : Obj → St), v = .ref r ∧ σ1 = (r, .obj (viewO "dict_items" d)) :: σ0 ∧ (∀ c, Up d (.dict (kvI ps)) (.fix c (.dict (kvI ps))) σ0 (σf c)) ∧ ∀ c, ∃ (Inv : PS → Env' → St → Prop) (m1 : Env') (σ2 : St), leE m1 m ∧ SubP σ2 (σf c) ∧ Inv [] m1 σ2 ∧
      (∀ qs q qs2 m σ, ps = qs ++ q :: qs2 → Inv qs m σ → EvS prog w Bs k env body (mset (mset m xa (.str q.1)) xb (.int q.2)) σ fun f m' σ' => match f with
        | .brk => Q .next m' σ'
        | .ret u => Q (.ret u) m' σ'
        | _ => ∃ m1 σ1, leE m1 m' ∧ SubP σ1 σ' ∧ (d, .fix c (.dict (kvI ps))) ∈ σ1 ∧ Inv (qs ++ [q]) m1 σ1) ∧
      (∀ m1 σ1 m σ, leE m1 m → SubP σ1 σ → Inv ps m1 σ1 → Q .next m σ))
    (hxa : env.kindOf xa = some .local := by rfl) (hxb : env.kindOf xb = some .local := by rfl) (hk : env.scope.kind = .function := by rfl) (hs : ∀ x, foldedSetIterable iter env x = pure x := by intro _; rfl) :
    EvX prog w Bs k env (.For (.Tuple [.Name xa pa, .Name xb pb] kk tp) iter body [] pos) m σ Q := by
  show EvX prog w Bs k env (.For (.Tuple (namesE [(xa, pa), (xb, pb)]) kk tp) iter body [] pos) m σ Q
  refine evx_forC (h.mono fun v σ1 hh => ?_) hk hs
  obtain ⟨r, d, ps, σ0, σf, rfl, hs, u, hh⟩ := hh
  refine itsT_items hs u fun c => ?_
  obtain ⟨Inv, m1, σ2, i1, i2, i3, step, done⟩ := hh c
  rw [kvI_items]
  refine forC_inv (fun pre m s => ∃ qs, pre = qs.map kvV ∧ Inv qs m s) ?_ ?_ i1 i2 ⟨[], rfl, i3⟩ fun _ _ s h => s.subset h
  · rintro pre v post m s e ⟨qs, rfl, hi⟩
    obtain ⟨q, qs2, rfl, rfl, e2⟩ := map_split e
    refine ⟨_, _, _, rfl, .loc hxa (.loc hxb .nil), (step qs q qs2 m s e2 hi).mono fun f m' σ' hq => ?_⟩
    have nx : (∃ m1 σ1, leE m1 m' ∧ SubP σ1 σ' ∧ (d, O.fix c (.dict (kvI ps))) ∈ σ1 ∧ Inv (qs ++ [q]) m1 σ1) → ∃ m1 σ1, leE m1 m' ∧ SubP σ1 σ' ∧ (d, O.fix c (.dict (kvI ps))) ∈ σ1 ∧ ∃ qs', qs.map kvV ++ [kvV q] = qs'.map kvV ∧ Inv qs' m1 σ1 := by
      rintro ⟨m2, σ2, h1, h2, h3, h4⟩
      exact ⟨m2, σ2, h1, h2, h3, qs ++ [q], by simp, h4⟩
    cases f with
    | next => exact nx hq
    | cont => exact nx hq
    | brk => exact hq
    | ret u => exact hq
  · rintro m1 σ1 m s h1 h2 ⟨qs, e, hi⟩
    obtain rfl : ps = qs := kvVs_inj e
    exact done m1 σ1 m s h1 h2 hi
end
-- dicts of counts, plainly
def putP (ps : PS) (x : Str) (v : Int) : PS := if ps.any (fun p => decide (p.1 = x)) then ps.map (fun p => if p.1 = x then (p.1, v) else p) else ps ++ [(x, v)]
theorem kvI_putP (ps : PS) (x : Str) (v : Int) : kvI (putP ps x v) = dput (kvI ps) x (.int v) := by
  unfold putP dput
  have e : (kvI ps).any (fun p => decide (p.1 = x)) = ps.any (fun p => decide (p.1 = x)) := by simp [kvI, List.any_map]; rfl
  rw [e]
  cases ps.any (fun p => decide (p.1 = x)) with
  | true =>
    simp only [if_true, kvI, List.map_map]
    refine List.map_congr_left fun p _ => ?_
    simp only [Function.comp]
    split <;> rfl
  | false => simp [kvI]
theorem putP_lookup (ps : PS) (x : Str) (v : Int) (y : Str) : (putP ps x v).lookup y = if y == x then some v else ps.lookup y := by
  have h := dput_lookup (kvI ps) x (.int v) y
  rw [← kvI_putP, kvI_lookup, kvI_lookup] at h
  cases q : y == x with
  | true =>
    rw [q] at h
    cases hl : (putP ps x v).lookup y with
    | none => rw [hl] at h; simp at h
    | some u => rw [hl] at h; simp at h; simp [h]
  | false =>
    rw [q] at h
    simp only [Bool.false_eq_true, if_false] at h ⊢
    cases hl : (putP ps x v).lookup y with
    | none =>
      rw [hl] at h
      cases hl2 : ps.lookup y with
      | none => rfl
      | some u => rw [hl2] at h; simp at h
    | some t =>
      rw [hl] at h
      cases hl2 : ps.lookup y with
      | none => rw [hl2] at h; simp at h
      | some u => rw [hl2] at h; simp at h; rw [h]
theorem putP_keys (ps : PS) (x : Str) (v : Int) : keys (putP ps x v) = if x ∈ keys ps then keys ps else keys ps ++ [x] := by
  unfold putP
  have e : ps.any (fun p => decide (p.1 = x)) = decide (x ∈ keys ps) := by
    rw [Bool.eq_iff_iff, List.any_eq_true, decide_eq_true_eq]
    constructor
    · rintro ⟨p, hp, h⟩
      rw [← of_decide_eq_true h]; exact List.mem_map_of_mem (f := (·.1)) hp
    · intro h
      obtain ⟨p, hp, rfl⟩ := List.mem_map.mp h
      exact ⟨p, hp, by simp⟩
  rw [e]
  by_cases hx : x ∈ keys ps
  · rw [decide_eq_true hx, if_pos rfl, if_pos hx]
    simp only [keys, List.map_map]
    refine List.map_congr_left fun p _ => ?_
    simp only [Function.comp]
    split <;> rfl
  · rw [decide_eq_false hx, if_neg (by simp), if_neg hx]
    simp [keys]
theorem putP_nodup {ps : PS} (nd : (keys ps).Nodup) (x : Str) (v : Int) : (keys (putP ps x v)).Nodup := by
  rw [putP_keys]
  split
  · exact nd
  · rename_i hx
    refine List.nodup_append.mpr ⟨nd, by simp, fun a ha b hb e => ?_⟩
    simp at hb
    subst hb e
    exact hx ha
theorem putP_len (ps : PS) (x : Str) (v : Int) : (putP ps x v).length ≤ ps.length + 1 := by
  unfold putP
  split <;> simp
def tot (ps : PS) : Int := (ps.map (·.2)).sum
def cnt (ps : PS) (x : Str) : Int := (ps.lookup x).getD 0
theorem putP_tot : ∀ {ps : PS} (x : Str) (v : Int), (keys ps).Nodup → tot (putP ps x v) = tot ps - cnt ps x + v
  | [], x, v, _ => by simp [putP, tot, cnt]
  | (y, i) :: r, x, v, nd => by
    have nd' := List.nodup_cons.mp nd
    have ih := putP_tot (ps := r) x v nd'.2
    by_cases h : y = x
    · subst h
      have hr : ∀ p ∈ r, p.1 ≠ y := fun p hp e => nd'.1 (by rw [← e]; exact List.mem_map_of_mem (f := (·.1)) hp)
      have e : putP ((y, i) :: r) y v = (y, v) :: r := by
        unfold putP
        rw [if_pos (by simp)]
        simp only [List.map_cons, if_true, List.cons.injEq, true_and]
        conv => rhs; rw [← List.map_id r]
        refine List.map_congr_left fun p hp => ?_
        rw [if_neg (hr p hp)]; rfl
      rw [e]
      simp [tot, cnt]
      omega
    · have hxy : (x == y) = false := by simpa using fun e => h e.symm
      have e : putP ((y, i) :: r) x v = (y, i) :: putP r x v := by
        unfold putP
        simp only [List.any_cons, h, decide_false, Bool.false_or, List.map_cons, if_false]
        split <;> rfl
      have ec : cnt ((y, i) :: r) x = cnt r x := by simp [cnt, List.lookup_cons, hxy]
      rw [e, ec]
      simp only [tot, List.map_cons, List.sum_cons] at ih ⊢
      omega
def addP (r : PS) (q : Str × Int) : PS := putP r q.1 (cnt r q.1 + q.2)
def addM (as bs : PS) : PS := bs.foldl addP as
def dmk (ps : PS) : PS := ps.foldl (fun r q => putP r q.1 q.2) []
theorem kvI_dmk (ps : PS) : dmake (kvI ps) = kvI (dmk ps) := by
  have : ∀ (ps acc : PS), (kvI ps).foldl (fun c p => dput c p.1 p.2) (kvI acc) = kvI (ps.foldl (fun r q => putP r q.1 q.2) acc) := by
    intro ps
    induction ps with
    | nil => intro acc; rfl
    | cons p r ih =>
      intro acc
      show (kvI r).foldl _ (dput (kvI acc) p.1 (.int p.2)) = _
      rw [← kvI_putP, ih]; rfl
  exact this ps []
theorem dmk_nodup (ps : PS) : (keys (dmk ps)).Nodup := by
  have : ∀ (ps acc : PS), (keys acc).Nodup → (keys (ps.foldl (fun r q => putP r q.1 q.2) acc)).Nodup := by
    intro ps
    induction ps with
    | nil => intro acc h; exact h
    | cons p r ih => intro acc h; exact ih _ (putP_nodup h _ _)
  exact this ps [] (by simp [keys])
theorem dmk_len (ps : PS) : (dmk ps).length ≤ ps.length := by
  have : ∀ (ps acc : PS), (ps.foldl (fun r q => putP r q.1 q.2) acc).length ≤ acc.length + ps.length := by
    intro ps
    induction ps with
    | nil => intro acc; simp
    | cons p r ih => intro acc; have := ih (putP acc p.1 p.2); have := putP_len acc p.1 p.2; simp; omega
  simpa [dmk] using this ps []
theorem dmk_eq_iff {ps : PS} : dmk ps = ps ↔ (keys ps).Nodup := by
  constructor
  · intro h; rw [← h]; exact dmk_nodup ps
  · intro nd
    have h := kvI_dmk ps
    rw [dmake_nodup nd] at h
    have inj : ∀ {a b : PS}, kvI a = kvI b → a = b := by
      intro a
      induction a with
      | nil => intro b h; cases b with
        | nil => rfl
        | cons _ _ => simp [kvI] at h
      | cons p a ih => intro b h; cases b with
        | nil => simp [kvI] at h
        | cons q b =>
          simp only [kvI, List.map_cons, List.cons.injEq, Prod.mk.injEq, V.int.injEq] at h
          have : p = q := Prod.ext h.1.1 h.1.2
          rw [this, ih h.2]
    exact (inj h).symm
theorem dmk_mem {ps : PS} : ∀ x ∈ keys (dmk ps), x ∈ keys ps := by
  have : ∀ (ps acc : PS) x, x ∈ keys (ps.foldl (fun r q => putP r q.1 q.2) acc) → x ∈ keys acc ∨ x ∈ keys ps := by
    intro ps
    induction ps with
    | nil => intro acc x h; exact .inl h
    | cons p r ih =>
      intro acc x h
      rcases ih _ x h with h | h
      · rw [putP_keys] at h
        split at h
        · exact .inl h
        · rcases List.mem_append.mp h with h | h
          · exact .inl h
          · rw [List.mem_singleton.mp h]; exact .inr (.head _)
      · exact .inr (.tail _ h)
  intro x h
  rcases this ps [] x h with h | h
  · simp [keys] at h
  · exact h
theorem addM_facts : ∀ (bs as : PS), (keys as).Nodup → (keys bs).Nodup → (keys (addM as bs)).Nodup ∧ tot (addM as bs) = tot as + tot bs ∧ (∀ x, cnt (addM as bs) x = cnt as x + cnt bs x) ∧ (∀ x, x ∈ keys (addM as bs) ↔ x ∈ keys as ∨ x ∈ keys bs) ∧ (addM as bs).length ≤ as.length + bs.length
  | [], as, na, _ => ⟨na, by simp [addM, tot], by simp [addM, cnt], by simp [addM, keys], by simp [addM]⟩
  | (y, i) :: r, as, na, nb => by
    have nb' := List.nodup_cons.mp nb
    obtain ⟨h1, h2, h3, h4, h5⟩ := addM_facts r (addP as (y, i)) (putP_nodup na _ _) nb'.2
    refine ⟨h1, ?_, fun x => ?_, fun x => ?_, ?_⟩
    · show tot (addM (addP as (y, i)) r) = _
      rw [h2, show tot (addP as (y, i)) = tot as + i by unfold addP; rw [putP_tot _ _ na]; omega]
      simp [tot]; omega
    · show cnt (addM (addP as (y, i)) r) x = _
      rw [h3]
      have e : cnt (addP as (y, i)) x = if x = y then cnt as y + i else cnt as x := by
        unfold addP cnt
        rw [putP_lookup]
        by_cases hx : x = y
        · simp [hx]
        · simp [hx]
      rw [e]
      by_cases hx : x = y
      · subst hx
        have : r.lookup x = none := lookup_none_iff.mpr nb'.1
        simp [cnt, List.lookup_cons, this]
      · have hxy : (x == y) = false := by simpa using hx
        simp [cnt, List.lookup_cons, hx, hxy]
    · show x ∈ keys (addM (addP as (y, i)) r) ↔ _
      rw [h4]
      unfold addP
      rw [putP_keys]
      by_cases hy : y ∈ keys as
      · rw [if_pos hy]
        constructor
        · rintro (h | h)
          · exact .inl h
          · exact .inr (.tail _ h)
        · rintro (h | h)
          · exact .inl h
          · rcases List.mem_cons.mp h with h | h
            · exact .inl (by rw [h]; exact hy)
            · exact .inr h
      · rw [if_neg hy]
        constructor
        · rintro (h | h)
          · rcases List.mem_append.mp h with h | h
            · exact .inl h
            · rw [List.mem_singleton.mp h]; exact .inr (.head _)
          · exact .inr (.tail _ h)
        · rintro (h | h)
          · exact .inl (List.mem_append_left _ h)
          · rcases List.mem_cons.mp h with h | h
            · exact .inl (List.mem_append_right _ (by rw [h]; exact .head _))
            · exact .inr h
    · have h6 : (addP as (y, i)).length ≤ as.length + 1 := putP_len as y (cnt as y + i)
      have h7 : (addM as ((y, i) :: r)).length = (addM (addP as (y, i)) r).length := rfl
      rw [h7, List.length_cons]
      omega
theorem nodup_iff_counts {l : List Str} : l.Nodup ↔ ∀ x ∈ l, l.count x ≤ 1 := by
  rw [List.nodup_iff_count]
  constructor
  · intro h x _; exact h x
  · intro h x
    by_cases hx : x ∈ l
    · exact h x hx
    · rw [List.count_eq_zero.mpr hx]; omega
theorem perm_of_keys {a b : List Str} (na : a.Nodup) (nb : b.Nodup) (h : ∀ x, x ∈ a ↔ x ∈ b) : a.Perm b :=
  (List.perm_ext_iff_of_nodup na nb).mpr h
end Mine

set_option Elab.async false
set_option linter.unusedVariables false
set_option maxRecDepth 100000
namespace Mine
open PySem PyProof.Rows PySem.W

section
variable {n : Nat} {f : Nat → Int} {cmp : Nat → Nat → (Bool → Shared → Prop) → Shared → Prop} {s : Shared}
/-- an arrangement of 0 … n - 1 -/
abbrev Arr (n : Nat) (p : Array Nat) : Prop := p.Perm (List.range n).toArray
theorem Arr.size {p : Array Nat} (h : Arr n p) : p.size = n := by
  have := h.size_eq
  simpa using this
theorem Arr.lt {p : Array Nat} (h : Arr n p) {a : Nat} (ha : a < n) : p.getD a 0 < n := by
  have hs := h.size
  have hm : p.getD a 0 ∈ p.toList := by
    have : a < p.size := by omega
    simp [Array.getD, this]
  have hp : p.toList.Perm (List.range n) := by
    have := Array.perm_iff_toList_perm.mp h
    simpa using this
  exact List.mem_range.mp (hp.subset hm)
theorem Arr.inj {p : Array Nat} (h : Arr n p) {a b : Nat} (ha : a < n) (hb : b < n) (e : p.getD a 0 = p.getD b 0) : a = b := by
  have hs := h.size
  have hp : p.toList.Perm (List.range n) := by
    have := Array.perm_iff_toList_perm.mp h
    simpa using this
  have nd : p.toList.Nodup := hp.nodup_iff.mpr List.nodup_range
  have h1 : a < p.toList.length := by simp; omega
  have h2 : b < p.toList.length := by simp; omega
  have e1 : p.toList[a] = p.toList[b] := by
    have ha' : a < p.size := by omega
    have hb' : b < p.size := by omega
    simpa [Array.getD, ha', hb'] using e
  have key := List.pairwise_iff_getElem.mp nd
  rcases Nat.lt_trichotomy a b with q | q | q
  · exact absurd e1 (key a b h1 h2 q)
  · exact q
  · exact absurd e1.symm (key b a h2 h1 q)
variable (f) in
def key (p : Array Nat) (a : Nat) : Int := f (p.getD a 0)
variable (f) in
def Srt (p : Array Nat) (k : Nat) : Prop := ∀ a b, a < b → b < k → key f p a < key f p b
variable (f) in
def Dsc (p : Array Nat) (k : Nat) : Prop := ∀ a b, a < b → b < k → key f p b < key f p a
/-- what is asked is answered by f, and f tells apart -/
structure Orac (n : Nat) (f : Nat → Int) (cmp : Nat → Nat → (Bool → Shared → Prop) → Shared → Prop) (s : Shared) : Prop where
  inj : ∀ i j, i < n → j < n → f i = f j → i = j
  ans : ∀ i j C, i < n → j < n → C (decide (f i < f j)) s → cmp i j C s
theorem Orac.ne (O : Orac n f cmp s) {p : Array Nat} (h : Arr n p) {a b : Nat} (ha : a < n) (hb : b < n) (e : a ≠ b) : key f p a ≠ key f p b := fun q =>
  e (h.inj ha hb (O.inj _ _ (h.lt ha) (h.lt hb) q))
theorem Orac.ask (O : Orac n f cmp s) {p : Array Nat} (h : Arr n p) {a b : Nat} (ha : a < n) (hb : b < n) {C : Bool → Shared → Prop} (e : a ≠ b) (h1 : key f p a < key f p b → C true s) (h2 : key f p b < key f p a → C false s) : cmp (p.getD a 0) (p.getD b 0) C s := by
  refine O.ans _ _ _ (h.lt ha) (h.lt hb) ?_
  by_cases hl : key f p a < key f p b
  · rw [show decide (f (p.getD a 0) < f (p.getD b 0)) = true from decide_eq_true hl]
    exact h1 hl
  · rw [show decide (f (p.getD a 0) < f (p.getD b 0)) = false from decide_eq_false hl]
    have := O.ne h ha hb e
    exact h2 (by omega)
theorem asc_ok (O : Orac n f cmp s) {p : Array Nat} (h : Arr n p) : ∀ (fu m : Nat) (Q : Nat → Shared → Prop), 1 ≤ m → m + fu ≤ n → Srt f p m → (∀ m', m ≤ m' → m' ≤ m + fu → Srt f p m' → (m' < m + fu → key f p m' < key f p (m' - 1)) → Q m' s) → (kas_asc p fu m).kasWp cmp Q s
  | 0, m, Q, h1, hn, hs, hQ => hQ m (Nat.le_refl _) (Nat.le_refl _) hs fun q => by omega
  | fu + 1, m, Q, h1, hn, hs, hQ => by
    show cmp (p.getD m 0) (p.getD (m - 1) 0) _ s
    refine O.ask h (by omega) (by omega) (by omega) (fun hl => ?_) fun hl => ?_
    · simp only [if_true]
      exact hQ m (Nat.le_refl _) (by omega) hs fun _ => hl
    · simp only [Bool.false_eq_true, if_false]
      refine asc_ok O h fu (m + 1) Q (by omega) (by omega) (fun a b hab hb => ?_) fun m' h1 h2 h3 h4 => hQ m' (by omega) (by omega) h3 fun q => h4 (by omega)
      by_cases e : b = m
      · subst e
        by_cases e2 : a = b - 1
        · rw [e2]; exact hl
        · have := hs a (b - 1) (by omega) (by omega)
          omega
      · exact hs a b hab (by omega)
theorem desc_ok (O : Orac n f cmp s) {p : Array Nat} (h : Arr n p) : ∀ (fu m : Nat) (Q : Array Nat × Nat × Nat → Shared → Prop), 1 ≤ m → m + fu ≤ n → Dsc f p m → (∀ m', m ≤ m' → m' ≤ m + fu → Dsc f p m' → Q (p, m', 0) s) → (kas_desc fu p m 0).kasWp cmp Q s
  | 0, m, Q, h1, hn, hs, hQ => hQ m (Nat.le_refl _) (Nat.le_refl _) hs
  | fu + 1, m, Q, h1, hn, hs, hQ => by
    show cmp (p.getD m 0) (p.getD (m - 1) 0) _ s
    refine O.ask h (by omega) (by omega) (by omega) (fun hl => ?_) fun hl => ?_
    · simp only [if_true, Nat.lt_irrefl, if_false, gt_iff_lt]
      refine desc_ok O h fu (m + 1) Q (by omega) (by omega) (fun a b hab hb => ?_) fun m' h1 h2 h3 => hQ m' (by omega) (by omega) h3
      by_cases e : b = m
      · subst e
        by_cases e2 : a = b - 1
        · rw [e2]; exact hl
        · have := hs a (b - 1) (by omega) (by omega)
          omega
      · exact hs a b hab (by omega)
    · simp only [Bool.false_eq_true, if_false]
      show cmp (p.getD (m - 1) 0) (p.getD m 0) _ s
      refine O.ask h (by omega) (by omega) (by omega) (fun _ => ?_) fun q => by omega
      simp only [if_true]
      exact hQ m (Nat.le_refl _) (by omega) hs
theorem key_get {p q : Array Nat} {a b : Nat} (h : p[a]? = q[b]?) : key f p a = key f q b := by
  unfold key
  rw [Array.getD_eq_getD_getElem?, Array.getD_eq_getD_getElem?, h]
theorem tail3_ok (O : Orac n f cmp s) {p : Array Nat} (h : Arr n p) {m : Nat} {Q : Nat × Array Nat → Shared → Prop} (h1 : 1 ≤ m) (hm : m ≤ n) (hd : Dsc f p m) (hQ : ∀ m' p', Arr n p' → 1 ≤ m' → m' ≤ n → Srt f p' m' → Q (m', p') s) : (kas_tail3 m n p).kasWp cmp Q s := by
  unfold kas_tail3
  rw [KasT.kasWp_bind]
  have hp' : Arr n (kas_rev p 0 m) := (mirror_perm ..).trans h
  have hs : Srt f (kas_rev p 0 m) m := fun a b hab hb => by
    have e : ∀ c, c < m → key f (kas_rev p 0 m) c = key f p (m - 1 - c) := fun c hc => key_get (by
      unfold kas_rev
      rw [getElem?_mirror_all (by rw [h.size]; exact hm), if_pos (by omega)]
      congr 1; omega)
    rw [e a (by omega), e b hb]
    exact hd _ _ (by omega) (by omega)
  exact asc_ok O hp' _ _ _ h1 (by omega) hs fun m' q1 q2 q3 _ => hQ m' _ hp' (by omega) (by omega) q3
theorem count_ok (O : Orac n f cmp s) {p : Array Nat} (h : Arr n p) (hn : 2 ≤ n) {Q : Nat × Array Nat → Shared → Prop} (hQ : ∀ m' p', Arr n p' → 1 ≤ m' → m' ≤ n → Srt f p' m' → Q (m', p') s) : (kas_count n p).kasWp cmp Q s := by
  unfold kas_count
  rw [KasT.kasWp_bind]
  refine asc_ok O h _ _ _ (Nat.le_refl _) (by omega) (fun a b hab hb => by omega) fun m h1 h2 h3 h4 => ?_
  by_cases e : m = n
  · rw [if_pos (by simpa using e)]
    exact hQ m p h (by omega) (by omega) h3
  · rw [if_neg (by simpa using e)]
    by_cases e1 : m > 1
    · rw [if_pos e1]
      show cmp (p.getD 0 0) (p.getD (m - 1) 0) _ s
      refine O.ask h (by omega) (by omega) (by omega) (fun _ => ?_) fun q => ?_
      · simp only [if_true]
        exact hQ m p h (by omega) (by omega) h3
      · have := h3 0 (m - 1) (by omega) (by omega)
        omega
    · rw [if_neg e1]
      have em : m = 1 := by omega
      subst em
      have hl := h4 (by omega)
      unfold kas_descPart
      rw [KasT.kasWp_bind]
      refine desc_ok O h _ _ _ (by omega) (by omega) (fun a b hab hb => ?_) fun m' q1 q2 q3 => ?_
      · have : a = 0 := by omega
        have : b = 1 := by omega
        subst_vars
        exact hl
      · simp only [Nat.lt_irrefl, if_false, gt_iff_lt]
        exact tail3_ok O h (by show 1 ≤ m'; omega) (by show m' ≤ n; omega) q3 hQ
theorem place_ok (O : Orac n f cmp s) {p : Array Nat} (h : Arr n p) {k : Nat} (hk : k < n) (hs : Srt f p k) : ∀ (fu l r : Nat) (Q : Nat → Shared → Prop), l ≤ r → r ≤ k → r - l ≤ fu → (∀ a, a < l → key f p a < key f p k) → (∀ a, r ≤ a → a < k → key f p k < key f p a) →
    (∀ l', l' ≤ k → (∀ a, a < l' → key f p a < key f p k) → (∀ a, l' ≤ a → a < k → key f p k < key f p a) → Q l' s) → (kas_place p k fu l r).kasWp cmp Q s
  | 0, l, r, Q, h1, h2, h3, h4, h5, hQ => hQ l (by omega) h4 fun a ha hak => h5 a (by omega) hak
  | fu + 1, l, r, Q, h1, h2, h3, h4, h5, hQ => by
    unfold kas_place
    by_cases e : l ≥ r
    · rw [if_pos e]
      exact hQ l (by omega) h4 fun a ha hak => h5 a (by omega) hak
    · rw [if_neg e]
      show cmp (p.getD k 0) (p.getD ((l + r) / 2) 0) _ s
      refine O.ask h hk (by omega) (by omega) (fun hl => ?_) fun hl => ?_
      · simp only [if_true]
        refine place_ok O h hk hs fu _ _ Q (by omega) (by omega) (by omega) h4 (fun a ha hak => ?_) hQ
        by_cases e2 : a = (l + r) / 2
        · rw [e2]; exact hl
        · have := hs ((l + r) / 2) a (by omega) hak
          omega
      · simp only [Bool.false_eq_true, if_false]
        refine place_ok O h hk hs fu _ _ Q (by omega) h2 (by omega) (fun a ha => ?_) h5 hQ
        by_cases e2 : a = (l + r) / 2
        · rw [e2]; exact hl
        · have := hs a ((l + r) / 2) (by omega) (by omega)
          omega
theorem bin_ok (O : Orac n f cmp s) : ∀ (fu k : Nat) (p : Array Nat) (Q : Array Nat → Shared → Prop), Arr n p → k + fu = n → Srt f p k → (∀ p', Arr n p' → Srt f p' n → Q p' s) → (kas_bin fu p k).kasWp cmp Q s
  | 0, k, p, Q, h, hk, hs, hQ => hQ p h (by rw [show n = k by omega]; exact hs)
  | fu + 1, k, p, Q, h, hk, hs, hQ => by
    unfold kas_bin
    rw [KasT.kasWp_bind]
    refine place_ok O h (by omega) hs _ _ _ _ (Nat.zero_le _) (Nat.le_refl _) (by omega) (fun a ha => by omega) (fun a ha hak => by omega) fun l h1 h2 h3 => ?_
    have hp' : Arr n (bubble p k (k - l)) := (bubble_perm ..).trans h
    refine bin_ok O fu (k + 1) _ Q hp' (by omega) (fun a b hab hb => ?_) hQ
    have e : ∀ c, c ≤ k → key f (bubble p k (k - l)) c = if c = l then key f p k else if l < c then key f p (c - 1) else key f p c := fun c hc => by
      have hb := getElem?_bubble (xs := p) (src := k) (by rw [h.size]; omega) (k - l) (by omega) c
      have el : k - (k - l) = l := by omega
      rw [el] at hb
      split
      · rename_i q
        rw [if_pos q] at hb
        exact key_get hb
      · rename_i q
        rw [if_neg q] at hb
        split
        · rename_i q2
          rw [if_pos ⟨q2, hc⟩] at hb
          exact key_get hb
        · rename_i q2
          rw [if_neg fun q3 => q2 q3.1] at hb
          exact key_get hb
    rw [e a (by omega), e b (by omega)]
    by_cases a1 : a = l
    · rw [if_pos a1, if_neg (by omega : ¬ b = l), if_pos (by omega : l < b)]
      exact h3 (b - 1) (by omega) (by omega)
    · rw [if_neg a1]
      by_cases a2 : l < a
      · rw [if_pos a2, if_neg (by omega : ¬ b = l), if_pos (by omega : l < b)]
        exact hs (a - 1) (b - 1) (by omega) (by omega)
      · rw [if_neg a2]
        by_cases b1 : b = l
        · rw [if_pos b1]; exact h2 a (by omega)
        · rw [if_neg b1]
          by_cases b2 : l < b
          · rw [if_pos b2]; exact hs a (b - 1) (by omega) (by omega)
          · rw [if_neg b2]; exact hs a b hab (by omega)
/-- the sort sorts -/
theorem sort_ok (O : Orac n f cmp s) (hn : 2 ≤ n) {Q : Array Nat → Shared → Prop} (hQ : ∀ p, Arr n p → Srt f p n → Q p s) : (kas_sort n).kasWp cmp Q s := by
  unfold kas_sort
  rw [KasT.kasWp_bind]
  refine count_ok O (Array.Perm.refl _) hn fun m p hp h1 h2 h3 => ?_
  by_cases e : m < n
  · rw [if_pos e]
    exact bin_ok O _ _ _ _ hp (by show max m 1 + (n - max m 1) = n; omega) (by show Srt f p (max m 1); rw [Nat.max_eq_left h1]; exact h3) hQ
  · rw [if_neg e]
    exact hQ p hp (by rw [show n = m by omega]; exact h3)
end
end Mine

set_option Elab.async false
set_option linter.unusedVariables false
set_option maxRecDepth 100000
namespace Mine
open PySem PyProof.Rows PySem.Calls PySem.W PySem.Spec

/-- a time and a key -/
abbrev TK2 := Int × Str
def tkV (q : TK2) : V := .tup [.int q.1, .str q.2]
section
variable {prog : Program} {w : World} {Bs : Heap} {k : Nat} {env : Env} {m : Env'} {σ : St} {g h h' : Heap} {L a : Addr} {ob : O} {A : Around} {E : Value → Shared → Prop} {s : Shared} {ts : List TK2} {cvs : List Value}
theorem lt_tups {x y : Addr} {i j : Int} {p q : Str} {t u t' u' : Tok} {nx ny : Nat} {Q : Value → Shared → Prop} (hx : s.heap.get? x = some (tupO [.int i t, .str p u] nx)) (hy : s.heap.get? y = some (tupO [.int j t', .str q u'] ny)) (hne : i ≠ j) (hu : A.units < cLine)
    (h : Q (.bool (decide (i < j))) s) : wpAny (model prog w) A (richCompare .Lt (.ref x) (.ref y)) Q E s := by
  have tx : s.TypeIs (.ref x) "tuple" := ⟨_, hx, rfl⟩
  have ty : s.TypeIs (.ref y) "tuple" := ⟨_, hy, rfl⟩
  refine wpAny_richCompare_same_room tx ty F.slot_tuple_lt (wpAny_call_entry F.slot_tuple_lt tx F.entry_tuple_lt ?_ (F.args_tuple_lt_2 _ _)) hu
  show wpAny _ _ (isInstance (.ref y) (.type "tuple") >>= _) _ _ s
  refine wpAny_bind (wpAny_isInstance ty isSubtype_tuple_tuple ?_)
  simp only [Bool.not_true, Bool.false_eq_true, if_false]
  refine wpAny_bind (wpAny_tupleItemsOf hx rfl ?_)
  refine wpAny_bind (wpAny_tupleItemsOf hy rfl ?_)
  refine wpAny_bind ?_
  show wpAny _ _ (forIn [(Value.int i t, Value.int j t'), (Value.str p u, Value.str q u')] _ _) _ _ s
  rw [List.forIn_cons]
  refine wpAny_bind (wpAny_bind (wpAny_eqBool_int ?_))
  have e : (i == j) = false := by simpa using hne
  rw [e]
  simp only [Bool.not_false, if_true]
  refine wpAny_bind (wpAny_rule (wpAny_bind ?_))
  refine (show wpAny _ _ (compareOp .Lt (.int i t) (.int j t')) _ _ _ from lt_int ?_)
  refine wpAny_bind (wpAny_pure (wpAny_pure (wpAny_pure (wpAny_pure ⟨_, rfl, ?_, h⟩))))
  simp
/-- the pairs of a list, as they lie -/
theorem tk_at (hv : VRs h cvs (ts.map tkV)) {i : Nat} {q : TK2} (hi : ts[i]? = some q) : ∃ x t u n, cvs[i]? = some (.ref x) ∧ h.get? x = some (tupO [.int q.1 t, .str q.2 u] n) := by
  obtain ⟨c, hc, r⟩ := hv.get (i := i) (x := tkV q) (by rw [List.getElem?_map, hi]; rfl)
  cases r with
  | tup ho rs =>
    cases rs with
    | cons r1 rs =>
      cases r1
      cases rs with
      | cons r2 rs =>
        cases r2; cases rs
        exact ⟨_, _, _, _, hc, ho⟩
-- min
theorem min_loop {I S : Addr} {base : Heap} (hA : A.handled = none) (hu : A.units + 50 < cLine) (haI : a ≠ I) (hSI : S ≠ I) (hSa : S ≠ a) (hd : ∀ (i j : Nat) (p q : TK2), ts[i]? = some p → ts[j]? = some q → p.1 = q.1 → i = j) (hv : VRs base cvs (ts.map tkV)) {R : Result → Shared → Prop} :
    ∀ (r j bi : Nat) (bq : TK2) (s : Shared) (vb : Value) (c : Nat), ts.length - (j + 1) = r → j + 1 ≤ ts.length → s.heap.IsListIter I a (j + 1) → s.heap.IsList a cvs.toArray → TK base s.heap → bi ≤ j → ts[bi]? = some bq → cvs[bi]? = some vb → (∀ i q, i ≤ j → ts[i]? = some q → bq.1 ≤ q.1) →
    s.heap.get? S = some { cls := .type "list", dict := none, data := .seq #[vb, vb] c, slots := #[] } →
    (∀ (bi : Nat) (bq : TK2) (vb : Value) (h' : Heap) (tk : Nat), ts[bi]? = some bq → cvs[bi]? = some vb → (∀ q ∈ ts, bq.1 ≤ q.1) → (∀ b o, b ∉ [I] → b ≠ S → s.heap.get? b = some o → h'.get? b = some o) → R (.ok (.ret vb)) { s with heap := h', toks := tk }) →
    codeAny (model prog w) A (.builtin "min.loop" ⟨[.ref I, .none, .ref S], []⟩) R s := by
  have W := Walks.list (prog := prog) (w := w) (A := A.in1) hA I a haI cvs.toArray
  have hlen : cvs.toArray.size = ts.length := by simp [hv.length]
  have hname : (toString "min" ++ toString ".loop" : String) = "min.loop" := by decide
  have hSw : S ∉ [I] := by simpa using hSI
  intro r
  induction r with
  | zero =>
    intro j bi bq s vb c hk hj hit hli tk hbi hbq hvb hmin hS hR
    have hin : j + 1 = cvs.toArray.size := by omega
    refine codeAny_builtin F.entry_min_loop ?_
    rw [Around.under_plainId F.plain_min_loop _]
    show wpAny _ A.in1 (seqItems? (.ref S) >>= _) _ _ s
    refine wpAny_bind (wpAny_seqItems hS rfl ?_)
    show wpAny _ A.in1 (tryCatch (pyNext (.ref I)) _ >>= _) _ _ s
    refine wpAny_bind (wpAny_tryCatch (W.done s _ _ (hin ▸ ⟨hit, hli⟩) fun h' tk' hk' => ?_))
    have hS' := hk' S _ hSw hS
    show wpAny _ A.in1 (updateSeq S (fun _ => #[]) >>= _) _ _ _
    refine wpAny_bind ?_
    refine wpAny_updateSeq hS' rfl (wpAny_bind (wpAny_letGo (wpAny_pure ?_)))
    refine hR bi bq vb _ tk' hbq hvb (fun q hq => ?_) fun b o hbw hbS e => (Heap.get?_update_other _ _ (Ne.symm hbS)).trans (hk' b o hbw e)
    obtain ⟨i, hi, rfl⟩ := List.mem_iff_getElem.mp hq
    exact hmin i _ (by omega) (by simp [hi])
  | succ r ih =>
    intro j bi bq s vb c hk hj hit hli tk hbi hbq hvb hmin hS hR
    have hlt : j + 1 < cvs.toArray.size := by omega
    refine codeAny_builtin F.entry_min_loop ?_
    rw [Around.under_plainId F.plain_min_loop _]
    show wpAny _ A.in1 (seqItems? (.ref S) >>= _) _ _ s
    refine wpAny_bind (wpAny_seqItems hS rfl ?_)
    show wpAny _ A.in1 (tryCatch (pyNext (.ref I)) _ >>= _) _ _ s
    refine wpAny_bind (wpAny_tryCatch (W.item (j + 1) s _ _ hlt ⟨hit, hli⟩ fun v h' tk' hP hst' hk' => ?_))
    have hP' : cvs[j + 1]? = some v := by simpa using hP
    have hS' := hk' S _ hSw hS
    have tk1 : TK s.heap h' := by
      obtain ⟨o, hoI, hcI, _⟩ := hit
      exact tk_but (wr := [I]) hk' fun b hb => by rw [List.mem_singleton.mp hb]; exact not_tup hoI hcI (by decide)
    have tkh := tk.trans tk1
    obtain ⟨q, hq⟩ : ∃ q, ts[j + 1]? = some q := ⟨ts[j + 1]'(by omega), by simp⟩
    obtain ⟨x, t1, u1, n1, hx1, hx2⟩ := tk_at (hv.mono tkh) hq
    obtain ⟨y, t2, u2, n2, hy1, hy2⟩ := tk_at (hv.mono tkh) hbq
    rw [hP'] at hx1; cases hx1
    rw [hvb] at hy1; cases hy1
    have hne : q.1 ≠ bq.1 := fun e => by have := hd _ _ _ _ hq hbq e; omega
    show wpAny _ A.in1 (tryCatch (holding [.ref x, .ref x] (richCompare .Lt (.ref x) (.ref y) >>= _)) _ >>= _) _ _ _
    refine wpAny_bind (wpAny_tryCatch (wpAny_holding (wpAny_bind (lt_tups (s := { s with heap := h', toks := tk' }) hx2 hy2 hne (by show A.units + 1 < _; omega) ?_))))
    refine wpAny_bind (wpAny_holding (wpAny_truthy_bool ?_))
    refine wpAny_bind (wpAny_letGo (wpAny_pure ?_))
    by_cases hb : q.1 < bq.1
    · rw [decide_eq_true hb]
      simp only [if_true]
      refine wpAny_bind ?_
      refine wpAny_updateSeq hS' rfl (wpAny_bind (wpAny_letGo ?_))
      rw [hname]
      have oth : ∀ b, b ≠ S → ∀ o, h'.get? b = some o → (h'.update S (Obj.mapSeq fun _ => #[.ref x, .ref x])).get? b = some o := fun b hb o e => (Heap.get?_update_other _ _ (Ne.symm hb)).trans e
      refine wpAny_pure ⟨plainId_quiet F.plain_min_loop _, ih (j + 1) (j + 1) q _ (.ref x) _ (by omega) (by omega) (hst'.1.at fun o e => oth I (Ne.symm hSI) o e) (let ⟨o, ho, rr⟩ := hst'.2; ⟨o, oth a (Ne.symm hSa) o ho, rr⟩) ?_ (Nat.le_refl _) hq hP' (fun i q' hi hq' => ?_) (Heap.get?_update_self _ hS' rfl) fun bi bq vb h'' tk'' e1 e2 e3 hk'' => ?_⟩
      · exact tkh.trans fun b cc nn e => oth b (fun q => by rw [q, hS'] at e; exact absurd (Value.type.inj (congrArg Obj.cls (Option.some.inj e))) (by decide)) _ e
      · by_cases e : i = j + 1
        · subst e; rw [hq] at hq'; cases hq'; exact Int.le_refl _
        · have := hmin i q' (by omega) hq'; omega
      · exact hR bi bq vb h'' tk'' e1 e2 e3 fun b o hbw hbS e => hk'' b o hbw hbS (oth b hbS o (hk' b o hbw e))
    · rw [decide_eq_false hb]
      simp only [Bool.false_eq_true, if_false]
      refine wpAny_bind (wpAny_letGo ?_)
      rw [hname]
      refine wpAny_pure ⟨plainId_quiet F.plain_min_loop _, ih (j + 1) bi bq _ (.ref y) c (by omega) (by omega) hst'.1 hst'.2 tkh (by omega) hbq hvb (fun i q' hi hq' => ?_) hS' fun bi bq vb h'' tk'' e1 e2 e3 hk'' => ?_⟩
      · by_cases e : i = j + 1
        · subst e; rw [hq] at hq'; cases hq'; omega
        · exact hmin i q' (by omega) hq'
      · exact hR bi bq vb h'' tk'' e1 e2 e3 fun b o hbw hbS e => hk'' b o hbw hbS (hk' b o hbw e)
/-- min(a list of (time, key)), the times different -/
theorem bf_min_tk {Q : V → St → Prop} (hm : (a, ob) ∈ σ) (hl : ob.peel = .list (ts.map tkV)) (hne : ts ≠ []) (hd : ∀ (i j : Nat) (p q : TK2), ts[i]? = some p → ts[j]? = some q → p.1 = q.1 → i = j) (hq : ∀ q ∈ ts, (∀ q' ∈ ts, q.1 ≤ q'.1) → Q (tkV q) σ) : EvF prog w Bs k (.builtin "min") [.ref a] σ Q := by
  intro A g s Qc Ec vs hA hB R rs hQ
  cases rs with
  | cons r rs =>
    cases r; cases rs
    obtain ⟨cl, n, ho, rl⟩ := R.list_at hm hl
    have hname : (toString "min" ++ toString ".loop" : String) = "min.loop" := by decide
    refine call_function_tree F.kind_min F.plain_min F.entry_min (F.args_min1 _) ?_
    show wpAny _ A.in1 (Builtin.Builtins.bindParams "min" ["key", "default"] 0 ⟨[], []⟩ >>= _) _ _ s
    refine wpAny_bind (wpAny_of_eq (show Builtin.Builtins.bindParams "min" ["key", "default"] 0 ⟨[], []⟩ = pure [none, none] from rfl) ?_)
    refine wpAny_bind (wpAny_pure ?_)
    refine wpAny_bind (wpAny_pyIter_list ⟨_, ho, rfl, n, rfl⟩ ?_)
    refine wpAny_bind (wpAny_newObj_type ?_)
    rw [hname]
    have hal : a < s.heap.objs.size := Heap.lt_size ho
    have haI : a ≠ s.heap.objs.size := Nat.ne_of_lt hal
    have hlen : cl.toArray.size = ts.length := by simp [rl.length]
    have hpos : 0 < ts.length := List.length_pos_iff.mpr hne
    have kpI := push_keep s.heap { cls := .type "list_iterator", data := .fields #[.ref a, .int 0 0] }
    have kpS := push_keep (s.heap.push { cls := .type "list_iterator", data := .fields #[.ref a, .int 0 0] }) { cls := .type "list", dict := none, data := .seq #[] 0, slots := #[] }
    have hIs : (s.heap.push { cls := .type "list_iterator", data := .fields #[.ref a, .int 0 0] }).objs.size = s.heap.objs.size + 1 := Heap.size_push ..
    have hSI : s.heap.objs.size + 1 ≠ s.heap.objs.size := by omega
    have hSa : s.heap.objs.size + 1 ≠ a := Nat.ne_of_gt (Nat.lt_succ_of_lt hal)
    have W := Walks.list (prog := prog) (w := w) (A := A.in1) hA.1 s.heap.objs.size a haI cl.toArray
    refine wpAny_pure ⟨plainId_quiet F.plain_min_loop _, codeAny_builtin F.entry_min_loop ?_⟩
    rw [Around.under_plainId F.plain_min_loop _]
    rw [hIs]
    have hS0 : ((s.heap.push { cls := .type "list_iterator", data := .fields #[.ref a, .int 0 0] }).push { cls := .type "list", dict := none, data := .seq #[] 0, slots := #[] }).get? (s.heap.objs.size + 1) = some { cls := .type "list", dict := none, data := .seq #[] 0, slots := #[] } := by
      rw [← hIs]; exact Heap.get?_push_size _ rfl
    show wpAny _ A.in1 (seqItems? (.ref (s.heap.objs.size + 1)) >>= _) _ _ _
    refine wpAny_bind (wpAny_seqItems hS0 rfl ?_)
    show wpAny _ A.in1 (tryCatch (pyNext (.ref s.heap.objs.size)) _ >>= _) _ _ _
    refine wpAny_bind (wpAny_tryCatch (W.item 0 _ _ _ (by omega) ⟨⟨_, kpS _ _ (Heap.get?_push_size _ rfl), rfl, rfl⟩, ⟨_, kpS _ _ (kpI _ _ ho), rfl, n, rfl⟩⟩ fun v h1 tk1 hP st1 kp1 => ?_))
    have hP' : cl[0]? = some v := by simpa using hP
    obtain ⟨q0, hq0⟩ : ∃ q, ts[0]? = some q := ⟨ts[0]'hpos, by simp⟩
    have kp01 : ∀ b o, s.heap.get? b = some o → h1.get? b = some o := fun b o e => kp1 b o (by simpa using Nat.ne_of_lt (Heap.lt_size e)) (kpS _ _ (kpI _ _ e))
    have hS1 := kp1 (s.heap.objs.size + 1) _ (by simpa using hSI) hS0
    show wpAny _ A.in1 (updateSeq (s.heap.objs.size + 1) (fun _ => #[v, v]) >>= _) _ _ _
    refine wpAny_bind ?_
    refine wpAny_updateSeq hS1 rfl ?_
    rw [hname]
    have oth : ∀ b, b ≠ s.heap.objs.size + 1 → ∀ o, h1.get? b = some o → (h1.update (s.heap.objs.size + 1) (Obj.mapSeq fun _ => #[v, v])).get? b = some o := fun b hb o e => (Heap.get?_update_other _ _ (Ne.symm hb)).trans e
    have kp2 : ∀ b o, s.heap.get? b = some o → (h1.update (s.heap.objs.size + 1) (Obj.mapSeq fun _ => #[v, v])).get? b = some o := fun b o e => oth b (Nat.ne_of_lt (Nat.lt_succ_of_lt (Heap.lt_size e))) o (kp01 b o e)
    refine wpAny_pure ⟨plainId_quiet F.plain_min_loop _, min_loop (base := s.heap) hA.1 (by have := hA.2.2; omega) haI hSI hSa hd rl (ts.length - (0 + 1)) 0 0 q0 _ v _ rfl hpos (st1.1.at fun o e => oth _ (Ne.symm hSI) o e) (let ⟨o, ho, rr⟩ := st1.2; ⟨o, oth a (Ne.symm hSa) o ho, rr⟩) (.of_keep kp2) (Nat.le_refl _) hq0 hP' (fun i q hi hq => ?_) (Heap.get?_update_self _ hS1 rfl) fun bi bq vb h' tk e1 e2 e3 hk => ?_⟩
    · have : i = 0 := by omega
      subst this
      rw [hq0] at hq; cases hq; exact Int.le_refl _
    · have kp3 : ∀ b o, s.heap.get? b = some o → h'.get? b = some o := fun b o e => hk b o (by simpa using Nat.ne_of_lt (Heap.lt_size e)) (Nat.ne_of_lt (Nat.lt_succ_of_lt (Heap.lt_size e))) (kp2 b o e)
      obtain ⟨x, t, u, nn, hx1, hx2⟩ := tk_at (rl.mono (.of_keep kp3)) e1
      rw [e2] at hx1; cases hx1
      exact hQ _ _ σ h' tk (hq bq (List.mem_of_getElem? e1) e3) (R.ext kp3) (.tup hx2 (.cons (.int ..) (.cons (.str ..) .nil))) (.of_keep kp3)
-- sorted
def fstAt (ts : List TK2) (i : Nat) : Int := (ts.getD i (0, "")).1
theorem ask_tk (hu : A.units < cLine) (hv : VRs s.heap cvs (ts.map tkV)) (hd : ∀ (i j : Nat) (p q : TK2), ts[i]? = some p → ts[j]? = some q → p.1 = q.1 → i = j) : Orac ts.length (fstAt ts) (kas_ask prog w A (tuples' true) cvs) s := by
  have get : ∀ i, i < ts.length → ts[i]? = some (ts.getD i (0, "")) := fun i hi => by simp [hi]
  have cget : ∀ i c, cvs[i]? = some c → cvs.getD i Value.none = c := fun i c e => by rw [List.getD_eq_getElem?_getD, e]; rfl
  refine ⟨fun i j hi hj e => hd i j _ _ (get i hi) (get j hj) e, fun i j C hi hj hC => ?_⟩
  obtain ⟨x, t1, u1, n1, hx1, hx2⟩ := tk_at hv (get i hi)
  obtain ⟨y, t2, u2, n2, hy1, hy2⟩ := tk_at hv (get j hj)
  unfold kas_ask
  rw [cget i _ hx1, cget j _ hy1]
  refine kat_lt hx2 rfl hy2 rfl ?_
  show KatLex prog w A true false C [(Value.int (ts.getD i (0, "")).1 t1, Value.int (ts.getD j (0, "")).1 t2), (Value.str (ts.getD i (0, "")).2 u1, Value.str (ts.getD j (0, "")).2 u2)] 0 s
  refine kat_cons (wpAny_eqBool_int ?_)
  by_cases e : (ts.getD i (0, "")).1 = (ts.getD j (0, "")).1
  · have hij := hd i j _ _ (get i hi) (get j hj) e
    subst hij
    rw [show ((ts.getD i (0, "")).1 == (ts.getD i (0, "")).1) = true by simp]
    refine kat_yes (kat_cons (eqBool_str ?_))
    rw [show ((ts.getD i (0, "")).2 == (ts.getD i (0, "")).2) = true by simp]
    refine kat_yes (kat_nil ?_)
    have : decide (fstAt ts i < fstAt ts i) = false := decide_eq_false (by omega)
    rw [this] at hC
    exact hC
  · rw [show ((ts.getD i (0, "")).1 == (ts.getD j (0, "")).1) = false by simpa using e]
    refine kat_no ?_
    exact oneLt_int hC
theorem kat_tups_of : ∀ {cvs : List Value} {ts : List TK2}, VRs h cvs (ts.map tkV) → ∃ fs : List Value, KatTups h cvs fs ∧ fs.length = ts.length ∧ ∀ v ∈ fs, ∃ i t, v = .int i t
  | _, [], .nil => ⟨[], .nil, rfl, by simp⟩
  | _, q :: ts, .cons r rs => by
    obtain ⟨fs, h1, h2, h3⟩ := kat_tups_of rs
    cases r with
    | tup ho rr =>
      cases rr with
      | cons r1 rr =>
        cases r1
        rename_i t0
        exact ⟨.int q.1 t0 :: fs, .cons ho rfl rfl rfl h1, by simp [h2], fun v hv => by
          rcases List.mem_cons.mp hv with rfl | hv
          · exact ⟨_, _, rfl⟩
          · exact h3 v hv⟩
/-- what comes out, of an arrangement -/
theorem out_tk (hv : VRs h cvs (ts.map tkV)) {p : Array Nat} (hp : Arr ts.length p) (hs : Srt (fstAt ts) p ts.length) :
    ∃ ts' : List TK2, ts'.Perm ts ∧ ts'.Pairwise (fun a b => a.1 < b.1) ∧ VRs h (p.toList.map fun i => cvs.getD i Value.none) (ts'.map tkV) := by
  have hpl : p.toList.Perm (List.range ts.length) := by simpa using Array.perm_iff_toList_perm.mp hp
  refine ⟨p.toList.map fun i => ts.getD i (0, ""), ?_, ?_, ?_⟩
  · have h1 := hpl.map fun i => ts.getD i (0, "")
    have h2 : ((List.range ts.length).map fun i => ts.getD i (0, "")) = ts := by
      refine List.ext_getElem (by simp) fun i h1 h2 => ?_
      simp at h1
      simp [h1]
    rw [h2] at h1
    exact h1
  · rw [List.pairwise_iff_getElem]
    intro i j hi hj hij
    simp only [List.length_map, Array.length_toList] at hi hj
    have hsz := hp.size
    have := hs i j hij (by omega)
    unfold key at this
    rw [Array.getD_eq_getD_getElem?, Array.getD_eq_getD_getElem?] at this
    simpa [hi, hj, fstAt] using this
  · have : ∀ l : List Nat, (∀ i ∈ l, i < ts.length) → VRs h (l.map fun i => cvs.getD i Value.none) ((l.map fun i => ts.getD i (0, "")).map tkV) := by
      intro l
      induction l with
      | nil => intro _; exact .nil
      | cons i l ih =>
        intro hl
        have hi := hl i (.head _)
        obtain ⟨c, hc, r⟩ := hv.get (i := i) (x := tkV (ts.getD i (0, ""))) (by rw [List.getElem?_map]; simp [hi])
        refine .cons ?_ (ih fun j hj => hl j (.tail _ hj))
        show VR h (cvs.getD i Value.none) (tkV (ts.getD i (0, "")))
        rw [show cvs.getD i Value.none = c by rw [List.getD_eq_getElem?_getD, hc]; rfl]
        exact r
    exact this _ fun i hi => List.mem_range.mp (hpl.subset hi)
theorem list_sort_tk {n : Nat} {P : PySem.Fin → Shared → Prop} (ho : s.heap.get? a = some (seqObj "list" cvs.toArray n)) (hv : VRs s.heap cvs (ts.map tkV)) (hd : ∀ (i j : Nat) (p q : TK2), ts[i]? = some p → ts[j]? = some q → p.1 = q.1 → i = j) (h64 : ts.length < 64) (hu : A.units < cLine)
    (h : ∀ (out : List Value) (ts' : List TK2), ts'.Perm ts → ts'.Pairwise (fun a b => a.1 < b.1) → VRs s.heap out (ts'.map tkV) → P (.done (.ret .none)) { s with heap := sortedHeap s.heap a cvs out.toArray }) : wpAny (model prog w) A (Builtin.«list.sort» ⟨[.ref a], []⟩) P E s := by
  have hl : cvs.length = ts.length := by simpa using hv.length
  have ha : a < s.heap.objs.size := Heap.lt_size ho
  obtain ⟨e1, ho1⟩ : ∃ e1, (s.heap.update a (Obj.mapSeq fun _ => (#[] : Array Value))).get? a = some (seqObj "list" #[] e1) := ⟨_, get?_update_seq ho fun _ => #[]⟩
  have ho6 : (((s.heap.update a (Obj.mapSeq fun _ => (#[] : Array Value))).push (seqObj "tuple" cvs.toArray 0)).push (seqObj "list" #[] 0)).get? a = some (seqObj "list" #[] e1) := Heap.get?_push_of_some _ (Heap.get?_push_of_some _ ho1)
  have tk6 : TK s.heap (((s.heap.update a (Obj.mapSeq fun _ => (#[] : Array Value))).push (seqObj "tuple" cvs.toArray 0)).push (seqObj "list" #[] 0)) := fun b c k e =>
    Heap.get?_push_of_some _ (Heap.get?_push_of_some _ ((Heap.get?_update_other _ _ fun q => by
      rw [← q, ho] at e
      exact absurd (Value.type.inj (congrArg Obj.cls (Option.some.inj e))) (by decide)).trans e))
  rw [list_sort_plain]
  refine wpAny_bind (listItems_at ho rfl ?_)
  refine wpAny_bind (listUpdate_at ho rfl ?_ (by rw [List.size_toArray, sizeLine_eq]; omega) (Nat.zero_le _))
  refine wpAny_bind (seqEpoch_at ho1 rfl ?_)
  refine wpAny_bind (wpAny_newTuple ?_ (by show cvs.length ≤ _; rw [sizeLine_eq]; omega))
  refine wpAny_bind (wpAny_newList ?_ (Nat.zero_le _))
  refine wpAny_holding ?_
  show wpAny (model prog w) A _ P E { s with heap := ((s.heap.update a (Obj.mapSeq fun _ => (#[] : Array Value))).push (seqObj "tuple" cvs.toArray 0)).push (seqObj "list" #[] 0) }
  dsimp only
  by_cases h2 : cvs.toArray.size < 2
  · rw [if_pos h2, if_pos h2]
    rw [List.size_toArray] at h2
    refine wpAny_bind (wpAny_pure ?_)
    rw [StateT.run_pure]
    refine wpAny_bind (wpAny_pure ?_)
    dsimp only
    have eout : (arrOf (SortSt.mk' general' (cvs.toArray.zip cvs.toArray) #[] 7 none)).map (·.2) = cvs.toArray := by
      show ((cvs.toArray.zip cvs.toArray).map (·.2)) = cvs.toArray
      apply Array.toList_inj.mp
      simp [List.map_snd_zip]
    rw [eout]
    refine wpAny_bind (seqEpoch_at ho6 rfl ?_)
    refine wpAny_bind (listUpdate_at ho6 rfl ?_ (Nat.zero_le _) (by rw [List.size_toArray, sizeLine_eq]; omega))
    simp only [bne_self_eq_false, Bool.false_eq_true, if_false]
    refine wpAny_pure (h cvs ts (.refl _) ?_ hv)
    match ts, hl with
    | [], _ => exact .nil
    | [_], _ => exact List.pairwise_singleton _ _
    | _ :: _ :: _, hl => simp at hl; omega
  · rw [if_neg h2, if_neg h2]
    rw [List.size_toArray] at h2
    obtain ⟨fs, f1, f2, f3⟩ := kat_tups_of (hv.mono tk6)
    refine wpAny_bind (kat_kind (s := { s with heap := ((s.heap.update a (Obj.mapSeq fun _ => (#[] : Array Value))).push (seqObj "tuple" cvs.toArray 0)).push (seqObj "list" #[] 0) }) (T := .type "int") f1 (by omega) (fun v hv => by
      obtain ⟨i, t, rfl⟩ := f3 v hv
      exact .of_pure rfl) rfl ?_)
    have O := ask_tk (prog := prog) (w := w) (A := A) (s := { s with heap := ((s.heap.update a (Obj.mapSeq fun _ => (#[] : Array Value))).push (seqObj "tuple" cvs.toArray 0)).push (seqObj "list" #[] 0) }) hu (hv.mono tk6) hd
    refine wpAny_bind (wpAny_mono (kat_run (κ := tuples' true) (ks := cvs) (vs := cvs) (Q := fun st' s' => ∃ p : Array Nat, Arr ts.length p ∧ Srt (fstAt ts) p ts.length ∧ arrOf st' = p.map (kas_item (cvs.toArray.zip cvs.toArray)) ∧ failedOf st' = none ∧ s' = { s with heap := ((s.heap.update a (Obj.mapSeq fun _ => (#[] : Array Value))).push (seqObj "tuple" cvs.toArray 0)).push (seqObj "list" #[] 0) })
      (G := fun p s' => Arr ts.length p ∧ Srt (fstAt ts) p ts.length ∧ s' = { s with heap := ((s.heap.update a (Obj.mapSeq fun _ => (#[] : Array Value))).push (seqObj "tuple" cvs.toArray 0)).push (seqObj "list" #[] 0) })
      rfl (by omega) (by omega) (fun p st' s' q1 q2 q3 q4 => ⟨p, q4.1, q4.2.1, q2, q3, q4.2.2⟩) (by rw [hl]; exact sort_ok O (by omega) fun p hp hs => ⟨hp, hs, rfl⟩)) ?_ fun _ _ e => e)
    rintro ⟨⟨⟩, st'⟩ s' ⟨p, hp, hs, har, hf, rfl⟩
    dsimp only
    have hout := kat_snds (ks := cvs) (vs := cvs) rfl har
    rw [hout]
    obtain ⟨ts', t1, t2, t3⟩ := out_tk hv hp hs
    have hsz : (p.toList.map fun i => cvs.getD i Value.none).length = ts.length := by rw [List.length_map, Array.length_toList, hp.size]
    refine wpAny_bind (seqEpoch_at ho6 rfl ?_)
    refine wpAny_bind (listUpdate_at ho6 rfl ?_ (Nat.zero_le _) (by rw [List.size_toArray, hsz, sizeLine_eq]; omega))
    rw [hf]
    simp only [bne_self_eq_false, Bool.false_eq_true, if_false]
    exact wpAny_pure (h _ ts' t1 t2 t3)
/-- sorted(a list of (time, key)), the times different -/
theorem bf_sorted_tk {Q : V → St → Prop} (hm : (a, ob) ∈ σ) (hl : ob.peel = .list (ts.map tkV)) (hz : ts.length < 64) (hd : ∀ (i j : Nat) (p q : TK2), ts[i]? = some p → ts[j]? = some q → p.1 = q.1 → i = j)
    (hq : ∀ (c : Addr) (ts' : List TK2), ts'.Perm ts → ts'.Pairwise (fun a b => a.1 < b.1) → Q (.ref c) ((c, .list (ts'.map tkV)) :: σ)) : EvF prog w Bs k (.builtin "sorted") [.ref a] σ Q := by
  intro A g s Qc Ec vs hA hB R rs hQ
  cases rs with
  | cons r rs =>
    cases r; cases rs
    obtain ⟨cl, n, ho, rl⟩ := R.list_at hm hl
    have hcl : cl.length = ts.length := by simpa using rl.length
    refine Calls.call_function_entry kind_sorted plain_sorted entry_sorted (args_sorted1 _) ?_
    unfold Builtin.«sorted»
    refine wpAny_bind (m := checkCount "sorted" 1 1 _) (wpAny_pure ?_)
    refine wpAny_bind (collect_list ⟨_, ho, rfl, n, rfl⟩ ?_ (by rw [sizeLine_eq]; omega))
    refine wpAny_bind (wpAny_newList ?_ (by rw [sizeLine_eq]; omega))
    have hsz : ((s.heap.push (seqObj "list" #[] 0)).update s.heap.objs.size (Obj.mapSeq (· ++ cl.toArray))).objs.size = s.heap.objs.size + 1 := by
      rw [Heap.size_update, size_push']
    have hoL : (((s.heap.push (seqObj "list" #[] 0)).update s.heap.objs.size (Obj.mapSeq (· ++ cl.toArray))).push (seqObj "list" cl.toArray 0)).get? (s.heap.objs.size + 1) = some (seqObj "list" cl.toArray 0) := by
      rw [← hsz]; exact Heap.get?_push_size _ rfl
    have kp : ∀ b o, s.heap.get? b = some o → (((s.heap.push (seqObj "list" #[] 0)).update s.heap.objs.size (Obj.mapSeq (· ++ cl.toArray))).push (seqObj "list" cl.toArray 0)).get? b = some o := fun b o e =>
      Heap.get?_push_of_some _ ((Heap.get?_update_other _ _ (Nat.ne_of_gt (Heap.lt_size e))).trans (Heap.get?_push_of_some _ e))
    show wpAny _ _ _ _ _ { s with heap := ((s.heap.push (seqObj "list" #[] 0)).update s.heap.objs.size (Obj.mapSeq (· ++ cl.toArray))).push (seqObj "list" cl.toArray 0) }
    rw [hsz]
    refine wpAny_bind (wpAny_holding (wpAny_call_entry slot_list_sort ⟨_, hoL, rfl⟩ entry_list_sort (list_sort_tk (s := { s with heap := ((s.heap.push (seqObj "list" #[] 0)).update s.heap.objs.size (Obj.mapSeq (· ++ cl.toArray))).push (seqObj "list" cl.toArray 0) }) hoL (rl.mono (.of_keep kp)) hd hz (by show A.units + 1 + 1 < _; have := hA.2.2; omega) fun out ts' p1 p2 p3 => ⟨_, rfl, ?_⟩) (args_list_sort _)))
    refine wpAny_pure ⟨_, rfl, ?_⟩
    obtain ⟨e, hat⟩ := sortedHeap_at (out := out.toArray) hoL
    have kp2 : ∀ b o, s.heap.get? b = some o → (sortedHeap (((s.heap.push (seqObj "list" #[] 0)).update s.heap.objs.size (Obj.mapSeq (· ++ cl.toArray))).push (seqObj "list" cl.toArray 0)) (s.heap.objs.size + 1) cl out.toArray).get? b = some o := fun b o eb =>
      (sortedHeap_old (Nat.ne_of_lt (Nat.lt_succ_of_lt (Heap.lt_size eb))) (Heap.lt_size (kp b o eb))).trans (kp b o eb)
    have tk2 : TK (((s.heap.push (seqObj "list" #[] 0)).update s.heap.objs.size (Obj.mapSeq (· ++ cl.toArray))).push (seqObj "list" cl.toArray 0)) (sortedHeap (((s.heap.push (seqObj "list" #[] 0)).update s.heap.objs.size (Obj.mapSeq (· ++ cl.toArray))).push (seqObj "list" cl.toArray 0)) (s.heap.objs.size + 1) cl out.toArray) := fun b c nn eb =>
      (sortedHeap_old (fun q => by rw [q, hoL] at eb; exact absurd (Value.type.inj (congrArg Obj.cls (Option.some.inj eb))) (by decide)) (Heap.lt_size eb)).trans eb
    exact hQ _ _ _ _ s.toks (hq _ ts' p1 p2) (R.new (o := lstO out e) kp2 (Nat.le_succ _) hat ⟨_, e, rfl, p3.mono tk2⟩) (.ref _) (.of_keep kp2)
end
end Mine

set_option Elab.async false
set_option linter.unusedVariables false
set_option maxRecDepth 100000
namespace Mine
open PySem PyProof.Rows PySem.Calls PySem.W PySem.Spec

section
variable {prog : Program} {w : World} {A : Around} {E : Value → Shared → Prop} {R : Result → Shared → Prop} {s : Shared}
/-- a comprehension's loop, whatever its target -/
theorem compLoop_tests2 {elt target iter : Expr} {ifs : List Expr} {scope : Scope} {pos : Pos} {it acc : Value} {env : Env} (I : Nat → Shared → Prop)
    (turn : ∀ n s, I n s → wpAny (model prog w) A (pyNext it) (fun r s₁ => match r with
      | none => R (.ok .next) s₁
      | some v => wpAny (model prog w) A (letOwnedTupleGo target it v) (fun _ s₁ => wpAny (model prog w) A (assign target env v) (fun _ s₂ =>
          wpAny (model prog w) A (testsOf ifs env) (fun ok s₃ =>
            if ok = true then wpAny (model prog w) A (eval elt env) (fun x s₄ =>
              wpAny (model prog w) A (call (.builtin "list.append") [acc, x]) (fun _ s₅ => ∃ m, m < n ∧ I m s₅) (notedBy (model prog w) A env fun e s' => R (.error e) s') s₄) (notedBy (model prog w) A env fun e s' => R (.error e) s') s₃
            else ∃ m, m < n ∧ I m s₃) (notedBy (model prog w) A env fun e s' => R (.error e) s') s₂) (notedBy (model prog w) A env fun e s' => R (.error e) s') s₁) (notedBy (model prog w) A env fun e s' => R (.error e) s') s₁) (notedBy (model prog w) A env fun e s' => R (.error e) s') s)
    (n : Nat) (h : I n s) :
    codeAny (model prog w) A (.compLoop (.ListComp elt [⟨target, iter, ifs, 0⟩] scope pos) 0 it acc env) R s := by
  refine codeAny_loop rfl I (fun n s hI => ?_) n h
  show wpAny _ A ((compTurn (.ListComp elt [⟨target, iter, ifs, 0⟩] scope pos) 0 it acc env).onRaise (fun x => do noteFrame x env; theTreesLotGoes x)) _ _ s
  refine wpAny_noted ?_
  rw [compTurn_list]
  refine wpAny_bind (wpAny_standAt (wpAny_bind (wpAny_mono (turn n s hI) (fun r s₁ h₁ => ?_) fun _ _ h' => h')))
  cases r with
  | none => exact wpAny_pure h₁
  | some v =>
    refine wpAny_bind (wpAny_mono h₁ (fun _ s₁ h₁ => ?_) fun _ _ h' => h')
    refine wpAny_bind (wpAny_mono h₁ (fun _ s₂ h₂ => wpAny_bind (wpAny_mono h₂ (fun ok s₃ h₃ => ?_) fun _ _ h' => h')) fun _ _ h' => h')
    cases ok with
    | false => exact wpAny_pure ⟨rfl, h₃⟩
    | true =>
      exact wpAny_bind (wpAny_bind (wpAny_mono h₃ (fun x s₄ h₄ => wpAny_bind (wpAny_mono h₄ (fun _ s₅ h₅ => wpAny_pure (wpAny_pure ⟨rfl, h₅⟩)) fun _ _ h' => h')) fun _ _ h' => h'))
end
section
variable {prog : Program} {w : World} {Bs : Heap} {k : Nat} {env : Env} {m : Env'} {σ : St} {g g' h h' : Heap} {L a : Addr} {ob : O} {vs : List V}

variable (prog w Bs) in
/-- a comprehension's turns -/
def CompBT (k : Nat) (env : Env) (bnd : Env' → V → Env') (ifs : List Expr) (elt : Expr) (need : St → Prop) (Q : List V → St → Prop) : List V → List V → St → Prop
  | [], acc, σ => Q acc σ
  | v :: r, acc, σ => EvT prog w Bs k env ifs (bnd [] v) σ fun ok σ1 => if ok then EvE prog w Bs k env elt (bnd [] v) σ1 fun u σ2 => ∃ σ3, SubP σ3 σ2 ∧ need σ3 ∧ CompBT k env bnd ifs elt need Q r (acc ++ [u]) σ3
      else ∃ σ3, SubP σ3 σ1 ∧ need σ3 ∧ CompBT k env bnd ifs elt need Q r acc σ3
theorem comp_loopT {scope : Scope} {cl : List (Str × Addr)} {target : Expr} {bnd : Env' → V → Env'} {pos : Pos} {ifs : List Expr} {elt iter : Expr} {I C D : Addr} {fp wr : List Addr} {need : St → Prop} {S : Nat → Heap → Prop} {g0 : Heap} (W : Iter prog w I fp wr vs need S) (hsz : vs.length ≤ sizeLine)
    {A : Around} {s : Shared} {Q : List V → St → Prop} {RR : Result → Shared → Prop} (hA : AOk k A) (hB : ∀ b o, Bs.get? b = some o → g0.get? b = some o)
    (hasg : ∀ (i : Nat) (v : V), vs[i]? = some v → AsgT prog w k (compEnvC scope cl C env) target v bnd) (hown : ∀ (i : Nat) (v : V), vs[i]? = some v → ∀ cv (s : Shared) (Qc : Unit → Shared → Prop) (Ec : Value → Shared → Prop), VR s.heap cv v → S (i + 1) s.heap → Qc () s → wpAny (model prog w) A (letOwnedTupleGo target (.ref I) cv) Qc Ec s)
    (hbnd : ∀ m v y u, (bnd [] v).lookup y = some u → (bnd m v).lookup y = some u)
    (R : Rel prog w g0 C [] σ s.heap) (hC : g0.get? C = none) (hD : g0.get? D = none) (hDC : D ≠ C) (hDσ : ∀ p ∈ σ, p.1 ≠ D) (hDo : s.heap.get? D = some (lstO [] 0)) (hst : S 0 s.heap) (hfp : ∀ b ∈ fp, b ≠ C ∧ b ≠ D ∧ ∀ p ∈ σ, p.1 ≠ b) (hwr : ∀ b ∈ wr, g0.get? b = none) (hn : need σ)
    (h : CompBT prog w Bs k (compEnvC scope cl C env) bnd ifs elt need Q vs [] σ)
    (hRR : ∀ acc σ' h' tk m', Q acc σ' → Rel prog w g0 C m' σ' h' → (∃ cacc n, h'.get? D = some (lstO cacc n) ∧ VRs h' cacc acc) → (∀ p ∈ σ', p.1 ≠ D) → TK s.heap h' → RR (.ok .next) { s with heap := h', toks := tk }) :
    codeAny (model prog w) A (.compLoop (.ListComp elt [⟨target, iter, ifs, 0⟩] scope pos) 0 (.ref I) (.ref D) (compEnvC scope cl C env)) RR s := by
  refine compLoop_tests2 (fun n s' => ∃ i m σ h tk acc cacc cn, s' = { s with heap := h, toks := tk } ∧ i ≤ vs.length ∧ n = vs.length - i ∧ Rel prog w g0 C m σ h ∧ S i h ∧ (∀ b ∈ fp, b ≠ C ∧ b ≠ D ∧ ∀ p ∈ σ, p.1 ≠ b) ∧ need σ ∧
      CompBT prog w Bs k (compEnvC scope cl C env) bnd ifs elt need Q (vs.drop i) acc σ ∧ h.get? D = some (lstO cacc cn) ∧ VRs h cacc acc ∧ acc.length ≤ i ∧ (∀ p ∈ σ, p.1 ≠ D) ∧ TK s.heap h) ?_ vs.length
      ⟨0, [], σ, s.heap, s.toks, [], [], 0, rfl, Nat.zero_le _, rfl, R, hst, hfp, hn, by simpa using h, hDo, .nil, Nat.le_refl _, hDσ, .refl _⟩
  rintro n s' ⟨i, m, σ, hh, tk, acc, cacc, cn, rfl, hi, rfl, R, hst, hfp, hn, hb, hDo, hacc, hal, hDσ, ht⟩
  by_cases hlt : i < vs.length
  · have hv : vs[i]? = some vs[i] := by simp [hlt]
    have hd : vs.drop i = vs[i] :: vs.drop (i + 1) := List.drop_eq_getElem_cons hlt
    rw [hd] at hb
    refine W.item A k g0 σ _ _ _ i _ hA R.rh hn hst hv fun cv h1 tk1 r1 st1 kp1 t1 => ?_
    have R1 := R.but kp1 (fun b hb => ⟨hwr b hb, (hfp b (W.sub b hb)).1, (hfp b (W.sub b hb)).2.2⟩) t1
    have hD1 : h1.get? D = some (lstO cacc cn) := kp1 D _ (fun hm => (hfp D (W.sub D hm)).2.1 rfl) hDo
    refine hown i _ hv cv _ _ _ r1 st1 ?_
    refine hasg i _ hv A g0 m σ _ cv _ _ hA hC R1 r1 fun h2 tk2 R2 t2 kp2 => ?_
    replace R2 : Rel prog w g0 C (bnd m vs[i]) σ h2 := R2
    replace kp2 : ∀ b o, b ≠ C → h1.get? b = some o → h2.get? b = some o := kp2
    replace t2 : TK h1 h2 := t2
    have hD2 : h2.get? D = some (lstO cacc cn) := kp2 D _ hDC hD1
    have st2 : S (i + 1) h2 := W.frame _ _ _ st1 (fun b hb o e => kp2 b o (hfp b hb).1 e) t2
    have le := R2.le_mask hC
    have R2e : Rel prog w g0 C (bnd [] vs[i]) σ h2 := R2.env fun y u e => hbnd m _ y u e
    have gin : ∀ b, b ≠ C → (∀ p ∈ σ, p.1 ≠ b) → (mask h2 (C :: σ.map (·.1))).get? b = h2.get? b := fun b hb hs => by
      rw [mask_out]
      intro hm
      rcases List.mem_cons.mp hm with e | hm
      · exact hb e
      · obtain ⟨p, hp, q⟩ := List.mem_map.mp hm
        exact hs p hp q
    refine hb A _ _ _ _ hA (fun b o e => le b o (hB b o e)) (R2e.masked hC) fun okc ok σ1 h3 tk3 hq R3 eok t3 => ?_
    subst eok
    have hD3 : h3.get? D = some (lstO cacc cn) := R3.rh.keep _ _ (by rw [gin D hDC hDσ]; exact hD2)
    have offD : ∀ {σ' : St} {h' : Heap}, RH prog w (mask h2 (C :: σ.map (·.1))) σ' h' → ∀ p ∈ σ', p.1 ≠ D := fun {σ' h'} R' p hp e => by
      have := (R'.own p hp).1
      rw [e, gin D hDC hDσ] at this
      have hD2' : h2.get? D = some (lstO cacc cn) := hD2
      rw [hD2'] at this; cases this
    have offF : ∀ {σ' : St} {h' : Heap}, RH prog w (mask h2 (C :: σ.map (·.1))) σ' h' → ∀ b ∈ fp, ∀ p ∈ σ', p.1 ≠ b := fun {σ' h'} R' =>
      not_in W st2 R' fun b hb o e => by rw [gin b (hfp b hb).1 (hfp b hb).2.2]; exact e
    have keepF : ∀ {σ' : St} {h' : Heap}, RH prog w (mask h2 (C :: σ.map (·.1))) σ' h' → ∀ b ∈ fp, ∀ o, h2.get? b = some o → h'.get? b = some o := fun {σ' h'} R' b hb o e =>
      R'.keep b o (by rw [gin b (hfp b hb).1 (hfp b hb).2.2]; exact e)
    cases okc with
    | true =>
      refine hq A _ _ _ _ hA (fun b o e => le b o (hB b o e)) R3 fun cu u σ2 h4 tk4 hq4 R4 ru t4 => ?_
      obtain ⟨σ3, sub, hn3, hb3⟩ := hq4
      have hD4 : h4.get? D = some (lstO cacc cn) := R4.rh.keep _ _ (by rw [gin D hDC hDσ]; exact hD2)
      have hacc4 : VRs h4 cacc acc := hacc.mono (t1.trans (t2.trans (t3.trans t4)))
      refine wpAny_list_append_plain (l := D) (items := cacc.toArray) ⟨cn, hD4⟩ (fun h5 hp5 hs5 => ?_) (by simp [hacc.length]; omega)
      obtain ⟨n', ho5⟩ := hp5
      have t5 : TK h4 h5 := list_tk hD4 hs5
      have R4' : Rel prog w g0 C (bnd [] vs[i]) σ3 h4 := (R4.less R2.rh.st le).subP sub
      have R5 : Rel prog w g0 C (bnd [] vs[i]) σ3 h5 := R4'.but (wr := [D]) (fun b o hb e => (hs5.2 b fun q => hb (by rw [q]; exact .head _)).trans e) (fun b hb => by
        rw [List.mem_singleton.mp hb]
        exact ⟨hD, hDC, fun p hp => offD R4.rh p (sub.subset hp)⟩) t5
      refine ⟨_, ?_, i + 1, _, σ3, h5, tk4, acc ++ [u], cacc ++ [cu], n', rfl, hlt, rfl, R5, ?_, ?_, hn3, hb3, by rw [ho5]; simp, (hacc4.append (.cons ru .nil)).mono t5, by simp; omega, fun p hp => offD R4.rh p (sub.subset hp), ht.trans (t1.trans (t2.trans (t3.trans (t4.trans t5))))⟩
      · omega
      · refine W.frame _ _ _ st2 (fun b hb o e => (hs5.2 b (hfp b hb).2.1).trans (keepF R4.rh b hb o e)) (t3.trans (t4.trans t5))
      · exact fun b hb => ⟨(hfp b hb).1, (hfp b hb).2.1, fun p hp => offF R4.rh b hb p (sub.subset hp)⟩
    | false =>
      obtain ⟨σ3, sub, hn3, hb3⟩ := hq
      refine ⟨_, ?_, i + 1, _, σ3, h3, tk3, acc, cacc, cn, rfl, hlt, rfl, (R3.less R2.rh.st le).subP sub, ?_, ?_, hn3, hb3, hD3, hacc.mono (t1.trans (t2.trans t3)), by omega, fun p hp => offD R3.rh p (sub.subset hp), ht.trans (t1.trans (t2.trans t3))⟩
      · omega
      · exact W.frame _ _ _ st2 (keepF R3.rh) t3
      · exact fun b hb => ⟨(hfp b hb).1, (hfp b hb).2.1, fun p hp => offF R3.rh b hb p (sub.subset hp)⟩
  · have e : i = vs.length := by omega
    subst e
    refine W.done A k g0 σ _ _ _ hA R.rh hn hst fun h1 tk1 kp1 t1 => ?_
    have R1 := R.but kp1 (fun b hb => ⟨hwr b hb, (hfp b (W.sub b hb)).1, (hfp b (W.sub b hb)).2.2⟩) t1
    rw [List.drop_length] at hb
    exact hRR acc σ h1 tk1 m hb R1 ⟨cacc, cn, kp1 D _ (fun hm => (hfp D (W.sub D hm)).2.1 rfl) hDo, hacc.mono t1⟩ hDσ (ht.trans t1)
theorem comp_coreT {scope : Scope} {cl : List (Str × Addr)} {target : Expr} {bnd : Env' → V → Env'} {pos : Pos} {ifs : List Expr} {elt iter : Expr} {I : Addr} {fp wr : List Addr} {need : St → Prop} {S : Nat → Heap → Prop} (W : Iter prog w I fp wr vs need S) (hsz : vs.length ≤ sizeLine)
    {A : Around} {s : Shared} {E : Value → Shared → Prop} {Q : List V → St → Prop} {RR : Value → Addr → Result → Shared → Prop} (hA : AOk k A) (hB : ∀ b o, Bs.get? b = some o → g.get? b = some o)
    (hkind : scope.kind = .function) (hasg : ∀ (C : Addr) (i : Nat) (v : V), vs[i]? = some v → AsgT prog w k (compEnvC scope cl C env) target v bnd) (hown : ∀ (i : Nat) (v : V), vs[i]? = some v → ∀ cv (s : Shared) (Qc : Unit → Shared → Prop) (Ec : Value → Shared → Prop), VR s.heap cv v → S (i + 1) s.heap → Qc () s → wpAny (model prog w) A (letOwnedTupleGo target (.ref I) cv) Qc Ec s)
    (hbnd : ∀ m v y u, (bnd [] v).lookup y = some u → (bnd m v).lookup y = some u) (hcell : ∀ y ∈ scope.names, y.2 ≠ .cell)
    (R : Rel prog w g L m σ s.heap) (hst : S 0 s.heap) (hfp : ∀ b ∈ fp, b ≠ L ∧ ∀ p ∈ σ, p.1 ≠ b) (hwr : ∀ b ∈ wr, g.get? b = none) (hn : need σ)
    (h : ∀ C, CompBT prog w Bs k (compEnvC scope cl C env) bnd ifs elt need Q vs [] σ)
    (hRR : ∀ D C acc σ' h' tk m', Q acc σ' → Rel prog w g L m ((D, .list acc) :: σ') h' → h'.Ns C m' → g.get? C = none → C ≠ L → C ≠ D → (∀ p ∈ σ', p.1 ≠ C) → TK s.heap h' → RR (.ref D) C (.ok .next) { s with heap := h', toks := tk }) :
    wpAny (model prog w) A (newList []) (fun acc s₃ => wpAny (model prog w) A (newFunctionEnv scope env.globals cl [] env.qual none .none (some env)) (fun cenv s₄ =>
      codeAny (model prog w) A (.compStart (.ListComp elt [⟨target, iter, ifs, 0⟩] scope pos) 0 (.ref I) acc { cenv with scope := relabel scope env }) (RR acc cenv.locals) s₄) E s₃) E s := by
  refine wpAny_newObj_type (wpAny_newFunctionEnv hcell (by intro y hy; simp at hy) (fun h₁ hns₁ hsb₁ => ?_) hkind)
  dsimp only at hns₁ hsb₁ ⊢
  generalize hH2 : s.heap.push { cls := .type "list", dict := none, data := .seq ([] : List Value).toArray } = H2 at hns₁ hsb₁ ⊢
  have hCz : H2.objs.size = s.heap.objs.size + 1 := by rw [← hH2, Heap.size_push]
  generalize hDz : s.heap.objs.size = D at *
  generalize hCC : H2.objs.size = C at *
  have hDC : D ≠ C := by rw [hCz]; exact Nat.ne_of_lt (Nat.lt_succ_self _)
  have fresh : ∀ a, s.heap.objs.size ≤ a → s.heap.get? a = none := fun a ha => get_none_of_size ha
  have hDn : s.heap.get? D = none := fresh D (by rw [hDz]; exact Nat.le_refl _)
  have hCn : s.heap.get? C = none := fresh C (by rw [hDz, hCz]; exact Nat.le_succ _)
  have hH2C : H2.get? C = none := get_none_of_size (by rw [hCC]; exact Nat.le_refl _)
  have keepH : ∀ b o, H2.get? b = some o → h₁.get? b = some o := fun b o e => (hsb₁.2 b fun q => by rw [q, hH2C] at e; cases e).trans (Heap.get?_push_of_some _ e)
  have old : ∀ b o, s.heap.get? b = some o → h₁.get? b = some o := fun b o e => keepH b o (by rw [← hH2]; exact Heap.get?_push_of_some _ e)
  have hDo : h₁.get? D = some (lstO [] 0) := keepH D _ (by rw [← hH2, ← hDz]; exact Heap.get?_push_size _ rfl)
  -- what is laid by during the loop
  have gout : ∀ b, b ∉ wr ++ σ.map (·.1) → (mask s.heap (wr ++ σ.map (·.1))).get? b = s.heap.get? b := fun b hb => mask_out hb
  have gle : ∀ b o, g.get? b = some o → (mask s.heap (wr ++ σ.map (·.1))).get? b = some o := fun b o e => by
    rw [gout]
    · exact R.rh.keep b o e
    · intro hm
      rcases List.mem_append.mp hm with hm | hm
      · rw [hwr b hm] at e; cases e
      · obtain ⟨p, hp, q⟩ := List.mem_map.mp hm
        have := (R.rh.own p hp).1
        rw [q, e] at this; cases this
  have gL : ∀ o, s.heap.get? L = some o → (mask s.heap (wr ++ σ.map (·.1))).get? L = some o := fun o e => by
    rw [gout]
    · exact e
    · intro hm
      rcases List.mem_append.mp hm with hm | hm
      · exact (hfp L (W.sub L hm)).1 rfl
      · obtain ⟨p, hp, q⟩ := List.mem_map.mp hm
        exact R.offS p hp q
  have gnone : ∀ b, s.heap.get? b = none → (mask s.heap (wr ++ σ.map (·.1))).get? b = none := fun b e => by
    cases q : (mask s.heap (wr ++ σ.map (·.1))).get? b with
    | none => rfl
    | some o => rw [mask_sub q] at e; cases e
  have offD : ∀ p ∈ σ, p.1 ≠ D := fun p hp e => by obtain ⟨_, o, ho, _⟩ := R.rh.own p hp; rw [e, hDn] at ho; cases ho
  have offC : ∀ p ∈ σ, p.1 ≠ C := fun p hp e => by obtain ⟨_, o, ho, _⟩ := R.rh.own p hp; rw [e, hCn] at ho; cases ho
  have R1 : RH prog w (mask s.heap (wr ++ σ.map (·.1))) σ h₁ :=
    ⟨fun b o e => old b o (mask_sub e), R.rh.nd, fun p hp => ⟨mask_in (List.mem_append_right _ (List.mem_map_of_mem hp)), let ⟨_, o, e, r⟩ := R.rh.own p hp; ⟨o, old _ _ e, r.mono _ _ (.of_keep old)⟩⟩,
      let ⟨o, e⟩ := R.rh.st; ⟨o, gle _ _ e⟩, R.rh.low⟩
  have Rc : Rel prog w (mask s.heap (wr ++ σ.map (·.1))) C [] σ h₁ := ⟨R1, ⟨_, hns₁, fun x v e => by simp at e⟩, offC⟩
  have st1 : S 0 h₁ := W.frame _ _ _ hst (fun b _ o e => old b o e) (.of_keep old)
  have loop : ∀ s₃ : Shared, s₃ = { s with heap := h₁, toks := s.toks + ([] : List (Str × Value)).length } →
      codeAny (model prog w) A (.compLoop (.ListComp elt [⟨target, iter, ifs, 0⟩] scope pos) 0 (.ref I) (.ref D) (compEnvC scope cl C env)) (RR (.ref D) C) s₃ := by
    rintro s₃ rfl
    refine comp_loopT W hsz hA (fun b o e => gle b o (hB b o e)) (hasg C) hown hbnd Rc (gnone C hCn) (gnone D hDn) hDC offD hDo st1 ?_ (fun b hb => mask_in (List.mem_append_left _ hb)) hn (h C) ?_
    · intro b hb
      obtain ⟨o, ho⟩ := W.there _ _ hst b hb
      refine ⟨fun e => ?_, fun e => ?_, (hfp b hb).2⟩
      · rw [e, hCn] at ho; cases ho
      · rw [e, hDn] at ho; cases ho
    · intro acc σ' h' tk m' hq R' ⟨cacc, n, hD', hacc⟩ hDσ t
      have t' : TK s.heap h' := (TK.of_keep old).trans t
      have Rb : Rel prog w g L m σ' h' := R.back gle gL R'.rh t'
      have gD : g.get? D = none := by
        cases q : g.get? D with
        | none => rfl
        | some o => have := gle _ _ q; rw [gnone D hDn] at this; cases this
      have gC : g.get? C = none := by
        cases q : g.get? C with
        | none => rfl
        | some o => have := gle _ _ q; rw [gnone C hCn] at this; cases this
      have hLo : ∃ o, s.heap.get? L = some o := R.lt
      have hDL : D ≠ L := fun e => by obtain ⟨o, ho⟩ := hLo; rw [← e, hDn] at ho; cases ho
      have hCL : C ≠ L := fun e => by obtain ⟨o, ho⟩ := hLo; rw [← e, hCn] at ho; cases ho
      obtain ⟨mc, hns', _⟩ := R'.ns
      refine hRR D C acc σ' h' tk mc hq ⟨⟨Rb.rh.keep, ?_, fun p hp => ?_, Rb.rh.st, fun p hp => ?_⟩, Rb.ns, fun p hp => ?_⟩ hns' gC hCL (Ne.symm hDC) R'.offS t'
      · refine List.nodup_cons.mpr ⟨fun hm => ?_, Rb.rh.nd⟩
        obtain ⟨p, hp, e⟩ := List.mem_map.mp hm
        exact hDσ p hp e
      · rcases List.mem_cons.mp hp with rfl | hp
        · exact ⟨gD, _, hD', cacc, n, rfl, hacc⟩
        · exact Rb.rh.own p hp
      · rcases List.mem_cons.mp hp with rfl | hp
        · show cStatics < D
          rw [← hDz]; exact R.rh.big
        · exact Rb.rh.low p hp
      · rcases List.mem_cons.mp hp with rfl | hp
        · exact hDL
        · exact Rb.offS p hp
  exact codeAny_compStart_list (loop _ rfl) (W.self A 0 _ _ _ st1 (loop _ rfl))
theorem ev_compT {scope : Scope} {cl : List (Str × Addr)} {xa xb : Str} {pa pb tp pos : Pos} {kk : Nat} {ifs : List Expr} {elt iter : Expr} {Q : V → St → Prop} (hclos : closureFor scope env = pure cl) (hok : compOk scope xa = true) (hok2 : compOk scope xb = true) (hab : xa ≠ xb)
    (h : EvE prog w Bs k env iter m σ fun v σ1 => Its prog w Bs k env.locals v m σ1 fun vs need σ2 => vs.length ≤ sizeLine ∧ (∀ v ∈ vs, ∃ a b, v = .tup [a, b]) ∧ ∀ C, CompBT prog w Bs k (compEnvC scope cl C env) (bndT [xa, xb]) ifs elt need (fun acc σ3 => ∀ D, Q (.ref D) ((D, .list acc) :: σ3)) vs [] σ2)
    (hs : ∀ x, foldedSetIterable iter env x = pure x := by intro _; rfl) : EvE prog w Bs k env (.ListComp elt [⟨.Tuple [.Name xa pa, .Name xb pb] kk tp, iter, ifs, 0⟩] scope pos) m σ Q := fun A g s Qc Ec hA hB R hQ => by
  simp only [compOk, Bool.and_eq_true, decide_eq_true_eq, List.all_eq_true] at hok hok2
  obtain ⟨⟨⟨o1, o2⟩, o3⟩, o4⟩ := hok
  obtain ⟨_, o5⟩ := hok2
  rw [eval_ListComp]
  refine wpAny_comprehension_free (use := none) rfl hs hclos o1 (fun y hy => o3 y hy) ?_
  refine h A g s _ _ hA hB R fun cv v σ1 h1 tk1 hi R1 r1 t1 => hi A g _ cv _ _ hA hB R1 r1 fun I fp wr vs need S σ' h' tk hb W st R' t' hfp hwr hn hgo => ?_
  refine comp_coreT (RR := fun acc C => compPost (model prog w) A Ec none Qc acc C) W hb.1 hA hB o1 (fun C i v hv => ?_) (fun i v hv cv s Qc Ec r st hq => hgo i v hv _ _ _ cv s Qc Ec r st hq) ?_ (fun y hy => o2 y hy) R' st hfp hwr hn hb.2.2 ?_
  · obtain ⟨a, b, rfl⟩ := hb.2.1 v (List.mem_of_getElem? hv)
    refine asg_tuple (es := [(xa, pa), (xb, pb)]) (by simp [compEnvC, relabel, o1]) (fun p hp => ?_) rfl
    simp only [List.mem_cons, List.not_mem_nil, or_false] at hp
    rcases hp with rfl | rfl
    · exact lookup_relabel_local o4
    · exact lookup_relabel_local o5
  · intro m v y u e
    cases v with
    | tup us => exact bindT_mono [xa, xb] us [] m (fun x u h => by simp at h) y u e
    | _ => simp [bndT] at e
  intro D C acc σ3 h3 tk3 m3 hq R3 hns gC hCL hCD hσ t3
  refine ⟨m3, hns, fun h4 hs4 => ?_⟩
  obtain ⟨R4, t4⟩ := R3.offC hs4 gC hCL (fun p hp => by
    rcases List.mem_cons.mp hp with rfl | hp
    · exact Ne.symm hCD
    · exact hσ p hp) hns
  exact hQ _ _ _ h4 tk3 (hq D) R4 (.ref _) (t1.trans (t'.trans (t3.trans t4)))
/-- turns that leave the objects alone -/
theorem compBT_pure {α : Type} {bnd : Env' → V → Env'} {ifs : List Expr} {elt : Expr} {need : St → Prop} {Q : List V → St → Prop} (f : α → V) (p : α → Bool) (u : α → V) : ∀ (xs : List α) (acc : List V),
    (∀ y ∈ xs, EvT prog w Bs k env ifs (bnd [] (f y)) σ fun ok σ1 => ok = p y ∧ SubP σ σ1) → (∀ y ∈ xs, p y = true → EvE prog w Bs k env elt (bnd [] (f y)) σ fun v σ1 => v = u y ∧ SubP σ σ1) → need σ → Q (acc ++ (xs.filter p).map u) σ →
    CompBT prog w Bs k env bnd ifs elt need Q (xs.map f) acc σ
  | [], acc, _, _, _, hq => by simpa [CompBT] using hq
  | y :: xs, acc, h1, h2, hn, hq => by
    simp only [List.map_cons, CompBT]
    have e1 := h1 y (.head _)
    refine Ev.mono e1 fun ok σ1 ⟨e, sub⟩ => ?_
    subst e
    cases hp : p y with
    | true =>
      refine if_tt rfl ?_
      have e2 := h2 y (.head _) hp
      intro A g s Qc Ec hA hB R hQ
      refine e2 A g s Qc Ec hA hB (R.subP sub) fun cv v σ2 h' tk ⟨ev, sub2⟩ R' r t => hQ cv v σ2 h' tk ⟨σ, sub2, hn, ?_⟩ R' r t
      subst ev
      exact compBT_pure f p u xs _ (fun z hz => h1 z (.tail _ hz)) (fun z hz => h2 z (.tail _ hz)) hn (by simpa [hp] using hq)
    | false =>
      refine if_ff rfl ?_
      exact ⟨σ, sub, hn, compBT_pure f p u xs _ (fun z hz => h1 z (.tail _ hz)) (fun z hz => h2 z (.tail _ hz)) hn (by simpa [hp] using hq)⟩

theorem its_comp_listT {α : Type} {bnd : Env' → V → Env'} {ifs : List Expr} {elt : Expr} {ce : Addr → Env} {Q : List V → St → Prop} (xs : List α) (f : α → V) (u : α → V) (hm : (a, ob) ∈ σ) (hl : ob.peel = .list (xs.map f)) (hz : xs.length ≤ 10000) (hf : ∀ y, ∃ a b, f y = .tup [a, b])
    (h1 : ∀ C, ∀ y ∈ xs, EvT prog w Bs k (ce C) ifs (bnd [] (f y)) σ fun ok σ1 => ok = true ∧ SubP σ σ1) (h2 : ∀ C, ∀ y ∈ xs, EvE prog w Bs k (ce C) elt (bnd [] (f y)) σ fun v σ1 => v = u y ∧ SubP σ σ1) (hq : Q (xs.map u) σ) :
    Its prog w Bs k L (.ref a) m σ fun vs need σ2 => vs.length ≤ sizeLine ∧ (∀ v ∈ vs, ∃ a b, v = .tup [a, b]) ∧ ∀ C, CompBT prog w Bs k (ce C) bnd ifs elt need Q vs [] σ2 :=
  its_list hm hl ⟨len_ok (by simpa using hz), fun v hv => by
    obtain ⟨y, _, rfl⟩ := List.mem_map.mp hv
    exact hf y, fun C => compBT_pure f (fun _ => true) u xs [] (h1 C) (fun y hy _ => h2 C y hy) hm (by simpa [filter_tt] using hq)⟩
/-- a, b = e and a, b, c = e -/
theorem evx_assign_tuple {es : List (Str × Pos)} {kk : Nat} {tp pos : Pos} {value : Expr} {Q : Fl → Env' → St → Prop} (h : EvE prog w Bs k env value m σ fun v σ1 => ∃ us, v = .tup us ∧ us.length = es.length ∧ Q .next (bindT (es.map (·.1)) us m) σ1)
    (hx : ∀ p ∈ es, env.kindOf p.1 = some .local) (hk : env.scope.kind = .function := by rfl) (hs : swapsWithSole [.Tuple (namesE es) kk tp] value pos.line env = pure false := by rfl) (hw : swappedStores [.Tuple (namesE es) kk tp] value env = pure none := by rfl) :
    EvX prog w Bs k env (.Assign [.Tuple (namesE es) kk tp] value pos) m σ Q := fun A g s Qc Ec hA hB hL R hQ => by
  refine wpAny_Assign_stores (h A g s _ _ hA hB R fun cv v σ1 h1 tk ⟨us, ev, hl, hq⟩ R1 r t => ?_) hs hw
  subst ev
  show wpAny _ A (assign (.Tuple (namesE es) kk tp) env cv) _ _ _
  exact asg_tuple hk hx hl A g m σ1 _ cv _ _ hA hL R1 r fun h' tk' R' t' _ => hQ .next .next _ σ1 h' tk' hq R' .next (t.trans t')
end
end Mine

set_option Elab.async false
set_option linter.unusedVariables false
set_option linter.unusedSimpArgs false
set_option maxRecDepth 100000
set_option maxHeartbeats 8000000
set_option pp.deepTerms.threshold 6
namespace Mine
open PySem PyProof.Rows PySem.Calls PySem.Spec PySem.Challenge

local macro_rules | `(tactic| walk_at "mv_mem") => `(tactic| first | assumption | exact List.Mem.head _ | (refine List.Mem.tail _ ?_; walk_at "mv_mem"))
local macro_rules | `(tactic| walk_at "mv_up") => `(tactic| first | assumption | exact Up.head | (apply Up.tail; walk_at "mv_up"))
local macro_rules | `(tactic| walk_at "mv_take") => `(tactic| first | exact Take.head | (apply Take.tail; walk_at "mv_take"))
local macro_rules | `(tactic| walk_at "mv_sub") => `(tactic| first | exact SubP.refl _ | exact SubP.nil | (apply SubP.cons; (walk_at "mv_take"); (walk_at "mv_sub")) | (apply SubP.more; walk_at "mv_sub"))
local macro_rules | `(tactic| walk_at "mv_le") => `(tactic| first | exact trivial | (refine ⟨rfl, ?_⟩; walk_at "mv_le"))
local macro_rules | `(tactic| walk_at "dpop") => `(tactic| refine ev_meth PySem.F.plainAttrs_dict PySem.F.slot_dict_pop PySem.F.type_dict_pop ?_)
local macro_rules | `(tactic| walk_at "lpop") => `(tactic| refine ev_meth PySem.F.plainAttrs_list PySem.F.slot_list_pop PySem.F.type_list_pop ?_)
local macro_rules | `(tactic| walk_at "lsort") => `(tactic| refine ev_meth0 PySem.F.plainAttrs_list PyProof.Rows.slot_list_sort (by show builtinType _ = _; rw [builtinType_eq_fast]; kernel_rfl) ?_)
local macro_rules | `(tactic| walk_at "mv1") => `(tactic| first
  | ((with_reducible show EvE _ _ _ _ _ (.Call (.Attribute _ "count" _) _ _ _) _ _ _); refine ev_meth PySem.F.plainAttrs_list PySem.F.slot_list_count PySem.F.type_list_count ?_)
  | ((with_reducible show EvE _ _ _ _ _ (.BoolOp .And _ _) _ _ _); refine ev_and ?_)
  | ((with_reducible show Ev _ _ _ _ _ _ (boolOp _ .And (evalEach [_] _)) _ _ _); refine ev_and1 ?_)
  | ((with_reducible show Ev _ _ _ _ _ _ (boolOp _ .And (evalEach (_ :: _ :: _) _)) _ _ _); refine ev_andc ?_)
  | ((with_reducible show ∃ b, V.bool _ = V.bool b ∧ _); refine ⟨_, rfl, ?_⟩)
  | ((with_reducible show ite _ _ _); first | refine if_tt (by rfl) ?_ | refine if_ff (by rfl) ?_)
  | ((with_reducible show EvS _ _ _ _ _ [] _ _ _); refine evs_nil ?_)
  | ((with_reducible show EvX _ _ _ _ _ (.If _ _ _ _) _ _ _); refine evx_if ?_)
  | ((with_reducible show EvX _ _ _ _ _ (.Return (some _) _) _ _ _); refine evx_ret ?_)
  | ((with_reducible show EvX _ _ _ _ _ (.Assign [.Name _ _] (.ListComp _ _ _ _) _) _ _ _); first | refine evx_assign_comp (by rfl) (by decide) ?_ | refine evx_assign_cell (by rfl) ?_)
  | ((with_reducible show EvX _ _ _ _ _ (.Assign [.Name _ _] _ _) _ _ _); first | refine evx_assign ?_ | refine evx_assign_cell (by rfl) ?_)
  | ((with_reducible show ∃ ov σ2, Up _ (.cell ov) (.cell (some _)) _ σ2 ∧ _); refine ⟨_, _, by walk_at "mv_up", ?_⟩)
  | ((with_reducible show EvX _ _ _ _ _ (.Assign [.Subscript _ _ _] _ _) _ _ _); refine evx_setitem ?_)
  | ((with_reducible show EvX _ _ _ _ _ (.Delete [.Subscript _ _ _] _) _ _ _); refine evx_delitem ?_)
  | ((with_reducible show EvX _ _ _ _ _ (.Expr _ _) _ _ _); refine evx_expr ?_)
  | ((with_reducible show EvX _ _ _ _ _ (.Break _) _ _ _); refine evx_break ?_)
  | ((with_reducible show EvX _ _ _ _ _ (.Continue _) _ _ _); refine evx_continue ?_)
  | ((with_reducible show EvE _ _ _ _ _ (.Constant (.int _) _ _) _ _ _); refine ev_int ?_)
  | ((with_reducible show EvE _ _ _ _ _ (.Constant (.str _) _ _) _ _ _); refine ev_str ?_)
  | ((with_reducible show EvE _ _ _ _ _ (.Constant .none _ _) _ _ _); refine ev_none ?_)
  | ((with_reducible show EvE _ _ _ _ _ (.Constant (.bool _) _ _) _ _ _); refine ev_bool ?_)
  | ((with_reducible show EvE _ _ _ _ _ (.Name _ _) _ _ _); refine ev_local (by rfl) ?_)
  | ((with_reducible show EvE _ _ _ _ _ (.Name _ _) _ _ _); refine ev_cell (by rfl) (by walk_at "mv_mem") ?_)
  | ((with_reducible show EvE _ _ _ _ _ (.Name _ _) _ _ _); first | refine ev_tname (by assumption) ?_ | refine ev_gname (by assumption) ?_)
  | ((with_reducible show EvE _ _ _ _ _ (.ListComp _ _ _ _) _ _ _); refine ev_comp (by rfl) (by decide) ?_)
  | ((with_reducible show EvT _ _ _ _ _ [] _ _ _); refine evt_nil ?_)
  | ((with_reducible show EvT _ _ _ _ _ [_] _ _ _); refine evt_one ?_)
  | ((with_reducible show EvE _ _ _ _ _ (.Subscript _ (.Slice _ _ _ _) _) _ _ _); refine ev_slice ?_)
  | ((with_reducible show EvE _ _ _ _ _ (.Subscript _ _ _) _ _ _); refine ev_item ?_)
  | ((with_reducible show EvE _ _ _ _ _ (.BinOp _ .Mod _ _) _ _ _); refine ev_binop ?_)
  | ((with_reducible show EvE _ _ _ _ _ (.BinOp _ .Sub _ _) _ _ _); refine ev_binop ?_)
  | ((with_reducible show EvE _ _ _ _ _ (.BinOp _ .FloorDiv _ _) _ _ _); refine ev_binop ?_)
  | ((with_reducible show EvE _ _ _ _ _ (.BinOp _ .Mult _ _) _ _ _); refine ev_binop ?_)
  | ((with_reducible show EvE _ _ _ _ _ (.BinOp _ .Add _ _) _ _ _); refine ev_addG ?_)
  | ((with_reducible show AddG _ _ _ (.int _) (.int _) _); refine addG_int ?_)
  | ((with_reducible show ∃ c, Bin .Mod _ _ c ∧ _); refine ⟨_, Bin.mod _ _ (by first | decide | omega), ?_⟩)
  | ((with_reducible show ∃ c, Bin .FloorDiv _ _ c ∧ _); refine ⟨_, Bin.div _ _ (by first | decide | omega) (by first | decide | omega), ?_⟩)
  | ((with_reducible show ∃ c, Bin .Sub _ _ c ∧ _); refine ⟨_, Bin.sub _ _, ?_⟩)
  | ((with_reducible show ∃ c, CmpG _ _ _ _ _ _ c ∧ _); refine ⟨_, Cmp.gen (by constructor), ?_⟩)
  | ((with_reducible show NoRef _ ∧ _); refine ⟨by constructor, ?_⟩)
  | ((with_reducible show List.length _ ≤ sizeLine ∧ _); refine ⟨len_ok (by simp), ?_⟩)
  | ((with_reducible show ∃ v, Item _ _ (.int _) v ∧ _); refine ⟨_, Item.tup (by decide) (by decide) (by rfl), ?_⟩)
  | ((with_reducible show Kd _ _ _ ∧ _); first | refine ⟨Kd.list (by walk_at "mv_mem") (by rfl), ?_⟩ | refine ⟨Kd.dict (by walk_at "mv_mem") (by rfl), ?_⟩ | refine ⟨Kd.str _, ?_⟩)
  | ((with_reducible show EvE _ _ _ _ _ (.Tuple _ _ _) _ _ _); refine ev_tuple ?_)
  | ((with_reducible show EvE _ _ _ _ _ (.List _ _) _ _ _); refine ev_list ?_)
  | ((with_reducible show EvE _ _ _ _ _ (.Dict [] [] _) _ _ _); refine ev_dict0 ?_)
  | ((with_reducible show EvE _ _ _ _ _ (.Compare _ _ _ _) _ _ _); refine ev_cmpG ?_)
  | ((with_reducible show EvE _ _ _ _ _ (.Call (.Attribute _ "append" _) _ _ _) _ _ _); refine ev_meth PySem.F.plainAttrs_list PySem.F.slot_list_append PySem.F.type_list_append ?_)
  | ((with_reducible show EvE _ _ _ _ _ (.Call (.Attribute _ "get" _) _ _ _) _ _ _); refine ev_meth PySem.F.plainAttrs_dict PySem.F.slot_dict_get PySem.F.type_dict_get ?_)
  | ((with_reducible show EvE _ _ _ _ _ (.Call (.Attribute _ "items" _) [] _ _) _ _ _); refine ev_meth0 PySem.F.plainAttrs_dict PySem.F.slot_dict_items PySem.F.type_dict_items ?_)
  | ((with_reducible show EvE _ _ _ _ _ (.Call (.Attribute _ "keys" _) [] _ _) _ _ _); refine ev_meth0 PySem.F.plainAttrs_dict PySem.F.slot_dict_keys PySem.F.type_dict_keys ?_)
  | ((with_reducible show EvE _ _ _ _ _ (.Call (.Attribute _ "values" _) [] _ _) _ _ _); refine ev_meth0 PySem.F.plainAttrs_dict PySem.F.slot_dict_values PySem.F.type_dict_values ?_)
  | ((with_reducible show EvE _ _ _ _ _ (.Call (.Attribute _ "update" _) _ _ _) _ _ _); refine ev_meth PySem.F.plainAttrs_dict PySem.F.slot_dict_update PySem.F.type_dict_update ?_)
  | ((with_reducible show EvE _ _ _ _ _ (.Call (.Attribute _ "copy" _) [] _ _) _ _ _); refine ev_meth0 PySem.F.plainAttrs_dict PySem.F.slot_dict_copy PySem.F.type_dict_copy ?_)
  | ((with_reducible show EvE _ _ _ _ _ (.Call (.Name _ _) (_ :: _) [] _) _ _ _); first | refine ev_bfn (by assumption) ?_ | refine ev_tfn (by assumption) ?_ | refine ev_fn (by assumption) (by assumption) ?_)
  | ((with_reducible show EvE _ _ _ _ _ (.Call (.Name _ _) [] [] _) _ _ _); refine ev_fn0 (by assumption) (by assumption) ?_)
  | ((with_reducible show EvA _ _ _ _ _ _ [] _ _ _); refine eva_nil ?_)
  | ((with_reducible show EvA _ _ _ _ _ _ (_ :: _) _ _ _); refine eva_cons ?_)
  | ((with_reducible show EvP _ _ _ _ _ none _ _ _); refine evp_none ?_)
  | ((with_reducible show EvP _ _ _ _ _ (some _) _ _ _); refine evp_some ?_)
  | ((with_reducible show EvB _ _ _ _ _ (.Compare _ _ _ _) _ _ _); refine evb_cmpG ?_)
  | ((with_reducible show Ev _ _ _ _ _ _ (allTrue .And [] _) _ _ _); refine all_and_nil ?_)
  | ((with_reducible show Ev _ _ _ _ _ _ (allTrue .Or [] _) _ _ _); refine all_or_nil ?_)
  | ((with_reducible show Ev _ _ _ _ _ _ (allTrue .And (_ :: _) _) _ _ _); refine all_and_cons ?_)
  | ((with_reducible show Ev _ _ _ _ _ _ (allTrue .Or (_ :: _) _) _ _ _); refine all_or_cons ?_)
  | ((with_reducible show EvB _ _ _ _ _ (.BoolOp .And _ _) _ _ _); refine evb_and ?_)
  | ((with_reducible show EvB _ _ _ _ _ (.BoolOp .Or _ _) _ _ _); refine evb_or ?_)
  | ((with_reducible show EvB _ _ _ _ _ (.UnaryOp .Not _ _) _ _ _); refine evb_not ?_))
local macro_rules | `(tactic| walk_at "mv") => `(tactic| first | walk_at "mv1" | ((with_reducible show EvS _ _ _ _ _ _ _ _ _); refine evs_cons ?_))
local macro_rules | `(tactic| walk_at "mw") => `(tactic| first | walk_at "mv1" | ((with_reducible show EvS _ _ _ _ _ (.Assign _ _ _ :: _) _ _ _); refine evs_cons ?_) | ((with_reducible show EvS _ _ _ _ _ (.Expr _ _ :: _) _ _ _); refine evs_cons ?_) | ((with_reducible show EvS _ _ _ _ _ (.Return _ _ :: _) _ _ _); refine evs_cons ?_) | ((with_reducible show EvS _ _ _ _ _ (.For _ _ _ _ _ :: _) _ _ _); refine evs_cons ?_))
local macro_rules | `(tactic| walk_at "mg") => `(tactic| first | walk_at "mv1" | ((with_reducible show EvStG _ _ _ _ _ _ _ (execs (.Assign _ _ _ :: _) _) _ _ _); refine evsG_cons (EvSt.toG ?_)) | ((with_reducible show EvStG _ _ _ _ _ _ _ (execs (.Return _ _ :: _) _) _ _ _); refine evsG_cons (EvSt.toG ?_)) | ((with_reducible show EvStG _ _ _ _ _ _ _ (execs (.For _ _ _ _ _ :: _) _) _ _ _); refine evsG_cons (EvSt.toG ?_)))
local macro_rules | `(tactic| walk_at "mgs") => `(tactic| repeat (walk_at "mg"))
local macro_rules | `(tactic| walk_at "mws") => `(tactic| repeat (walk_at "mw"))
local macro_rules | `(tactic| walk_at "mvs") => `(tactic| repeat (walk_at "mv"))
section
variable {prog : Program} {w : World} {Bs : Heap} {k : Nat} {σ : St} {mg mb : Str → Option Value}

theorem bind_get {pm code doc : Value} : ∀ cvs : List Value, cvs.length = 2 → bindArgs (docDef (defAt pw_k6_0091 1).name (defAt pw_k6_0091 1).params (defAt pw_k6_0091 1).body (defAt pw_k6_0091 1).scope pm code doc) ⟨cvs, []⟩ = pure ((["cache", "key"] : List Str).zip cvs)
  | [a, b], _ => rfl
theorem get_miss {c : Addr} {kvs : KV} {x : Str} {f : Addr} {pm code doc : Value} {Q : V → St → Prop} (C : Ctx Bs mg mb) (F : FnAt Bs mg "cache_get" (defAt pw_k6_0091 1) f pm code doc)
    (hm : (c, .dict kvs) ∈ σ) (hv : kvs.lookup x = none) (hq : Q .none σ) : EvF prog w Bs (k + 1) (.ref f) [.ref c, .str x] σ Q := by
  refine evf_nc (ps := ["cache", "key"]) C F bind_get rfl (by decide) (by decide) fun L => ?_
  walk_at "mvs"
  refine ⟨_, (CmpH.notInD hm rfl).gen, ?_⟩
  rw [hv]
  walk_at "mvs"
  exact ⟨_, SubP.refl _, hq⟩
theorem get_hit {c : Addr} {kvs : KV} {x : Str} {v : V} {σ' : St} {f : Addr} {pm code doc : Value} {Q : V → St → Prop} (C : Ctx Bs mg mb) (F : FnAt Bs mg "cache_get" (defAt pw_k6_0091 1) f pm code doc)
    (u : Up c (.dict kvs) (.dict (ddel kvs x ++ [(x, v)])) σ σ') (hv : kvs.lookup x = some v) (hz : kvs.length ≤ 1000) (hq : Q v σ') : EvF prog w Bs (k + 1) (.ref f) [.ref c, .str x] σ Q := by
  refine evf_nc (ps := ["cache", "key"]) C F bind_get rfl (by decide) (by decide) fun L => ?_
  walk_at "mvs"
  refine ⟨_, (CmpH.notInD u.mem rfl).gen, ?_⟩
  rw [hv]
  walk_at "mvs"
  walk_at "dpop"
  walk_at "mvs"
  refine ⟨.dict u.mem rfl, ?_⟩
  walk_at "mvs"
  obtain ⟨σ1, u1, u2⟩ := u.mid (.dict (ddel kvs x))
  refine bf_pop u1 (by rw [sizeLine_eq]; omega) hv ?_
  walk_at "mvs"
  refine ⟨_, _, _, _, rfl, rfl, by rw [dput_ddel]; exact u2, ?_, ?_⟩
  · have := List.length_filter_le (fun p => decide (p.1 ≠ x)) kvs
    rw [sizeLine_eq]; unfold ddel; omega
  walk_at "mvs"
  exact ⟨_, SubP.refl _, hq⟩

theorem bind_put {pm code doc : Value} : ∀ cvs : List Value, cvs.length = 4 → bindArgs (docDef (defAt pw_k6_0091 2).name (defAt pw_k6_0091 2).params (defAt pw_k6_0091 2).body (defAt pw_k6_0091 2).scope pm code doc) ⟨cvs, []⟩ = pure ((["cache", "key", "value", "capacity"] : List Str).zip cvs)
  | [a, b, c, d], _ => rfl
theorem put_spec {c : Addr} {ps : PS} {x : Str} {v cap : Int} {σ' : St} {f : Addr} {pm code doc : Value} {Q : V → St → Prop} (C : Ctx Bs mg mb) (F : FnAt Bs mg "cache_put" (defAt pw_k6_0091 2) f pm code doc) (BL : BIs Bs mg mb "len" (.builtin "len")) (BLi : BIs Bs mg mb "list" (.type "list"))
    (u : Up c (.dict (kvI ps)) (.dict (kvI ((putD ps x cap).2 ++ [(x, v)]))) σ σ') (hz : ps.length ≤ 1000) (hc : 1 ≤ cap) (nd : (keys ps).Nodup) (hq : Q (.str (putD ps x cap).1) σ') : EvF prog w Bs (k + 1) (.ref f) [.ref c, .str x, .int v, .int cap] σ Q := by
  refine evf_nc (ps := ["cache", "key", "value", "capacity"]) C F bind_put rfl (by decide) (by decide) fun L => ?_
  have hz1 : ∀ qs : PS, qs.length ≤ 1000 → (kvI qs).length ≤ sizeLine := fun qs h => len_ok (by rw [kvI_length]; omega)
  walk_at "mvs"
  refine ⟨_, (CmpH.inD u.mem rfl).gen, ?_⟩
  rw [kvI_lookup]
  cases hv : ps.lookup x with
  | some i =>
    have e : putD ps x cap = (("", sans ps x) : Str × PS) := by simp [putD, hv]
    rw [e] at u hq
    walk_at "mvs"
    walk_at "dpop"
    walk_at "mvs"
    refine ⟨.dict u.mem rfl, ?_⟩
    walk_at "mvs"
    obtain ⟨σ1, u1, u2⟩ := u.mid (.dict (kvI (sans ps x)))
    refine bf_pop (v := .int i) (by rw [kvI_ddel]; exact u1) (hz1 _ hz) (by rw [kvI_lookup, hv]; rfl) ?_
    walk_at "mvs"
    refine ⟨_, _, _, _, rfl, rfl, by rw [dput_new (by rw [kvI_map_fst]; exact keys_sans_off)]; simpa [kvI] using u2, hz1 _ (Nat.le_trans (sans_length_le _ _) hz), ?_⟩
    walk_at "mvs"
    exact ⟨_, SubP.refl _, hq⟩
  | none =>
    have hx : x ∉ keys ps := lookup_none_iff.mp hv
    walk_at "mvs"
    refine bf_len_dict u.mem rfl (hz1 _ hz) ?_
    rw [kvI_length]
    walk_at "mvs"
    by_cases hcap : cap ≤ (ps.length : Int)
    · rw [decide_eq_true hcap]
      obtain ⟨p, r, rfl⟩ : ∃ p r, ps = p :: r := by
        cases ps with
        | nil => simp at hcap; omega
        | cons p r => exact ⟨p, r, rfl⟩
      have e : putD (p :: r) x cap = (p.1, r) := by simp only [putD, hv, Option.isSome_none, Bool.false_eq_true, if_false, if_pos hcap]; rfl
      rw [e] at u hq
      walk_at "mvs"
      refine ⟨.dict u.mem rfl, ?_⟩
      walk_at "mvs"
      refine bf_keys u.mem rfl fun vw => ?_
      walk_at "mvs"
      refine bf_list_keys rfl u.mem rfl (hz1 _ hz) fun li => ?_
      rw [kvI_keys]
      walk_at "mvs"
      refine ⟨_, Item.list (v := .str p.1) (.head _) rfl (by decide) (by decide) rfl, ?_⟩
      walk_at "mvs"
      obtain ⟨σ1, u1, u2⟩ := u.mid (.dict (kvI r))
      have hnd := List.nodup_cons.mp nd
      have hdel : ddel (kvI (p :: r)) p.1 = kvI r := by
        rw [kvI_ddel]
        have : sans (p :: r) p.1 = sans r p.1 := by simp [sans]
        rw [this, sans_none (lookup_none_iff.mpr hnd.1)]
      refine ⟨_, _, _, _, rfl, rfl, by rw [kvI_lookup]; simp, by rw [hdel]; exact Up.tail u1, hz1 _ hz, ?_⟩
      walk_at "mvs"
      refine ⟨_, _, _, _, rfl, rfl, by rw [dput_new (by rw [kvI_map_fst]; exact fun h => hx (.tail _ h))]; exact Up.tail (by simpa [kvI] using u2), hz1 _ (by simp at hz; omega), ?_⟩
      walk_at "mvs"
      exact ⟨_, SubP.of_tail _, hq⟩
    · rw [decide_eq_false hcap]
      have e : putD ps x cap = (("", ps) : Str × PS) := by simp [putD, hv, hcap]
      rw [e] at u hq
      walk_at "mvs"
      refine ⟨_, _, _, _, rfl, rfl, by rw [dput_new (by rw [kvI_map_fst]; exact hx)]; simpa [kvI] using u, hz1 _ hz, ?_⟩
      walk_at "mvs"
      exact ⟨_, SubP.refl _, hq⟩

theorem bind_play {pm code doc : Value} : ∀ cvs : List Value, cvs.length = 2 → bindArgs (docDef (defAt pw_k6_0091 5).name (defAt pw_k6_0091 5).params (defAt pw_k6_0091 5).body (defAt pw_k6_0091 5).scope pm code doc) ⟨cvs, []⟩ = pure ((["ops", "capacity"] : List Str).zip cvs)
  | [a, b], _ => rfl
theorem play_spec {oa : Addr} {ob : O} {ops : List Op} {K : List Str} {cap : Int} {f : Addr} {pm code doc : Value} {fg : Addr} {pmg codeg docg : Value} {fp : Addr} {pmp codep docp : Value} {Q : V → St → Prop} (C : Ctx Bs mg mb) (hF : FnAt Bs mg "play_cache" (defAt pw_k6_0091 5) f pm code doc)
    (hG : FnAt Bs mg "cache_get" (defAt pw_k6_0091 1) fg pmg codeg docg) (hP : FnAt Bs mg "cache_put" (defAt pw_k6_0091 2) fp pmp codep docp) (BL : BIs Bs mg mb "len" (.builtin "len")) (BLi : BIs Bs mg mb "list" (.type "list"))
    (hm : (oa, ob) ∈ σ) (hl : ob.peel = .list (ops.map opV)) (hn : ops.length ≤ 100) (hK : ∀ o ∈ ops, o.2.1 ∈ K) (hc : 1 ≤ cap)
    (hq : ∀ g li, Q (.tup [.ref g, .ref li]) ((li, .list ((playM ops cap).2.map kvV)) :: (g, .list ((playM ops cap).1.map anV)) :: σ)) : EvF prog w Bs (k + 2) (.ref f) [.ref oa, .int cap] σ Q := by
  refine evf_nc (ps := ["ops", "capacity"]) C hF bind_play rfl (by decide) (by decide) fun L => ?_
  walk_at "mvs"
  intro c
  walk_at "mvs"
  intro gv
  walk_at "mvs"
  refine evx_for_list ?_
  walk_at "mvs"
  refine ⟨oa, ob, _, rfl, by walk_at "mv_mem", hl, fun pre m s => ∃ qs, pre = qs.map opV ∧ m = ([("ops", .ref oa), ("capacity", .int cap), ("cache", .ref c), ("gave", .ref gv)] : Env') ∧
    s = ((gv, .list ((playM qs cap).1.map anV)) :: (c, .dict (kvI (playM qs cap).2)) :: σ : St), _, _, ?_, ?_, ⟨[], rfl, rfl, rfl⟩, ?_, ?_⟩
  · walk_at "mv_le"
  · walk_at "mv_sub"
  · rintro pre v post m s e ⟨qs, rfl, rfl, rfl⟩
    obtain ⟨o, qs2, rfl, rfl, rfl⟩ := op_split e
    obtain ⟨I, _, hal⟩ := playM_inv (K := K) hc qs fun o ho => hK o (List.mem_append_left _ ho)
    have hlen := I.len
    have hqn : qs.length ≤ 99 := by simp at hn; omega
    have snoc := playM_snoc qs o cap
    generalize playM qs cap = st at *
    obtain ⟨gave, ps⟩ := st
    obtain ⟨g, x, v⟩ := o
    have fin : ∀ m' s', leE [("ops", .ref oa), ("capacity", .int cap), ("cache", .ref c), ("gave", .ref gv)] m' → SubP ((gv, .list ((playF cap (gave, ps) (g, x, v)).1.map anV)) :: (c, .dict (kvI (playF cap (gave, ps) (g, x, v)).2)) :: σ) s' →
        ∃ m1 σ1, leE m1 m' ∧ SubP σ1 s' ∧ (oa, ob) ∈ σ1 ∧ ∃ qs', qs.map opV ++ [opV (g, x, v)] = qs'.map opV ∧ m1 = ([("ops", .ref oa), ("capacity", .int cap), ("cache", .ref c), ("gave", .ref gv)] : Env') ∧ σ1 = ((gv, .list ((playM qs' cap).1.map anV)) :: (c, .dict (kvI (playM qs' cap).2)) :: σ : St) :=
      fun m' s' h1 h2 => ⟨_, _, h1, h2, .tail _ (.tail _ hm), qs ++ [(g, x, v)], by simp, rfl, by rw [snoc]⟩
    cases g with
    | true =>
      walk_at "mvs"
      cases hv : ps.lookup x with
      | none =>
        have es : playF cap (gave, ps) (true, x, v) = (gave ++ [.no], ps) := by simp [playF, stepM, hv]
        refine get_miss C hG (by walk_at "mv_mem") (by rw [kvI_lookup, hv]; rfl) ?_
        walk_at "mvs"
        refine bf_append (by walk_at "mv_up") (len_ok (by simp at hal ⊢; omega)) ?_
        walk_at "mvs"
        refine fin _ _ (by walk_at "mv_le") ?_
        rw [es, List.map_append]
        walk_at "mv_sub"
      | some u =>
        have es : playF cap (gave, ps) (true, x, v) = (gave ++ [.num u], sans ps x ++ [(x, u)]) := by simp [playF, stepM, hv]
        refine get_hit (v := .int u) C hG (by walk_at "mv_up") (by rw [kvI_lookup, hv]; rfl) (by rw [kvI_length]; simp at hlen ⊢; omega) ?_
        rw [kvI_ddel, show kvI (sans ps x) ++ [(x, V.int u)] = kvI (sans ps x ++ [(x, u)]) by rw [kvI_append]; rfl]
        walk_at "mvs"
        refine bf_append (by walk_at "mv_up") (len_ok (by simp at hal ⊢; omega)) ?_
        walk_at "mvs"
        refine fin _ _ (by walk_at "mv_le") ?_
        rw [es, List.map_append]
        walk_at "mv_sub"
    | false =>
      have es : playF cap (gave, ps) (false, x, v) = (gave ++ [.key (putD ps x cap).1], (putD ps x cap).2 ++ [(x, v)]) := by simp [playF, stepM]
      walk_at "mvs"
      refine put_spec C hP BL BLi (by walk_at "mv_up") (by simp at hlen ⊢; omega) hc I.nd ?_
      walk_at "mvs"
      refine bf_append (by walk_at "mv_up") (len_ok (by simp at hal ⊢; omega)) ?_
      walk_at "mvs"
      refine fin _ _ (by walk_at "mv_le") ?_
      rw [es, List.map_append]
      walk_at "mv_sub"
  · rintro m1 σ1 m s h1 h2 ⟨qs, e, rfl, rfl⟩
    obtain rfl : ops = qs := opVs_inj e
    refine EvSt.le h1 (EvSt.subP h2 ?_)
    obtain ⟨I, _, hal⟩ := playM_inv (K := K) hc ops hK
    have hlen := I.len
    walk_at "mvs"
    refine bf_items (by walk_at "mv_mem") rfl fun r => ?_
    walk_at "mvs"
    refine bf_list_items_kv rfl (by walk_at "mv_mem") rfl (by omega) fun li => ?_
    walk_at "mvs"
    exact ⟨_, by walk_at "mv_sub", hq gv li⟩

theorem bind_cell {pm code doc : Value} : ∀ cvs : List Value, cvs.length = 2 → bindArgs (docDef (defAt pw_k6_0091 9).name (defAt pw_k6_0091 9).params (defAt pw_k6_0091 9).body (defAt pw_k6_0091 9).scope pm code doc) ⟨cvs, []⟩ = pure ((["script", "i"] : List Str).zip cvs)
  | [a, b], _ => rfl
theorem cell_spec {l : Addr} {ob : O} {ns : List Int} {i : Int} {j : Nat} {f : Addr} {pm code doc : Value} {Q : V → St → Prop} (C : Ctx Bs mg mb) (F : FnAt Bs mg "_law_cell" (defAt pw_k6_0091 9) f pm code doc) (BL : BIs Bs mg mb "len" (.builtin "len"))
    (hm : (l, ob) ∈ σ) (hl : ob.peel = .list (ns.map .int)) (hz : ns.length ≤ 63) (hj : i = (j : Int)) (hi : i < 1000000) (hq : Q (.int (cz ns j)) σ) : EvF prog w Bs (k + 1) (.ref f) [.ref l, .int i] σ Q := by
  subst hj
  refine evf_nc (ps := ["script", "i"]) C F bind_cell rfl (by decide) (by decide) fun L => ?_
  have hz2 : (ns.map V.int).length ≤ sizeLine := by rw [sizeLine_eq]; simp; omega
  walk_at "mvs"
  refine bf_len_list (ob := ob) hm hl hz2 ?_
  walk_at "mvs"
  split
  · rename_i hc
    have hc' : j < ns.length := by simpa using hc
    walk_at "mvs"
    exact ⟨_, Item.list (j := j) hm hl (by omega) (by omega) (v := .int (cz ns j)) (by rw [Int.toNat_natCast]; exact cz_in hc'), ⟨_, SubP.refl _, hq⟩⟩
  · rename_i hc
    have hc' : ¬ j < ns.length := by simpa using hc
    rw [cz_out hc'] at hq
    walk_at "mvs"
    exact ⟨_, SubP.refl _, hq⟩


theorem sans_eq (ps : PS) (x : Str) : (ps.filter fun q => !decide (q.1 = x)) = sans ps x := by
  unfold sans
  refine List.filter_congr fun q _ => ?_
  by_cases h : q.1 = x <;> simp [h]
theorem bind_pget {pm code doc : Value} : ∀ cvs : List Value, cvs.length = 2 → bindArgs (docDef (defAt pw_k6_0091 3).name (defAt pw_k6_0091 3).params (defAt pw_k6_0091 3).body (defAt pw_k6_0091 3).scope pm code doc) ⟨cvs, []⟩ = pure ((["pairs", "key"] : List Str).zip cvs)
  | [a, b], _ => rfl
theorem pget_spec {pr : Addr} {ob : O} {ps : PS} {x : Str} {v0 cap : Int} {f : Addr} {pm code doc : Value} {Q : V → St → Prop} (C : Ctx Bs mg mb) (F : FnAt Bs mg "plain_get" (defAt pw_k6_0091 3) f pm code doc)
    (hm : (pr, ob) ∈ σ) (hl : ob.peel = .list (ps.map kvV)) (nd : (keys ps).Nodup) (hz : ps.length ≤ 1000) (ok : ∀ q ∈ ps, PyData.strOk q.1 = true) (hq : ∀ c, Q (.tup [.ref c, anV (stepM ps (true, x, v0) cap).1]) ((c, .list ((stepM ps (true, x, v0) cap).2.map kvV)) :: σ)) : EvF prog w Bs (k + 1) (.ref f) [.ref pr, .str x] σ Q := by
  refine evf_cs (ps := ["pairs", "key"]) C F bind_pget rfl (by decide) [("pairs", .ref pr)] (fun L => (L + 1, .cell (some (.str x))) :: σ) rfl (fun L => rfl) fun L => ?_
  walk_at "mvs"
  refine its_comp_list ps kvV (fun q => decide (q.1 = x)) kvV (by walk_at "mv_mem") hl (by omega) ?_ ?_ ?_
  · intro C' q hq
    walk_at "mvs"
    exact ⟨rfl, SubP.refl _⟩
  · intro C' q hq _
    walk_at "mvs"
    exact ⟨rfl, SubP.refl _⟩
  intro hi
  walk_at "mvs"
  refine its_comp_list ps kvV (fun q => !decide (q.1 = x)) kvV (by walk_at "mv_mem") hl (by omega) ?_ ?_ ?_
  · intro C' q hq
    walk_at "mvs"
    exact ⟨rfl, SubP.refl _⟩
  · intro C' q hq _
    walk_at "mvs"
    exact ⟨rfl, SubP.refl _⟩
  rw [sans_eq]
  intro re
  walk_at "mvs"
  intro em
  have hsl := sans_length_le ps x
  unfold stepM at hq
  simp only [if_true] at hq
  cases hv : ps.lookup x with
  | none =>
    rw [same_none hv]
    rw [hv] at hq
    refine ⟨_, cmp_eq_kv (ps := []) (qs := []) (by walk_at "mv_mem") rfl (by walk_at "mv_mem") rfl (by simp) (by simp), ?_⟩
    refine if_tt (by simp) ?_
    walk_at "mvs"
    refine ⟨(re, .list (ps.map kvV)) :: σ, ?_, hq re⟩
    rw [sans_none hv]
    walk_at "mv_sub"
  | some v =>
    rw [same_some nd hv]
    rw [hv] at hq
    have okx : PyData.strOk x = true := ok _ (lookup_mem hv)
    refine ⟨_, cmp_eq_kv (ps := [(x, v)]) (qs := []) (by walk_at "mv_mem") rfl (by walk_at "mv_mem") rfl (by intro q hq; rw [List.mem_singleton.mp hq]; exact okx) (by simp), ?_⟩
    refine if_ff (by simp) ?_
    walk_at "mvs"
    refine addG_list (by walk_at "mv_mem") (by walk_at "mv_mem") rfl rfl (len_ok (by simp; omega)) fun s2 => ?_
    walk_at "mvs"
    refine ⟨_, Item.list (v := kvV (x, v)) (by walk_at "mv_mem") rfl (by decide) (by decide) rfl, ?_⟩
    walk_at "mvs"
    refine ⟨(s2, .list ((sans ps x ++ [(x, v)]).map kvV)) :: σ, ?_, hq s2⟩
    rw [List.map_append]
    walk_at "mv_sub"
theorem bind_pput {pm code doc : Value} : ∀ cvs : List Value, cvs.length = 4 → bindArgs (docDef (defAt pw_k6_0091 4).name (defAt pw_k6_0091 4).params (defAt pw_k6_0091 4).body (defAt pw_k6_0091 4).scope pm code doc) ⟨cvs, []⟩ = pure ((["pairs", "key", "value", "capacity"] : List Str).zip cvs)
  | [a, b, c, d], _ => rfl
theorem pput_spec {pr : Addr} {ob : O} {ps : PS} {x : Str} {v cap : Int} {f : Addr} {pm code doc : Value} {Q : V → St → Prop} (C : Ctx Bs mg mb) (F : FnAt Bs mg "plain_put" (defAt pw_k6_0091 4) f pm code doc) (BL : BIs Bs mg mb "len" (.builtin "len"))
    (hm : (pr, ob) ∈ σ) (hl : ob.peel = .list (ps.map kvV)) (nd : (keys ps).Nodup) (hz : ps.length ≤ 1000) (hc : 1 ≤ cap) (hr : (ps.length : Int) ≤ cap) (hq : ∀ c, Q (.tup [.ref c, anV (stepM ps (false, x, v) cap).1]) ((c, .list ((stepM ps (false, x, v) cap).2.map kvV)) :: σ)) : EvF prog w Bs (k + 1) (.ref f) [.ref pr, .str x, .int v, .int cap] σ Q := by
  refine evf_cs (ps := ["pairs", "key", "value", "capacity"]) C F bind_pput rfl (by decide) [("pairs", .ref pr), ("value", .int v), ("capacity", .int cap)] (fun L => (L + 1, .cell (some (.str x))) :: σ) rfl (fun L => rfl) fun L => ?_
  walk_at "mvs"
  refine its_comp_list ps kvV (fun q => !decide (q.1 = x)) kvV (by walk_at "mv_mem") hl (by omega) ?_ ?_ ?_
  · intro C' q hq
    walk_at "mvs"
    exact ⟨rfl, SubP.refl _⟩
  · intro C' q hq _
    walk_at "mvs"
    exact ⟨rfl, SubP.refl _⟩
  rw [sans_eq]
  intro re
  have hsl := sans_length_le ps x
  have hput := putD_eq (x := x) (cap := cap) nd hr
  unfold stepM at hq
  simp only [Bool.false_eq_true, if_false] at hq
  walk_at "mvs"
  refine bf_len_list (by walk_at "mv_mem") rfl (len_ok (by simp; omega)) ?_
  rw [List.length_map]
  walk_at "mvs"
  by_cases hcc : ((sans ps x).length : Int) = cap
  · refine if_tt (decide_eq_true (by omega)) ?_
    rw [if_pos hcc] at hput
    rw [hput] at hq
    generalize hos : sans ps x = os at *
    obtain ⟨q, r, rfl⟩ : ∃ q r, os = q :: r := by
      cases os with
      | nil => simp at hcc; omega
      | cons q r => exact ⟨q, r, rfl⟩
    walk_at "mvs"
    refine ⟨_, Item.list (v := kvV q) (by walk_at "mv_mem") rfl (by decide) (by decide) rfl, ?_⟩
    walk_at "mvs"
    refine ⟨re, _, _, _, _, rfl, by walk_at "mv_mem", rfl, .int _ (by decide), .none, len_ok (by simp at hsl ⊢; omega), fun a3 => ?_⟩
    rw [List.take_length]
    walk_at "mvs"
    intro one
    refine addG_list (by walk_at "mv_mem") (by walk_at "mv_mem") rfl rfl (len_ok (by simp at hsl ⊢; omega)) fun s2 => ?_
    walk_at "mvs"
    refine ⟨(s2, .list (((q :: r).tail ++ [(x, v)]).map kvV)) :: σ, ?_, hq s2⟩
    rw [List.map_append]
    walk_at "mv_sub"
  · refine if_ff (decide_eq_false (by omega)) ?_
    rw [if_neg hcc] at hput
    rw [hput] at hq
    walk_at "mvs"
    intro one
    refine addG_list (by walk_at "mv_mem") (by walk_at "mv_mem") rfl rfl (len_ok (by simp; omega)) fun s2 => ?_
    walk_at "mvs"
    refine ⟨(s2, .list ((sans ps x ++ [(x, v)]).map kvV)) :: σ, ?_, hq s2⟩
    rw [List.map_append]
    walk_at "mv_sub"
theorem bind_pm {pm code doc : Value} : ∀ cvs : List Value, cvs.length = 2 → bindArgs (docDef (defAt pw_k6_0091 6).name (defAt pw_k6_0091 6).params (defAt pw_k6_0091 6).body (defAt pw_k6_0091 6).scope pm code doc) ⟨cvs, []⟩ = pure ((["ops", "capacity"] : List Str).zip cvs)
  | [a, b], _ => rfl
theorem model_spec {oa : Addr} {ob : O} {ops : List Op} {K : List Str} {cap : Int} {f : Addr} {pm code doc : Value} {fg : Addr} {pmg codeg docg : Value} {fp : Addr} {pmp codep docp : Value} {Q : V → St → Prop} (C : Ctx Bs mg mb) (hF : FnAt Bs mg "play_model" (defAt pw_k6_0091 6) f pm code doc)
    (hG : FnAt Bs mg "plain_get" (defAt pw_k6_0091 3) fg pmg codeg docg) (hP : FnAt Bs mg "plain_put" (defAt pw_k6_0091 4) fp pmp codep docp) (BL : BIs Bs mg mb "len" (.builtin "len"))
    (hm : (oa, ob) ∈ σ) (hl : ob.peel = .list (ops.map opV)) (hn : ops.length ≤ 100) (hK : ∀ o ∈ ops, o.2.1 ∈ K) (hKo : ∀ x ∈ K, PyData.strOk x = true) (hc : 1 ≤ cap)
    (hq : ∀ g li, Q (.tup [.ref g, .ref li]) ((li, .list ((playM ops cap).2.map kvV)) :: (g, .list ((playM ops cap).1.map anV)) :: σ)) : EvF prog w Bs (k + 2) (.ref f) [.ref oa, .int cap] σ Q := by
  refine evf_nc (ps := ["ops", "capacity"]) C hF bind_pm rfl (by decide) (by decide) fun L => ?_
  walk_at "mvs"
  intro pr
  walk_at "mvs"
  intro gv
  walk_at "mvs"
  refine evx_for_list ?_
  walk_at "mvs"
  refine ⟨oa, ob, _, rfl, by walk_at "mv_mem", hl, fun pre m s => ∃ qs pr, pre = qs.map opV ∧ m = ([("ops", .ref oa), ("capacity", .int cap), ("pairs", .ref pr), ("gave", .ref gv)] : Env') ∧
    s = ((gv, .list ((playM qs cap).1.map anV)) :: (pr, .list ((playM qs cap).2.map kvV)) :: σ : St), _, _, ?_, ?_, ⟨[], pr, rfl, rfl, rfl⟩, ?_, ?_⟩
  · walk_at "mv_le"
  · walk_at "mv_sub"
  · rintro pre v post m s e ⟨qs, pr, rfl, rfl, rfl⟩
    obtain ⟨o, qs2, rfl, rfl, rfl⟩ := op_split e
    obtain ⟨I, _, hal⟩ := playM_inv (K := K) hc qs fun o ho => hK o (List.mem_append_left _ ho)
    have hlen := I.len
    have hroom := I.room
    have hnd := I.nd
    have hmem := I.mem
    have hqn : qs.length ≤ 99 := by simp at hn; omega
    have snoc := playM_snoc qs o cap
    generalize playM qs cap = st at *
    obtain ⟨gave, ps⟩ := st
    have hgl : gave.length = qs.length := hal
    obtain ⟨g, x, v⟩ := o
    refine evs_join (α := Addr) (fun _ => True) (fun pr2 => [("ops", .ref oa), ("capacity", .int cap), ("pairs", .ref pr2), ("gave", .ref gv), ("op", opV (g, x, v)), ("answer", anV (stepM ps (g, x, v) cap).1)]) (fun pr2 => (pr2, .list ((stepM ps (g, x, v) cap).2.map kvV)) :: (gv, .list (gave.map anV)) :: σ) ?_ ?_
    · walk_at "mvs"
      cases g with
      | true =>
        walk_at "mvs"
        refine evx_assign_tuple (es := [("pairs", _), ("answer", _)]) ?_ (fun p hp => by simp only [List.mem_cons, List.not_mem_nil, or_false] at hp; rcases hp with rfl | rfl <;> rfl)
        walk_at "mvs"
        refine pget_spec (v0 := v) (cap := cap) C hG (by walk_at "mv_mem") rfl hnd (by omega) (fun q hq => hKo _ (hmem q hq)) fun c => ?_
        refine ⟨_, rfl, rfl, ?_⟩
        walk_at "mvs"
        exact ⟨rfl, c, trivial, by walk_at "mv_le", by walk_at "mv_sub"⟩
      | false =>
        walk_at "mvs"
        refine evx_assign_tuple (es := [("pairs", _), ("answer", _)]) ?_ (fun p hp => by simp only [List.mem_cons, List.not_mem_nil, or_false] at hp; rcases hp with rfl | rfl <;> rfl)
        walk_at "mvs"
        refine pput_spec C hP BL (by walk_at "mv_mem") rfl hnd (by omega) hc hroom fun c => ?_
        refine ⟨_, rfl, rfl, ?_⟩
        walk_at "mvs"
        exact ⟨rfl, c, trivial, by walk_at "mv_le", by walk_at "mv_sub"⟩
    intro pr2 _
    walk_at "mvs"
    refine bf_append (by walk_at "mv_up") (len_ok (by simp; omega)) ?_
    walk_at "mvs"
    refine ⟨_, _, ?_, ?_, ?_, qs ++ [(g, x, v)], pr2, by simp, rfl, rfl⟩
    · walk_at "mv_le"
    · rw [snoc]
      simp only [playF, List.map_append, List.map_cons, List.map_nil]
      walk_at "mv_sub"
    · exact .tail _ (.tail _ hm)
  · rintro m1 σ1 m s h1 h2 ⟨qs, pr, e, rfl, rfl⟩
    obtain rfl : ops = qs := opVs_inj e
    refine EvSt.le h1 (EvSt.subP h2 ?_)
    walk_at "mvs"
    exact ⟨_, by walk_at "mv_sub", hq gv pr⟩
theorem bind_lcm {pm code doc : Value} : ∀ cvs : List Value, cvs.length = 2 → bindArgs (docDef (defAt pw_k6_0091 7).name (defAt pw_k6_0091 7).params (defAt pw_k6_0091 7).body (defAt pw_k6_0091 7).scope pm code doc) ⟨cvs, []⟩ = pure ((["ops", "capacity"] : List Str).zip cvs)
  | [a, b], _ => rfl
theorem lcm_spec {oa : Addr} {ob : O} {ops : List Op} {K : List Str} {cap : Int} {f : Addr} {pm code doc : Value} {fm : Addr} {pmm codem docm : Value} {fy : Addr} {pmy codey docy : Value} {fg : Addr} {pmg codeg docg : Value} {fp : Addr} {pmp codep docp : Value} {fh : Addr} {pmh codeh doch : Value} {fi : Addr} {pmi codei doci : Value} {Q : V → St → Prop} (C : Ctx Bs mg mb) (hF : FnAt Bs mg "law_the_cache_is_its_model" (defAt pw_k6_0091 7) f pm code doc)
    (hM : FnAt Bs mg "play_model" (defAt pw_k6_0091 6) fm pmm codem docm) (hY : FnAt Bs mg "play_cache" (defAt pw_k6_0091 5) fy pmy codey docy) (hPP : FnAt Bs mg "plain_put" (defAt pw_k6_0091 4) fp pmp codep docp) (hPG : FnAt Bs mg "plain_get" (defAt pw_k6_0091 3) fg pmg codeg docg) (hP : FnAt Bs mg "cache_put" (defAt pw_k6_0091 2) fh pmh codeh doch) (hG : FnAt Bs mg "cache_get" (defAt pw_k6_0091 1) fi pmi codei doci)
    (BL : BIs Bs mg mb "len" (.builtin "len")) (BLi : BIs Bs mg mb "list" (.type "list"))
    (hm : (oa, ob) ∈ σ) (hl : ob.peel = .list (ops.map opV)) (hn : ops.length ≤ 100) (hK : ∀ o ∈ ops, o.2.1 ∈ K) (hKo : ∀ x ∈ K, PyData.strOk x = true) (hc : 1 ≤ cap) (hq : Q (.bool true) σ) : EvF prog w Bs (k + 3) (.ref f) [.ref oa, .int cap] σ Q := by
  refine evf_nc (ps := ["ops", "capacity"]) C hF bind_lcm rfl (by decide) (by decide) fun L => ?_
  obtain ⟨I, ha, hal⟩ := playM_inv (K := K) hc ops hK
  walk_at "mvs"
  refine play_spec C hY hG hP BL BLi (by walk_at "mv_mem") hl hn hK hc fun g1 l1 => ?_
  walk_at "mvs"
  refine model_spec C hM hPG hPP BL (by walk_at "mv_mem") hl hn hK hKo hc fun g2 l2 => ?_
  refine ⟨_, cmp_eq_res hKo ha I.mem ha I.mem (by walk_at "mv_mem") (by walk_at "mv_mem") (by walk_at "mv_mem") (by walk_at "mv_mem"), ?_⟩
  refine ⟨σ, by walk_at "mv_sub", ?_⟩
  simpa [retOf] using hq

-- times, plainly
structure LI (ps ud : PS) (i : Nat) : Prop where
  ndu : (keys ud).Nodup
  same : ∀ x, x ∈ keys ud ↔ x ∈ keys ps
  inc : (ps.map fun p => cnt ud p.1).Pairwise (· < ·)
  lt : ∀ p ∈ ps, cnt ud p.1 < i
theorem LI.init : LI [] [] 0 := ⟨by simp [keys], fun x => Iff.rfl, by simp, by simp⟩
theorem LI.later {ps ud : PS} {i : Nat} (h : LI ps ud i) : LI ps ud (i + 1) := ⟨h.ndu, h.same, h.inc, fun p hp => by have := h.lt p hp; omega⟩
theorem cnt_putP (ud : PS) (x y : Str) (v : Int) : cnt (putP ud x v) y = if y = x then v else cnt ud y := by
  unfold cnt
  rw [putP_lookup]
  by_cases h : y = x
  · simp [h]
  · simp [h]
theorem cnt_sans {ud : PS} {x y : Str} (h : y ≠ x) : cnt (sans ud x) y = cnt ud y := by
  have : ∀ (l : PS), (sans l x).lookup y = l.lookup y := by
    intro l
    induction l with
    | nil => rfl
    | cons p r ih =>
      obtain ⟨z, v⟩ := p
      unfold sans at ih ⊢
      rw [List.filter_cons]
      by_cases hz : z = x
      · rw [if_neg (by simp [hz]), ih, List.lookup_cons]
        have : (y == z) = false := by simpa [hz] using h
        rw [this]
      · rw [if_pos (by simp [hz]), List.lookup_cons, List.lookup_cons, ih]
  unfold cnt
  rw [this]
theorem LI.put {ps ud ps1 ud1 : PS} {i : Nat} {x : Str} {v : Int} (h : LI ps ud i) (hs : ps1.Sublist ps) (hx : x ∉ keys ps1) (nd1 : (keys ud1).Nodup) (same1 : ∀ y, y ≠ x → (y ∈ keys ud1 ↔ y ∈ keys ps1)) (cnt1 : ∀ y ∈ keys ps1, cnt ud1 y = cnt ud y) : LI (ps1 ++ [(x, v)]) (putP ud1 x i) (i + 1) := by
  have ec : ∀ p ∈ ps1, cnt (putP ud1 x i) p.1 = cnt ud p.1 := fun p hp => by
    have hk : p.1 ∈ keys ps1 := List.mem_map_of_mem (f := (·.1)) hp
    rw [cnt_putP, if_neg (fun e : p.1 = x => hx (e ▸ hk))]
    exact cnt1 _ hk
  refine ⟨putP_nodup nd1 _ _, fun y => ?_, ?_, fun p hp => ?_⟩
  · rw [putP_keys]
    have e2 : y ∈ keys (ps1 ++ [(x, v)]) ↔ y ∈ keys ps1 ∨ y = x := by simp [keys]
    rw [e2]
    by_cases hy : y = x
    · subst hy
      constructor
      · intro _; exact .inr rfl
      · intro _
        split
        · assumption
        · exact List.mem_append_right _ (.head _)
    · have := same1 y hy
      split
      · rw [this]; simp [hy]
      · rw [List.mem_append, this]; simp [hy]
  · rw [List.map_append, List.pairwise_append]
    have e : (ps1.map fun p => cnt (putP ud1 x i) p.1) = ps1.map fun p => cnt ud p.1 := List.map_congr_left ec
    rw [e]
    refine ⟨h.inc.sublist (hs.map _), List.pairwise_singleton _ _, fun a ha b hb => ?_⟩
    obtain ⟨p, hp, rfl⟩ := List.mem_map.mp ha
    have hb' : b = (i : Int) := by simpa [cnt_putP] using hb
    rw [hb']
    exact h.lt p (hs.subset hp)
  · rcases List.mem_append.mp hp with hp | hp
    · rw [ec p hp]; have := h.lt p (hs.subset hp); omega
    · rw [List.mem_singleton.mp hp, cnt_putP, if_pos rfl]; omega
theorem LI.inj {ps ud : PS} {i : Nat} (h : LI ps ud i) {y z : Str} (hy : y ∈ keys ps) (hz : z ∈ keys ps) (e : cnt ud y = cnt ud z) : y = z := by
  obtain ⟨p, hp, rfl⟩ := List.mem_map.mp hy
  obtain ⟨q, hq, rfl⟩ := List.mem_map.mp hz
  obtain ⟨a, ha, rfl⟩ := List.mem_iff_getElem.mp hp
  obtain ⟨b, hb, rfl⟩ := List.mem_iff_getElem.mp hq
  have key := List.pairwise_iff_getElem.mp h.inc
  have ha' : a < (ps.map fun p => cnt ud p.1).length := by simpa using ha
  have hb' : b < (ps.map fun p => cnt ud p.1).length := by simpa using hb
  rcases Nat.lt_trichotomy a b with q | q | q
  · have := key a b ha' hb' q
    simp only [List.getElem_map] at this
    omega
  · subst q; rfl
  · have := key b a hb' ha' q
    simp only [List.getElem_map] at this
    omega
def tms (ud : PS) : List TK2 := (keys ud).map fun y => (cnt ud y, y)
theorem LI.diff {ps ud : PS} {i : Nat} (h : LI ps ud i) : ∀ (a b : Nat) (p q : TK2), (tms ud)[a]? = some p → (tms ud)[b]? = some q → p.1 = q.1 → a = b := by
  intro a b p q ha hb e
  unfold tms at ha hb
  rw [List.getElem?_map] at ha hb
  obtain ⟨y, hy, rfl⟩ := Option.map_eq_some_iff.mp ha
  obtain ⟨z, hz, rfl⟩ := Option.map_eq_some_iff.mp hb
  have eyz : y = z := h.inj ((h.same y).mp (List.mem_of_getElem? hy)) ((h.same z).mp (List.mem_of_getElem? hz)) e
  subst eyz
  obtain ⟨ha', ea⟩ := List.getElem?_eq_some_iff.mp hy
  obtain ⟨hb', eb⟩ := List.getElem?_eq_some_iff.mp hz
  have key := List.pairwise_iff_getElem.mp h.ndu
  rcases Nat.lt_trichotomy a b with q | q | q
  · exact absurd (ea.trans eb.symm) (key a b ha' hb' q)
  · exact q
  · exact absurd (eb.trans ea.symm) (key b a hb' ha' q)
theorem LI.min {p : Str × Int} {r ud : PS} {i : Nat} (h : LI (p :: r) ud i) {q : TK2} (hq : q ∈ tms ud) (hm : ∀ q' ∈ tms ud, q.1 ≤ q'.1) : q.2 = p.1 := by
  obtain ⟨y, hy, rfl⟩ := List.mem_map.mp hq
  have hy2 := (h.same y).mp hy
  have hp : p.1 ∈ keys ud := (h.same p.1).mpr (.head _)
  have h1 : cnt ud y ≤ cnt ud p.1 := hm (cnt ud p.1, p.1) (List.mem_map_of_mem hp)
  rcases List.mem_cons.mp hy2 with e | hy3
  · exact e
  · obtain ⟨q', hq', rfl⟩ := List.mem_map.mp hy3
    have hh : cnt ud p.1 < cnt ud q'.1 := (List.pairwise_cons.mp h.inc).1 (cnt ud q'.1) (List.mem_map_of_mem (f := fun p : Str × Int => cnt ud p.1) hq')
    omega
theorem LI.sorted {ps ud : PS} {i : Nat} (h : LI ps ud i) (ndp : (keys ps).Nodup) {ts : List TK2} (hp : ts.Perm (tms ud)) (hs : ts.Pairwise fun a b => a.1 < b.1) : ts = ps.map fun p => (cnt ud p.1, p.1) := by
  have e : (ps.map fun p => (cnt ud p.1, p.1)) = (keys ps).map fun y => (cnt ud y, y) := by simp [keys]
  rw [e]
  refine List.Perm.eq_of_pairwise (le := fun a b => a.1 < b.1) (fun a b _ _ x y => by omega) hs ?_ (hp.trans ((perm_of_keys h.ndu ndp h.same).map _))
  rw [← e, List.pairwise_map]
  have := h.inc
  rw [List.pairwise_map] at this
  exact this
theorem LI.len {ps ud : PS} {i : Nat} (h : LI ps ud i) (ndp : (keys ps).Nodup) : ud.length = ps.length := by
  have := (perm_of_keys h.ndu ndp h.same).length_eq
  simpa [keys] using this
theorem take_snoc {ops : List Op} {i : Nat} (h : i < ops.length) : ops.take (i + 1) = ops.take i ++ [ops[i]] := by
  rw [List.take_add_one]; simp [h]

end
section
variable {prog : Program} {w : World} {Bs : Heap} {k : Nat} {σ : St} {mg mb : Str → Option Value}
theorem bind_lru {pm code doc : Value} : ∀ cvs : List Value, cvs.length = 2 → bindArgs (docDef (defAt pw_k6_0091 10).name (defAt pw_k6_0091 10).params (defAt pw_k6_0091 10).body (defAt pw_k6_0091 10).scope pm code doc) ⟨cvs, []⟩ = pure ((["ops", "capacity"] : List Str).zip cvs)
  | [a, b], _ => rfl
theorem lru_spec {oa : Addr} {ob : O} {ops : List Op} {K : List Str} {cap : Int} {f : Addr} {pm code doc : Value} {Q : V → St → Prop} (C : Ctx Bs mg mb) (hF : FnAt Bs mg "_law_lru" (defAt pw_k6_0091 10) f pm code doc) (BL : BIs Bs mg mb "len" (.builtin "len")) (BR : BIs Bs mg mb "range" (.type "range")) (BM : BIs Bs mg mb "min" (.builtin "min")) (BS : BIs Bs mg mb "sorted" (.builtin "sorted"))
    (hm : (oa, ob) ∈ σ) (hl : ob.peel = .list (ops.map opV)) (hn : ops.length ≤ 50) (hK : ∀ o ∈ ops, o.2.1 ∈ K) (hc : 1 ≤ cap)
    (hq : ∀ g li, Q (.tup [.ref g, .ref li]) ((li, .list ((playM ops cap).2.map kvV)) :: (g, .list ((playM ops cap).1.map anV)) :: σ)) : EvF prog w Bs (k + 1) (.ref f) [.ref oa, .int cap] σ Q := by
  refine evf_cs (ps := ["ops", "capacity"]) C hF bind_lru rfl (by decide) [("ops", .ref oa), ("capacity", .int cap)] (fun L => (L + 1 + 1, .cell none) :: (L + 1, .cell none) :: σ) rfl (fun L => rfl) fun L => ?_
  walk_at "mvs"
  intro u
  walk_at "mvs"
  intro h
  walk_at "mvs"
  intro gv
  walk_at "mvs"
  refine evx_for_range ?_
  walk_at "mvs"
  refine bf_len_list (by walk_at "mv_mem") hl (len_ok (by simp; omega)) ?_
  walk_at "mvs"
  refine bf_range1 fun r t1 t2 t3 => ?_
  refine ⟨r, _, t1, t2, t3, _, ops.length, rfl, rfl, by simp, by simp; omega, fun i m s => ∃ ud hd : PS, m = ([("ops", .ref oa), ("capacity", .int cap), ("gave", .ref gv)] : Env') ∧ s = ((gv, .list ((playM (ops.take i) cap).1.map anV)) :: (h, .dict (kvI hd)) :: (u, .dict (kvI ud)) :: (L + 1 + 1, .cell (some (.ref h))) :: (L + 1, .cell (some (.ref u))) :: σ : St) ∧ LI (playM (ops.take i) cap).2 ud i ∧ hd.length ≤ i ∧ ∀ p ∈ (playM (ops.take i) cap).2, hd.lookup p.1 = some p.2, _, _, ?_, ?_, ⟨[], [], rfl, rfl, .init, by simp, by simp [playM]⟩, ?_, ?_⟩
  · walk_at "mv_le"
  · walk_at "mv_sub"
  · rintro i m s hi ⟨ud, hd, rfl, rfl, hLI, hhd, hheld⟩
    obtain ⟨I, _, hal⟩ := playM_inv (K := K) hc (ops.take i) fun o ho => hK o (List.mem_of_mem_take ho)
    have hlen := I.len
    have hroom := I.room
    have hnd := I.nd
    have hti : (ops.take i).length = i := by simp; omega
    have hul := hLI.len hnd
    have snoc := playM_snoc (ops.take i) ops[i] cap
    rw [← take_snoc hi] at snoc
    have hget : (ops.map opV)[i]? = some (opV ops[i]) := by simp [hi]
    generalize ops[i] = o at *
    generalize playM (ops.take i) cap = st at *
    obtain ⟨gave, ps⟩ := st
    have hgl : gave.length = i := hal.trans hti
    obtain ⟨g, x, v⟩ := o
    have fin : ∀ ud' hd' : PS, ∀ m' s', leE [("ops", .ref oa), ("capacity", .int cap), ("gave", .ref gv)] m' → SubP ((gv, .list ((gave ++ [(stepM ps (g, x, v) cap).1]).map anV)) :: (h, .dict (kvI hd')) :: (u, .dict (kvI ud')) :: (L + 1 + 1, .cell (some (.ref h))) :: (L + 1, .cell (some (.ref u))) :: σ) s' →
        LI (stepM ps (g, x, v) cap).2 ud' (i + 1) → hd'.length ≤ i + 1 → (∀ p ∈ (stepM ps (g, x, v) cap).2, hd'.lookup p.1 = some p.2) →
        ∃ m1 σ1, leE m1 m' ∧ SubP σ1 s' ∧ ∃ ud hd : PS, m1 = ([("ops", .ref oa), ("capacity", .int cap), ("gave", .ref gv)] : Env') ∧ σ1 = ((gv, .list ((playM (ops.take (i + 1)) cap).1.map anV)) :: (h, .dict (kvI hd)) :: (u, .dict (kvI ud)) :: (L + 1 + 1, .cell (some (.ref h))) :: (L + 1, .cell (some (.ref u))) :: σ : St) ∧ LI (playM (ops.take (i + 1)) cap).2 ud (i + 1) ∧ hd.length ≤ i + 1 ∧ ∀ p ∈ (playM (ops.take (i + 1)) cap).2, hd.lookup p.1 = some p.2 :=
      fun ud' hd' m' s' q1 q2 q3 q4 q5 => ⟨_, _, q1, q2, ud', hd', rfl, by rw [snoc]; rfl, by rw [snoc]; exact q3, q4, by rw [snoc]; exact q5⟩
    refine evs_cons ?_
    refine evx_assign_tuple (es := [("deed", _), ("key", _), ("value", _)]) ?_ (fun p hp => by simp only [List.mem_cons, List.not_mem_nil, or_false] at hp; rcases hp with rfl | rfl | rfl <;> rfl)
    walk_at "mvs"
    refine ⟨_, Item.list (v := opV (g, x, v)) (by walk_at "mv_mem") hl (by omega) (by omega) (by rw [Int.toNat_natCast]; exact hget), ?_⟩
    refine ⟨_, rfl, rfl, ?_⟩
    have hz1 : ud.length ≤ 60 := by
      have : ps.length ≤ (ops.take i).length := hlen
      omega
    have hz2 : hd.length ≤ 60 := by omega
    have inud : ((kvI ud).lookup x).isSome = (ps.lookup x).isSome := by
      rw [kvI_lookup, Option.isSome_map]
      rw [Bool.eq_iff_iff, ← mem_keys_iff, ← mem_keys_iff]
      exact hLI.same x
    cases g with
    | true =>
      walk_at "mvs"
      refine ⟨_, (CmpH.inD (by walk_at "mv_mem") rfl).gen, ?_⟩
      rw [inud]
      cases hv : ps.lookup x with
      | none =>
        have es : stepM ps (true, x, v) cap = (.no, ps) := by simp [stepM, hv]
        walk_at "mvs"
        refine bf_append (by walk_at "mv_up") (len_ok (by simp; omega)) ?_
        walk_at "mvs"
        refine fin ud hd _ _ (by walk_at "mv_le") ?_ (by rw [es]; exact hLI.later) (by omega) (by rw [es]; exact hheld)
        rw [es, List.map_append]
        walk_at "mv_sub"
      | some w0 =>
        have es : stepM ps (true, x, v) cap = (.num w0, sans ps x ++ [(x, w0)]) := by simp [stepM, hv]
        have hp0 : (x, w0) ∈ ps := lookup_mem hv
        walk_at "mvs"
        refine ⟨_, _, _, _, rfl, rfl, by walk_at "mv_up", len_ok (by rw [kvI_length]; omega), ?_⟩
        walk_at "mvs"
        refine ⟨_, Item.dict (v := .int w0) (by walk_at "mv_mem") rfl (by rw [kvI_lookup, hheld _ hp0]; rfl), ?_⟩
        walk_at "mvs"
        refine bf_append (by walk_at "mv_up") (len_ok (by simp; omega)) ?_
        walk_at "mvs"
        refine fin (putP ud x i) hd _ _ (by walk_at "mv_le") ?_ ?_ (by omega) ?_
        · rw [es, List.map_append, kvI_putP]
          walk_at "mv_sub"
        · rw [es]
          exact hLI.put (List.filter_sublist) keys_sans_off hLI.ndu (fun y hy => by
            rw [hLI.same y, keys_sans_eq, List.mem_filter]; simp [hy]) fun y _ => rfl
        · rw [es]
          intro p hp
          rcases List.mem_append.mp hp with hp | hp
          · exact hheld p (sans_mem hp).1
          · rw [List.mem_singleton.mp hp]; exact hheld _ hp0
    | false =>
      have es : stepM ps (false, x, v) cap = (.key (putD ps x cap).1, (putD ps x cap).2 ++ [(x, v)]) := by simp [stepM]
      have hsub : (putD ps x cap).2.Sublist ps := by
        unfold putD
        split
        · exact List.filter_sublist
        · split
          · exact List.tail_sublist ps
          · exact List.Sublist.refl _
      walk_at "mv"
      walk_at "mws"
      refine evs_join (α := PS) (fun ud1 => (keys ud1).Nodup ∧ (∀ y, y ≠ x → (y ∈ keys ud1 ↔ y ∈ keys (putD ps x cap).2)) ∧ (∀ y ∈ keys (putD ps x cap).2, cnt ud1 y = cnt ud y) ∧ ud1.length ≤ 60)
        (fun _ => [("ops", .ref oa), ("capacity", .int cap), ("gave", .ref gv), ("i", .int i), ("key", .str x), ("value", .int v), ("dropped", .str (putD ps x cap).1)])
        (fun ud1 => (gv, .list (gave.map anV)) :: (h, .dict (kvI hd)) :: (u, .dict (kvI ud1)) :: (L + 1 + 1, .cell (some (.ref h))) :: (L + 1, .cell (some (.ref u))) :: σ) ?_ ?_
      · walk_at "mvs"
        refine ⟨_, (CmpH.notInD (by walk_at "mv_mem") rfl).gen, ?_⟩
        rw [inud]
        cases hv : ps.lookup x with
        | some w0 =>
          have ep : putD ps x cap = (("", sans ps x) : Str × PS) := by simp [putD, hv]
          rw [ep]
          walk_at "mvs"
          exact ⟨rfl, ud, ⟨hLI.ndu, fun y hy => by rw [hLI.same y, keys_sans_eq, List.mem_filter]; simp [hy], fun _ _ => rfl, hz1⟩, by walk_at "mv_le", by walk_at "mv_sub"⟩
        | none =>
          have hxp : x ∉ keys ps := lookup_none_iff.mp hv
          walk_at "mvs"
          refine bf_len_dict (by walk_at "mv_mem") rfl (len_ok (by rw [kvI_length]; omega)) ?_
          rw [kvI_length, hul]
          walk_at "mvs"
          by_cases hcap : cap ≤ (ps.length : Int)
          · rw [decide_eq_true hcap]
            obtain ⟨q, r, rfl⟩ : ∃ q r, ps = q :: r := by
              cases ps with
              | nil => simp at hcap; omega
              | cons q r => exact ⟨q, r, rfl⟩
            have ep : putD (q :: r) x cap = (q.1, r) := by simp only [putD, hv, Option.isSome_none, Bool.false_eq_true, if_false, if_pos hcap]; rfl
            rw [ep]
            have hqk : q.1 ∈ keys ud := (hLI.same q.1).mpr (.head _)
            have hqr : q.1 ∉ keys r := (List.nodup_cons.mp hnd).1
            walk_at "mvs"
            refine its_dict (kvs := kvI ud) (σf := fun c => (gv, .list (gave.map anV)) :: (h, .dict (kvI hd)) :: (u, .fix c (.dict (kvI ud))) :: (L + 1 + 1, .cell (some (.ref h))) :: (L + 1, .cell (some (.ref u))) :: σ) (fun c => by walk_at "mv_up") fun c => ?_
            dsimp only
            rw [kvI_keys]
            refine ⟨len_ok (by simp [keys]; omega), fun C' => compB_pure V.str (fun _ => true) (fun y => tkV (cnt ud y, y)) (keys ud) [] ?_ ?_ (by walk_at "mv_mem") ?_⟩
            · intro y hy
              walk_at "mvs"
              exact ⟨rfl, SubP.refl _⟩
            · intro y hy _
              walk_at "mvs"
              refine ⟨_, Item.dict (v := .int (cnt ud y)) (by walk_at "mv_mem") rfl ?_, ?_⟩
              · rw [kvI_lookup]
                have := mem_keys_iff.mp hy
                unfold cnt
                cases hy2 : ud.lookup y with
                | none => rw [hy2] at this; cases this
                | some t => rfl
              walk_at "mvs"
              exact ⟨rfl, SubP.refl _⟩
            rw [filter_tt, List.nil_append, show ((keys ud).map fun y => tkV (cnt ud y, y)) = (tms ud).map tkV by simp [tms]]
            intro D
            walk_at "mvs"
            refine bf_min_tk (ts := tms ud) (by walk_at "mv_mem") rfl (fun e => ?_) hLI.diff fun q0 hq1 hq2 => ?_
            · have := congrArg List.length e
              simp [tms, keys] at this
              rw [this] at hul
              simp at hul
            refine ev_int ?_
            refine ⟨V.str q0.2, Item.tup (vs := [.int q0.1, .str q0.2]) (by decide) (by decide) rfl, ?_⟩
            rw [hLI.min hq1 hq2]
            refine EvSt.unfix (a := u) (c := c) (o := .dict (kvI ud)) (by walk_at "mv_up") ?_
            walk_at "mvs"
            walk_at "dpop"
            walk_at "mvs"
            have hlq : (kvI ud).lookup q.1 = some (.int (cnt ud q.1)) := by
              rw [kvI_lookup]
              have := mem_keys_iff.mp hqk
              unfold cnt
              cases hy2 : ud.lookup q.1 with
              | none => rw [hy2] at this; cases this
              | some t => rfl
            refine bf_pop (v := .int (cnt ud q.1)) (by rw [kvI_ddel]; walk_at "mv_up") (len_ok (by rw [kvI_length]; omega)) hlq ?_
            walk_at "mvs"
            refine ⟨rfl, sans ud q.1, ⟨keys_sans hLI.ndu, fun y hy => ?_, fun y hy => cnt_sans fun e => hqr (e ▸ hy), by have := sans_length_le ud q.1; omega⟩, by walk_at "mv_le", by walk_at "mv_sub"⟩
            rw [keys_sans_eq, List.mem_filter, hLI.same y]
            constructor
            · rintro ⟨h1, h2⟩
              rcases List.mem_cons.mp h1 with e | h1
              · simp [e] at h2
              · exact h1
            · intro h1
              have hy0 : y ≠ q.1 := fun e => hqr (e ▸ h1)
              exact ⟨.tail _ h1, by simp [hy0]⟩
          · rw [decide_eq_false hcap]
            have ep : putD ps x cap = (("", ps) : Str × PS) := by simp [putD, hv, hcap]
            rw [ep]
            walk_at "mvs"
            exact ⟨rfl, ud, ⟨hLI.ndu, fun y hy => hLI.same y, fun _ _ => rfl, hz1⟩, by walk_at "mv_le", by walk_at "mv_sub"⟩
      rintro ud1 ⟨n1, n2, n3, n4⟩
      walk_at "mvs"
      refine ⟨_, _, _, _, rfl, rfl, by walk_at "mv_up", len_ok (by rw [kvI_length]; omega), ?_⟩
      walk_at "mvs"
      refine ⟨_, _, _, _, rfl, rfl, by walk_at "mv_up", len_ok (by rw [kvI_length]; omega), ?_⟩
      walk_at "mvs"
      refine bf_append (by walk_at "mv_up") (len_ok (by simp; omega)) ?_
      walk_at "mvs"
      refine fin (putP ud1 x i) (putP hd x v) _ _ (by walk_at "mv_le") ?_ ?_ ?_ ?_
      · rw [es, List.map_append, kvI_putP, kvI_putP]
        walk_at "mv_sub"
      · rw [es]
        exact hLI.put hsub putD_off n1 n2 n3
      · have := putP_len hd x v; omega
      · rw [es]
        intro p hp
        rw [putP_lookup]
        rcases List.mem_append.mp hp with hp | hp
        · have hne : p.1 ≠ x := fun e => by
            have hk : p.1 ∈ keys (putD ps x cap).2 := List.mem_map_of_mem (f := (·.1)) hp
            rw [e] at hk
            exact putD_off hk
          rw [if_neg (by simpa using hne)]
          exact hheld p (putD_mem p hp)
        · rw [List.mem_singleton.mp hp]; simp
  · rintro m1 σ1 m s h1 h2 ⟨ud, hd, rfl, rfl, hLI, hhd, hheld⟩
    refine EvSt.le h1 (EvSt.subP h2 ?_)
    obtain ⟨I, _, hal⟩ := playM_inv (K := K) hc ops hK
    rw [List.take_length] at hLI hheld ⊢
    have hul := hLI.len I.nd
    have hlen := I.len
    refine evs_cons ?_
    refine evx_ret ?_
    refine ev_tuple ?_
    refine eva_cons ?_
    refine ev_local (by rfl) ?_
    refine eva_cons ?_
    refine ev_compT (by rfl) (by decide) (by decide) (by decide) ?_
    walk_at "mvs"
    refine its_dict (kvs := kvI ud) (σf := fun c => (gv, .list ((playM ops cap).1.map anV)) :: (h, .dict (kvI hd)) :: (u, .fix c (.dict (kvI ud))) :: (L + 1 + 1, .cell (some (.ref h))) :: (L + 1, .cell (some (.ref u))) :: σ) (fun c => by walk_at "mv_up") fun c => ?_
    dsimp only
    rw [kvI_keys]
    refine ⟨len_ok (by simp [keys]; omega), fun C' => compB_pure V.str (fun _ => true) (fun y => tkV (cnt ud y, y)) (keys ud) [] ?_ ?_ (by walk_at "mv_mem") ?_⟩
    · intro y hy
      walk_at "mvs"
      exact ⟨rfl, SubP.refl _⟩
    · intro y hy _
      walk_at "mvs"
      refine ⟨_, Item.dict (v := .int (cnt ud y)) (by walk_at "mv_mem") rfl ?_, ?_⟩
      · rw [kvI_lookup]
        have := mem_keys_iff.mp hy
        unfold cnt
        cases hy2 : ud.lookup y with
        | none => rw [hy2] at this; cases this
        | some t => rfl
      walk_at "mvs"
      exact ⟨rfl, SubP.refl _⟩
    rw [filter_tt, List.nil_append, show ((keys ud).map fun y => tkV (cnt ud y, y)) = (tms ud).map tkV by simp [tms]]
    intro D
    walk_at "mvs"
    refine bf_sorted_tk (ts := tms ud) (by walk_at "mv_mem") rfl (by simp [tms, keys]; omega) hLI.diff fun D2 ts' p1 p2 => ?_
    obtain rfl := hLI.sorted I.nd p1 p2
    refine its_comp_listT (playM ops cap).2 (fun p => tkV (cnt ud p.1, p.1)) kvV (by walk_at "mv_mem") (by simp [O.peel]) (by omega) (fun y => ⟨_, _, rfl⟩) ?_ ?_ ?_
    · intro C' y hy
      walk_at "mvs"
      exact ⟨rfl, SubP.refl _⟩
    · intro C' y hy
      show EvE prog w Bs _ _ _ [("t", .int (cnt ud y.1)), ("k", .str y.1)] _ _
      walk_at "mvs"
      refine ⟨_, Item.dict (v := .int y.2) (by walk_at "mv_mem") rfl (by rw [kvI_lookup, hheld y hy]; rfl), ?_⟩
      walk_at "mvs"
      exact ⟨rfl, SubP.refl _⟩
    intro li
    walk_at "mvs"
    exact ⟨_, by walk_at "mv_sub", hq gv li⟩

def K7 : List Str := ["a", "b", "c", "d", "", "ab", "B"]
theorem get_K7 {j : Nat} (h : j < 7) : K7[j]? = some (K7.getD j "") := by
  have : j < K7.length := h
  simp [this]
theorem ok_K7 : ∀ x ∈ K7, PyData.strOk x = true := by decide +kernel
theorem bind_law {pm code doc : Value} : ∀ cvs : List Value, cvs.length = 1 → bindArgs (docDef (defAt pw_k6_0091 11).name (defAt pw_k6_0091 11).params (defAt pw_k6_0091 11).body (defAt pw_k6_0091 11).scope pm code doc) ⟨cvs, []⟩ = pure ((["script"] : List Str).zip cvs)
  | [a], _ => rfl
theorem law_spec {l : Addr} {ob : O} {ns : List Int} {f : Addr} {pm code doc : Value} {fr : Addr} {pmr coder docr : Value} {fc : Addr} {pmc codec docc : Value} {fz : Addr} {pmz codez docz : Value} {fm : Addr} {pmm codem docm : Value} {fy : Addr} {pmy codey docy : Value} {fg : Addr} {pmg codeg docg : Value} {fp : Addr} {pmp codep docp : Value} {fh : Addr} {pmh codeh doch : Value} {fi : Addr} {pmi codei doci : Value} {Q : V → St → Prop} (C : Ctx Bs mg mb) (hF : FnAt Bs mg "law" (defAt pw_k6_0091 11) f pm code doc)
    (hR : FnAt Bs mg "_law_lru" (defAt pw_k6_0091 10) fr pmr coder docr) (hC : FnAt Bs mg "_law_cell" (defAt pw_k6_0091 9) fc pmc codec docc) (hZ : FnAt Bs mg "law_the_cache_is_its_model" (defAt pw_k6_0091 7) fz pmz codez docz)
    (hM : FnAt Bs mg "play_model" (defAt pw_k6_0091 6) fm pmm codem docm) (hY : FnAt Bs mg "play_cache" (defAt pw_k6_0091 5) fy pmy codey docy) (hPP : FnAt Bs mg "plain_put" (defAt pw_k6_0091 4) fp pmp codep docp) (hPG : FnAt Bs mg "plain_get" (defAt pw_k6_0091 3) fg pmg codeg docg) (hP : FnAt Bs mg "cache_put" (defAt pw_k6_0091 2) fh pmh codeh doch) (hG : FnAt Bs mg "cache_get" (defAt pw_k6_0091 1) fi pmi codei doci)
    (BL : BIs Bs mg mb "len" (.builtin "len")) (BR : BIs Bs mg mb "range" (.type "range")) (BM : BIs Bs mg mb "min" (.builtin "min")) (BS : BIs Bs mg mb "sorted" (.builtin "sorted")) (BLi : BIs Bs mg mb "list" (.type "list"))
    (hl : ob.peel = .list (ns.map .int)) (hz : ns.length ≤ 63) (hq : Q (.bool true) [(l, ob)]) : EvF prog w Bs (k + 4) (.ref f) [.ref l] [(l, ob)] Q := by
  refine evf_nc (ps := ["script"]) C hF bind_law rfl (by decide) (by decide) fun L => ?_
  have hz2 : (ns.map V.int).length ≤ sizeLine := len_ok (by simp; omega)
  walk_at "mv"
  walk_at "mws"
  refine cell_spec C hC BL (by walk_at "mv_mem") hl hz (j := 0) rfl (by omega) ?_
  walk_at "mws"
  obtain ⟨cap, hcap⟩ : ∃ c : Int, c = 1 + cz ns 0 % 6 := ⟨_, rfl⟩
  rw [← hcap]
  have hc : 1 ≤ cap := by omega
  intro ke
  walk_at "mws"
  intro de
  walk_at "mws"
  refine evx_for_list ?_
  walk_at "mws"
  refine ⟨l, ob, _, _, _, rfl, by walk_at "mv_mem", hl, .int _ (by decide), .int _ (by decide), hz2, fun a2 => ?_⟩
  refine ⟨a2, _, _, rfl, by walk_at "mv_mem", rfl, fun pre m s => ∃ ops : List Op, m = ([("capacity", .int cap), ("keys", .ref ke), ("ops", .ref de)] : Env') ∧ s = ([(a2, .list (List.drop (1 : Int).toNat (List.take (13 : Int).toNat (ns.map V.int)))), (de, .list (ops.map opV)), (ke, .list (K7.map .str)), (l, ob)] : St) ∧ ops.length = pre.length ∧ ∀ o ∈ ops, o.2.1 ∈ K7, _, _, ?_, ?_, ⟨[], rfl, rfl, rfl, by simp⟩, ?_, ?_⟩
  · walk_at "mv_le"
  · walk_at "mv_sub"
  · rintro pre u post m s e ⟨ops, rfl, rfl, hol, hmem⟩
    have hlen := congrArg List.length e
    have hpl : pre.length < 12 := by
      simp at hlen
      have : (13 : Int).toNat = 13 := rfl
      have : (1 : Int).toNat = 1 := rfl
      omega
    have hu2 : u ∈ ns.map V.int := List.mem_of_mem_take (List.mem_of_mem_drop (by rw [e]; exact List.mem_append_right _ (.head _)))
    obtain ⟨c1, _, rfl⟩ := List.mem_map.mp hu2
    walk_at "mvs"
    obtain ⟨j, hj⟩ : ∃ n : Nat, c1 / 3 % 7 = (n : Int) := ⟨(c1 / 3 % 7).toNat, by omega⟩
    rw [hj]
    obtain ⟨key, hkey⟩ : ∃ key, K7[j]? = some key := ⟨_, get_K7 (by omega)⟩
    have hkm : key ∈ K7 := List.mem_of_getElem? hkey
    refine ⟨_, Item.list (v := .str key) (vs := K7.map .str) (by walk_at "mv_mem") rfl (by omega) (by omega) (by rw [Int.toNat_natCast, List.getElem?_map, hkey]; rfl), ?_⟩
    walk_at "mvs"
    have fin : ∀ (o : Op), o.2.1 = key → ∀ m' s', leE [("capacity", .int cap), ("keys", .ref ke), ("ops", .ref de)] m' → SubP [(a2, .list (List.drop (1 : Int).toNat (List.take (13 : Int).toNat (ns.map V.int)))), (de, .list (ops.map opV ++ [opV o])), (ke, .list (K7.map .str)), (l, ob)] s' →
        ∃ m1 σ1, leE m1 m' ∧ SubP σ1 s' ∧ (a2, O.list (List.drop (1 : Int).toNat (List.take (13 : Int).toNat (ns.map V.int)))) ∈ σ1 ∧ ∃ ops2 : List Op, m1 = ([("capacity", .int cap), ("keys", .ref ke), ("ops", .ref de)] : Env') ∧ σ1 = ([(a2, .list (List.drop (1 : Int).toNat (List.take (13 : Int).toNat (ns.map V.int)))), (de, .list (ops2.map opV)), (ke, .list (K7.map .str)), (l, ob)] : St) ∧ ops2.length = (pre ++ [V.int c1]).length ∧ ∀ o ∈ ops2, o.2.1 ∈ K7 :=
      fun o ho m' s' h1 h2 => ⟨_, _, h1, h2, .head _, ops ++ [o], rfl, by rw [List.map_append]; rfl, by simp [hol], fun q hq => by
        rcases List.mem_append.mp hq with h | h
        · exact hmem q h
        · rw [List.mem_singleton.mp h, ho]; exact hkm⟩
    split
    · walk_at "mvs"
      refine bf_append (by walk_at "mv_up") (len_ok (by simp; omega)) ?_
      walk_at "mvs"
      exact fin (true, key, 0) rfl _ _ (by walk_at "mv_le") (by walk_at "mv_sub")
    · walk_at "mvs"
      refine bf_append (by walk_at "mv_up") (len_ok (by simp; omega)) ?_
      walk_at "mvs"
      exact fin (false, key, c1) rfl _ _ (by walk_at "mv_le") (by walk_at "mv_sub")
  · rintro m1 σ1 m s h1 h2 ⟨ops, rfl, rfl, hol, hmem⟩
    refine EvSt.le h1 (EvSt.subP h2 ?_)
    have hn : ops.length ≤ 50 := by
      rw [hol]
      simp
      have : (13 : Int).toNat = 13 := rfl
      omega
    obtain ⟨I, ha, hal⟩ := playM_inv (K := K7) hc ops hmem
    walk_at "mws"
    refine bf_list_list (by walk_at "mv_mem") rfl (len_ok (by simp; omega)) fun kp => ?_
    walk_at "mvs"
    refine lcm_spec C hZ hM hY hPP hPG hP hG BL BLi (by walk_at "mv_mem") rfl (by omega) hmem ok_K7 hc ?_
    walk_at "mvs"
    refine ⟨_, cmp_ne_ops ok_K7 hmem (by walk_at "mv_mem") rfl (by walk_at "mv_mem") rfl, ?_⟩
    walk_at "mvs"
    refine lru_spec C hR BL BR BM BS (by walk_at "mv_mem") rfl hn hmem hc fun g1 l1 => ?_
    walk_at "mvs"
    refine play_spec C hY hG hP BL BLi (by walk_at "mv_mem") rfl (by omega) hmem hc fun g2 l2 => ?_
    walk_at "mvs"
    refine ⟨_, cmp_ne_res ok_K7 ha I.mem ha I.mem (by walk_at "mv_mem") (by walk_at "mv_mem") (by walk_at "mv_mem") (by walk_at "mv_mem"), ?_⟩
    refine if_ff (by simp) ?_
    walk_at "mvs"
    refine model_spec C hM hPG hPP BL (by walk_at "mv_mem") rfl (by omega) hmem ok_K7 hc fun g3 l3 => ?_
    walk_at "mvs"
    refine ⟨_, cmp_ne_res ok_K7 ha I.mem ha I.mem (by walk_at "mv_mem") (by walk_at "mv_mem") (by walk_at "mv_mem") (by walk_at "mv_mem"), ?_⟩
    refine if_ff (by simp) ?_
    walk_at "mvs"
    exact ⟨_, by walk_at "mv_sub", hq⟩
end
end Mine

open PySem PySem.W PyProof.Rows Mine
set_option Elab.async false
set_option maxRecDepth 100000 in
set_option maxHeartbeats 8000000 in
theorem PySem.Challenge.cw_k6_0091_holds : PySem.Challenge.rw_k6_0091.Holds := by
  w_on
  o_law
  k_head
  (case hw => w_witness2)
  k_fill
  intro w s₀ s₁ mg mb G Y fa o pm cd doc dV kV ho hd hcd hD hmg hg args vals as hpre hlay hrd hwl hlo
  have KX := kIn_of Y
  have hlo2 := hlo
  refine Ground.open G ?_
  intro T B D TE TW
  wrow_args hpre hlay hrd hwl hlo
  rename_i ns hs hlay0 hL1 hr1 hl2 bs cs l vs ds hL ra w1 r0 hI hr hc1 hc2
  have ho1 := lst_of hL w1
  have hsys := sys_of r0 hlo2
  have hlen : ns.length ≤ 63 := by omega
  obtain ⟨f11, pm11, code11, doc11, F11⟩ := fn_mask ho1 T (fn := "law") (d := defAt Challenge.pw_k6_0091 11) (by repeat (first | exact List.Mem.head _ | refine List.Mem.tail _ ?_)) rfl
  obtain ⟨f10, pm10, code10, doc10, F10⟩ := fn_mask ho1 T (fn := "_law_lru") (d := defAt Challenge.pw_k6_0091 10) (by repeat (first | exact List.Mem.head _ | refine List.Mem.tail _ ?_)) rfl
  obtain ⟨f9, pm9, code9, doc9, F9⟩ := fn_mask ho1 T (fn := "_law_cell") (d := defAt Challenge.pw_k6_0091 9) (by repeat (first | exact List.Mem.head _ | refine List.Mem.tail _ ?_)) rfl
  obtain ⟨f7, pm7, code7, doc7, F7⟩ := fn_mask ho1 T (fn := "law_the_cache_is_its_model") (d := defAt Challenge.pw_k6_0091 7) (by repeat (first | exact List.Mem.head _ | refine List.Mem.tail _ ?_)) rfl
  obtain ⟨f6, pm6, code6, doc6, F6⟩ := fn_mask ho1 T (fn := "play_model") (d := defAt Challenge.pw_k6_0091 6) (by repeat (first | exact List.Mem.head _ | refine List.Mem.tail _ ?_)) rfl
  obtain ⟨f5, pm5, code5, doc5, F5⟩ := fn_mask ho1 T (fn := "play_cache") (d := defAt Challenge.pw_k6_0091 5) (by repeat (first | exact List.Mem.head _ | refine List.Mem.tail _ ?_)) rfl
  obtain ⟨f4, pm4, code4, doc4, F4⟩ := fn_mask ho1 T (fn := "plain_put") (d := defAt Challenge.pw_k6_0091 4) (by repeat (first | exact List.Mem.head _ | refine List.Mem.tail _ ?_)) rfl
  obtain ⟨f3, pm3, code3, doc3, F3⟩ := fn_mask ho1 T (fn := "plain_get") (d := defAt Challenge.pw_k6_0091 3) (by repeat (first | exact List.Mem.head _ | refine List.Mem.tail _ ?_)) rfl
  obtain ⟨f2, pm2, code2, doc2, F2⟩ := fn_mask ho1 T (fn := "cache_put") (d := defAt Challenge.pw_k6_0091 2) (by repeat (first | exact List.Mem.head _ | refine List.Mem.tail _ ?_)) rfl
  obtain ⟨f1, pm1, code1, doc1, F1⟩ := fn_mask ho1 T (fn := "cache_get") (d := defAt Challenge.pw_k6_0091 1) (by repeat (first | exact List.Mem.head _ | refine List.Mem.tail _ ?_)) rfl
  have hfa : fa = f11 := by
    have h4 := F11.name
    have h5 : mg (defAt Challenge.pw_k6_0091 11).name = some (.ref fa) := hmg
    rw [h5] at h4
    exact Value.ref.inj (Option.some.inj h4)
  subst hfa
  refine law_glue ho1 hI hg T hsys (by intro cls; rfl) (by wrow_post) ?_
  refine law_spec (ctx_mask ho1 T) F11 F10 F9 F7 F6 F5 F4 F3 F2 F1 (bi_mask ho1 T (by decide +kernel) (by decide) (by rfl)) (bi_mask ho1 T (by decide +kernel) (by decide) (by rfl)) (bi_mask ho1 T (by decide +kernel) (by decide) (by rfl)) (bi_mask ho1 T (by decide +kernel) (by decide) (by rfl)) (bi_mask ho1 T (by decide +kernel) (by decide) (by rfl)) rfl hlen ⟨rfl, rfl⟩
