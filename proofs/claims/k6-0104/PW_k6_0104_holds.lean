import PyProof.Rows.All
import Wide.All
import OpenK.AllK
import Wide.FinOn
import PyProof.Rows.CellsFrame
import PyProof.MeetsDictList
import PyProof.CompFree
import PyProof.DictItems
import PyProof.DictStraight
import PyProof.TupleIter
import PyProof.ForAny
import PyProof.Rows.TupSub
import PyProof.Rows.StrTemp
import PyProof.Rows.Globals
import PyProof.Rows.Method
import PyProof.Rows.IntRules
import PyProof.Rows.RuleB_floordiv
import PyProof.Rows.RuleB_mul
import PyProof.Rows.RuleC_int
import PyProof.Rows.RuleC_bool
import PyProof.Rows.RuleIs
import PyProof.Rows.RuleIs2
import PyProof.Rows.RuleU_int
import PyProof.Rows.StrRules
import PyProof.IsRules
import PyProof.Rows.Exc
import PyProof.ListOps
import PyProof.ListCopy
import PyProof.SliceMore
import PyProof.Rows.RuleN_abs
import PyProof.FactsAll.list_3
import PyProof.FactsAll.dict_1
import PyProof.Rows.Lst
import PyProof.WalksPairs
import PyProof.RangeFor
import PyProof.WalksMore
import PyProof.DelItemList
import PyProof.DictCopy
import PyProof.DictUpdate
import PyProof.DictValues
import PyProof.DictTruth
import PyProof.RulesDelMore
import PyProof.FactsAll.dict_0
import PyProof.FactsAll.dict_3
import PyProof.FactsAll.dict_4
import PyProof.FactsAll.list_0
import PyProof.FactsAll.str_0
import KE.KItemsList
import KE.KDictList
import PyProof.AttrMissHeap
import KE.KDictOf
import KE.KEqDat
import PyProof.TypeOfCall
import PyProof.MaxThree
import PyProof.Rows.Walk
import Wide.BridgeG
import OpenK.KWalk
import PyProof.CompMap
import PyProof.StationsW
import PyProof.RulesTry
import PyProof.Rows.FactsExc_KeyError
import PyProof.Rows.FactsExc_ValueError
import PyProof.Rows.Catch
import KE.IntTextLaws
import PyProof.StrBlockI
import PyProof.StrBlock2
import PyProof.StrLaws
import PyProof.StrLawsAffix
import PyProof.SliceList
import PyProof.StrLawsIn
import PyProof.StrLawsRepr
import PyProof.FString5
import PyProof.ConsumeWalk
import PyProof.StrCalls
import PyProof.StrWalks
import PyProof.CallStr
import PyProof.MeetsStr
import PyProof.Truth
import PyProof.IsiPairs
import PyProof.Rows.Chain
import PyProof.Rows.RuleB_small
import KE.KIntText
import PySem.Challenge.RW_k6_0104
set_option Elab.async false
namespace Mine
open PySem PyProof.Rows

/-- abstract values -/
inductive V where
  | none
  | bool (b : Bool)
  | int (i : Int)
  | str (x : Str)
  | tup (vs : List V)
  | ref (a : Addr)
  | raw (v : Value)

/-- a tuple object -/
abbrev tupO (cvs : List Value) (n : Nat) : Obj := { cls := .type "tuple", data := .seq cvs.toArray n }
abbrev lstO (cvs : List Value) (n : Nat) : Obj := { cls := .type "list", data := .seq cvs.toArray n }

mutual
inductive VR (h : Heap) : Value → V → Prop
  | none : VR h .none .none
  | bool (b : Bool) : VR h (.bool b) (.bool b)
  | int (i : Int) (t : Tok) : VR h (.int i t) (.int i)
  | str (x : Str) (t : Tok) : VR h (.str x t) (.str x)
  | tup {a : Addr} {cvs : List Value} {n : Nat} {vs : List V} : h.get? a = some (tupO cvs n) → VRs h cvs vs → VR h (.ref a) (.tup vs)
  | ref (a : Addr) : VR h (.ref a) (.ref a)
  | raw (v : Value) : VR h v (.raw v)
inductive VRs (h : Heap) : List Value → List V → Prop
  | nil : VRs h [] []
  | cons {c : Value} {v : V} {cs : List Value} {vs : List V} : VR h c v → VRs h cs vs → VRs h (c :: cs) (v :: vs)
end

/-- all tuples stay -/
def TK (h h' : Heap) : Prop := ∀ a cvs n, h.get? a = some (tupO cvs n) → h'.get? a = some (tupO cvs n)
theorem TK.refl (h : Heap) : TK h h := fun _ _ _ e => e
theorem TK.trans {a b c : Heap} (x : TK a b) (y : TK b c) : TK a c := fun p q r e => y p q r (x p q r e)
theorem TK.of_keep {h h' : Heap} (k : ∀ b o, h.get? b = some o → h'.get? b = some o) : TK h h' := fun _ _ _ e => k _ _ e

mutual
theorem VR.mono {h h' : Heap} (k : TK h h') : ∀ {c v}, VR h c v → VR h' c v
  | _, _, .none => .none
  | _, _, .bool b => .bool b
  | _, _, .int i t => .int i t
  | _, _, .str x t => .str x t
  | _, _, .tup e r => .tup (k _ _ _ e) (VRs.mono k r)
  | _, _, .ref a => .ref a
  | _, _, .raw v => .raw v
theorem VRs.mono {h h' : Heap} (k : TK h h') : ∀ {c v}, VRs h c v → VRs h' c v
  | _, _, .nil => .nil
  | _, _, .cons a r => .cons (VR.mono k a) (VRs.mono k r)
end

theorem VRs.length {h : Heap} : ∀ {c v}, VRs h c v → c.length = v.length
  | _, _, .nil => rfl
  | _, _, .cons _ r => by simp [VRs.length r]
theorem VRs.append {h : Heap} : ∀ {c v d u}, VRs h c v → VRs h d u → VRs h (c ++ d) (v ++ u)
  | _, _, _, _, .nil, k => k
  | _, _, _, _, .cons a r, k => .cons a (VRs.append r k)
theorem VRs.get {h : Heap} : ∀ {c : List Value} {v : List V}, VRs h c v → ∀ {i : Nat} {x : V}, v[i]? = some x → ∃ y, c[i]? = some y ∧ VR h y x
  | _, _, .nil, _, _, e => by simp at e
  | _, _, .cons a r, 0, x, e => by simp at e; subst e; exact ⟨_, rfl, a⟩
  | _, _, .cons a r, i + 1, x, e => by
    simp at e
    obtain ⟨y, hy, hr⟩ := VRs.get r e
    exact ⟨y, by simpa using hy, hr⟩
theorem VRs.get' {h : Heap} : ∀ {c : List Value} {v : List V}, VRs h c v → ∀ {i : Nat} {y : Value}, c[i]? = some y → ∃ x, v[i]? = some x ∧ VR h y x
  | _, _, .nil, _, _, e => by simp at e
  | _, _, .cons a r, 0, x, e => by simp at e; subst e; exact ⟨_, rfl, a⟩
  | _, _, .cons a r, i + 1, x, e => by
    simp at e
    obtain ⟨y, hy, hr⟩ := VRs.get' r e
    exact ⟨y, by simpa using hy, hr⟩
theorem VRs.take {h : Heap} : ∀ {c v} (n : Nat), VRs h c v → VRs h (c.take n) (v.take n)
  | _, _, 0, _ => by simp; exact .nil
  | _, _, n + 1, .nil => .nil
  | _, _, n + 1, .cons a r => by simp; exact .cons a (VRs.take n r)
theorem VRs.drop {h : Heap} : ∀ {c v} (n : Nat), VRs h c v → VRs h (c.drop n) (v.drop n)
  | _, _, 0, x => by simpa using x
  | _, _, n + 1, .nil => .nil
  | _, _, n + 1, .cons a r => by simp; exact VRs.drop n r

/-- abstract objects -/
inductive O where
  | list (vs : List V)
  | dict (kvs : List (Str × V))
  | cell (v : Option V)
  | obj (c : Obj)
  | fix (c : Obj) (o : O)
/-- what it is, however it is held -/
def O.peel : O → O
  | .fix _ o => o.peel
  | o => o

inductive KVR (h : Heap) : List (Str × Value) → List (Str × V) → Prop
  | nil : KVR h [] []
  | cons {k : Str} {c : Value} {v : V} {cs vs} : VR h c v → KVR h cs vs → KVR h ((k, c) :: cs) ((k, v) :: vs)
theorem KVR.mono {h h' : Heap} (k : TK h h') : ∀ {c v}, KVR h c v → KVR h' c v
  | _, _, .nil => .nil
  | _, _, .cons a r => .cons (a.mono k) (KVR.mono k r)

inductive OVR (h : Heap) : Option Value → Option V → Prop
  | none : OVR h .none .none
  | some {c v} : VR h c v → OVR h (some c) (some v)
theorem OVR.mono {h h' : Heap} (k : TK h h') : ∀ {c v}, OVR h c v → OVR h' c v
  | _, _, .none => .none
  | _, _, .some a => .some (a.mono k)

section
variable (prog : Program) (w : World)

def OR (h : Heap) (o : Obj) : O → Prop
  | .list vs => ∃ cvs n, o = lstO cvs n ∧ VRs h cvs vs
  | .dict kvs => ∃ ckvs, o.IsDictOf (strKind prog w) ckvs ∧ KVR h ckvs kvs
  | .cell v => ∃ cv, o.data = .cell cv ∧ OVR h cv v
  | .obj c => o = c
  | .fix c a => o = c ∧ OR h o a
theorem OR.mono {h h' : Heap} {o : Obj} {a : O} (k : TK h h') (r : OR prog w h o a) : OR prog w h' o a := by
  induction a with
  | list vs => obtain ⟨cvs, n, e, r⟩ := r; exact ⟨cvs, n, e, r.mono k⟩
  | dict kvs => obtain ⟨c, e, r⟩ := r; exact ⟨c, e, r.mono k⟩
  | cell v => obtain ⟨c, e, r⟩ := r; exact ⟨c, e, r.mono k⟩
  | obj c => exact r
  | fix c a ih => exact ⟨r.1, ih r.2⟩
theorem OR.peel {h : Heap} {o : Obj} {a : O} (r : OR prog w h o a) : OR prog w h o a.peel := by
  induction a with
  | fix c a ih => exact ih r.2
  | _ => exact r

abbrev St := List (Addr × O)
abbrev Env' := List (Str × V)

/-- the objects -/
structure RH (g : Heap) (σ : St) (h : Heap) : Prop where
  keep : ∀ b o, g.get? b = some o → h.get? b = some o
  nd : (σ.map (·.1)).Nodup
  own : ∀ p ∈ σ, g.get? p.1 = none ∧ ∃ o, h.get? p.1 = some o ∧ OR prog w h o p.2
  st : ∃ o, g.get? cStatics = some o
  low : ∀ p ∈ σ, cStatics < p.1
/-- the frame and the objects -/
structure Rel (g : Heap) (L : Addr) (m : Env') (σ : St) (h : Heap) : Prop where
  rh : RH prog w g σ h
  ns : ∃ mc, h.Ns L mc ∧ ∀ x v, m.lookup x = some v → ∃ cv, mc x = some cv ∧ VR h cv v
  offS : ∀ p ∈ σ, p.1 ≠ L

variable {prog w}
variable {g h h' : Heap} {L : Addr} {m : Env'} {σ : St}

/-- everything stays (new things may come) -/
theorem RH.ext (R : RH prog w g σ h) (k : ∀ b o, h.get? b = some o → h'.get? b = some o) : RH prog w g σ h' :=
  ⟨fun b o e => k b o (R.keep b o e), R.nd, fun p hp => let ⟨a, o, e, r⟩ := R.own p hp; ⟨a, o, k _ _ e, r.mono _ _ (.of_keep k)⟩, R.st, R.low⟩
theorem RH.big (R : RH prog w g σ h) : cStatics < h.objs.size := let ⟨_, e⟩ := R.st; Heap.lt_size (R.keep _ _ e)
theorem get_none_of_size {h : Heap} {a : Addr} (hn : h.objs.size ≤ a) : h.get? a = none := by
  cases q : h.get? a with
  | none => rfl
  | some o => exact absurd (Heap.lt_size q) (Nat.not_lt.mpr hn)
theorem Rel.ext (R : Rel prog w g L m σ h) (k : ∀ b o, h.get? b = some o → h'.get? b = some o) : Rel prog w g L m σ h' := by
  refine ⟨R.rh.ext k, ?_, R.offS⟩
  obtain ⟨mc, hn, hv⟩ := R.ns
  exact ⟨mc, hn.keeps k, fun x v e => let ⟨cv, a, b⟩ := hv x v e; ⟨cv, a, b.mono (.of_keep k)⟩⟩
theorem push_keep (h : Heap) (o : Obj) : ∀ b o', h.get? b = some o' → (h.push o).get? b = some o' := fun _ _ e => Heap.get?_push_of_some o e

/-- a new object of the ledger -/
theorem RH.new (R : RH prog w g σ h) {a : Addr} {o : Obj} {ao : O} (k : ∀ b o, h.get? b = some o → h'.get? b = some o) (hn : h.objs.size ≤ a) (ho : h'.get? a = some o) (r : OR prog w h' o ao) : RH prog w g ((a, ao) :: σ) h' := by
  have R' := R.ext k
  have hz := hn
  replace hn := get_none_of_size hn
  refine ⟨R'.keep, ?_, ?_, R.st, fun p hp => ?_⟩
  · refine List.nodup_cons.mpr ⟨fun hm => ?_, R.nd⟩
    obtain ⟨p, hp, e⟩ := List.mem_map.mp hm
    obtain ⟨_, o', e', _⟩ := R.own p hp
    rw [e, hn] at e'; cases e'
  · intro p hp
    rcases List.mem_cons.mp hp with rfl | hp
    · refine ⟨?_, o, ho, r⟩
      cases q : g.get? a with
      | none => rfl
      | some o' => rw [R.keep _ _ q] at hn; cases hn
    · exact R'.own p hp
  · rcases List.mem_cons.mp hp with rfl | hp
    · exact Nat.lt_of_lt_of_le R.big hz
    · exact R.low p hp
theorem Rel.new (R : Rel prog w g L m σ h) {a : Addr} {o : Obj} {ao : O} (k : ∀ b o, h.get? b = some o → h'.get? b = some o) (hn : h.objs.size ≤ a) (ho : h'.get? a = some o) (r : OR prog w h' o ao) : Rel prog w g L m ((a, ao) :: σ) h' := by
  have R' := R.ext k
  refine ⟨R.rh.new k hn ho r, R'.ns, fun p hp => ?_⟩
  rcases List.mem_cons.mp hp with rfl | hp
  · intro e
    obtain ⟨mc, ⟨oL, _, _, hL, _⟩, _⟩ := R.ns
    rw [← e] at hL; rw [get_none_of_size hn] at hL; cases hL
  · exact R.offS p hp
theorem get_size_none (h : Heap) : h.get? h.objs.size = none := by
  cases q : h.get? h.objs.size with
  | none => rfl
  | some o => exact absurd (Heap.lt_size q) (Nat.lt_irrefl _)

/-- fewer, in another order -/
inductive Take (p : Addr × O) : St → St → Prop
  | head {r} : Take p (p :: r) r
  | tail {q r r'} : Take p r r' → Take p (q :: r) (q :: r')
inductive SubP : St → St → Prop
  | nil {l : St} : SubP [] l
  | cons {p r} {l l' : St} : Take p l l' → SubP r l' → SubP (p :: r) l
theorem Take.perm {p : Addr × O} : ∀ {l l' : St}, Take p l l' → (p :: l').Perm l
  | _, _, .head => .refl _
  | _, _, .tail t => (List.Perm.swap _ _ _).trans (.cons _ t.perm)
theorem SubP.split : ∀ {l' l : St}, SubP l' l → ∃ r, (l' ++ r).Perm l
  | _, l, .nil => ⟨l, .refl _⟩
  | _, _, .cons t s => let ⟨r, e⟩ := s.split; ⟨r, (List.Perm.cons _ e).trans t.perm⟩
theorem SubP.subset {l' l : St} (s : SubP l' l) {p : Addr × O} (h : p ∈ l') : p ∈ l := let ⟨_, e⟩ := s.split; e.subset (List.mem_append_left _ h)
theorem SubP.refl : ∀ (l : St), SubP l l
  | [] => .nil
  | _ :: r => .cons .head (SubP.refl r)
/-- a changed object of the ledger -/
inductive Up (a : Addr) (o o' : O) : St → St → Prop
  | head {r} : Up a o o' ((a, o) :: r) ((a, o') :: r)
  | tail {p r r'} : Up a o o' r r' → Up a o o' (p :: r) (p :: r')
theorem Up.mem {a : Addr} {o o' : O} : ∀ {l l' : St}, Up a o o' l l' → (a, o) ∈ l
  | _, _, .head => .head _
  | _, _, .tail r => .tail _ r.mem
theorem Up.map {a : Addr} {o o' : O} : ∀ {l l' : St}, Up a o o' l l' → l'.map (·.1) = l.map (·.1)
  | _, _, .head => rfl
  | _, _, .tail r => by simp [r.map]
theorem Up.of {a : Addr} {o o' : O} : ∀ {l l' : St}, Up a o o' l l' → ∀ {p}, p ∈ l' → (l.map (·.1)).Nodup → p = (a, o') ∨ (p ∈ l ∧ p.1 ≠ a)
  | _, _, .head (r := r), p, hp, nd => by
    rcases List.mem_cons.mp hp with rfl | hp
    · exact .inl rfl
    · refine .inr ⟨.tail _ hp, fun e => ?_⟩
      have := (List.nodup_cons.mp nd).1
      exact this (List.mem_map.mpr ⟨p, hp, e⟩)
  | _, _, .tail (p := q) (r := r) u, p, hp, nd => by
    rcases List.mem_cons.mp hp with rfl | hp
    · refine .inr ⟨.head _, fun e => ?_⟩
      exact (List.nodup_cons.mp nd).1 (List.mem_map.mpr ⟨(a, o), u.mem, e.symm⟩)
    · rcases u.of hp (List.nodup_cons.mp nd).2 with h | ⟨h1, h2⟩
      · exact .inl h
      · exact .inr ⟨.tail _ h1, h2⟩

theorem RH.upd (R : RH prog w g σ h) {a : Addr} {o o' : O} {σ' : St} (u : Up a o o' σ σ') {c : Obj} (hs : Heap.SameBut a h h') (tk : TK h h') (hc : h'.get? a = some c) (r : OR prog w h' c o') : RH prog w g σ' h' := by
  have ha := R.own _ u.mem
  refine ⟨fun b ob e => ?_, by rw [u.map]; exact R.nd, fun p hp => ?_, R.st, fun p hp => ?_⟩
  · refine (hs.2 b fun q => ?_).trans (R.keep b ob e)
    rw [q, ha.1] at e; cases e
  · rcases u.of hp R.nd with rfl | ⟨hm, hne⟩
    · exact ⟨ha.1, c, hc, r⟩
    · obtain ⟨h1, ob, h2, h3⟩ := R.own p hm
      exact ⟨h1, ob, (hs.2 _ hne).trans h2, h3.mono _ _ tk⟩
  · rcases u.of hp R.nd with rfl | ⟨hm, _⟩
    · exact R.low (a, o) u.mem
    · exact R.low p hm
theorem Rel.upd (R : Rel prog w g L m σ h) {a : Addr} {o o' : O} {σ' : St} (u : Up a o o' σ σ') {c : Obj} (hs : Heap.SameBut a h h') (tk : TK h h') (hc : h'.get? a = some c) (r : OR prog w h' c o') : Rel prog w g L m σ' h' := by
  refine ⟨R.rh.upd u hs tk hc r, ?_, fun p hp => ?_⟩
  · obtain ⟨mc, hn, hv⟩ := R.ns
    exact ⟨mc, hn.sameBut hs (Ne.symm (R.offS _ u.mem)), fun x v e => let ⟨cv, a, b⟩ := hv x v e; ⟨cv, a, b.mono tk⟩⟩
  · rcases u.of hp R.rh.nd with rfl | ⟨hm, _⟩
    · exact fun e => R.offS _ u.mem e
    · exact R.offS p hm

/-- fewer objects -/
theorem RH.sub (R : RH prog w g σ h) {σ' : St} (s : σ'.Sublist σ) : RH prog w g σ' h :=
  ⟨R.keep, R.nd.sublist (s.map _), fun p hp => R.own p (s.subset hp), R.st, fun p hp => R.low p (s.subset hp)⟩
theorem Rel.sub (R : Rel prog w g L m σ h) {σ' : St} (s : σ'.Sublist σ) : Rel prog w g L m σ' h :=
  ⟨R.rh.sub s, R.ns, fun p hp => R.offS p (s.subset hp)⟩
/-- another order -/
theorem RH.perm (R : RH prog w g σ h) {σ' : St} (s : σ'.Perm σ) : RH prog w g σ' h :=
  ⟨R.keep, (s.map (·.1)).nodup_iff.mpr R.nd, fun p hp => R.own p (s.subset hp), R.st, fun p hp => R.low p (s.subset hp)⟩
theorem Rel.perm (R : Rel prog w g L m σ h) {σ' : St} (s : σ'.Perm σ) : Rel prog w g L m σ' h :=
  ⟨R.rh.perm s, R.ns, fun p hp => R.offS p (s.subset hp)⟩
theorem RH.subP (R : RH prog w g σ h) {σ' : St} (s : SubP σ' σ) : RH prog w g σ' h := let ⟨r, e⟩ := s.split; (R.perm e).sub (List.sublist_append_left σ' r)
theorem Rel.subP (R : Rel prog w g L m σ h) {σ' : St} (s : SubP σ' σ) : Rel prog w g L m σ' h := let ⟨r, e⟩ := s.split; (R.perm e).sub (List.sublist_append_left σ' r)
/-- another map of the frame -/
theorem Rel.env (R : Rel prog w g L m σ h) {m' : Env'} (s : ∀ x v, m'.lookup x = some v → m.lookup x = some v) : Rel prog w g L m' σ h :=
  ⟨R.rh, let ⟨mc, hn, hv⟩ := R.ns; ⟨mc, hn, fun x v e => hv x v (s x v e)⟩, R.offS⟩

def mset : Env' → Str → V → Env'
  | [], x, v => [(x, v)]
  | (y, u) :: r, x, v => if x == y then (y, v) :: r else (y, u) :: mset r x v
theorem lookup_mset (m : Env') (x : Str) (v : V) (y : Str) : (mset m x v).lookup y = if y == x then some v else m.lookup y := by
  induction m with
  | nil => show (match y == x with | true => some v | false => none) = _; cases y == x <;> rfl
  | cons p r ih =>
    obtain ⟨z, u⟩ := p
    unfold mset
    cases hxz : x == z with
    | true =>
      have := eq_of_beq hxz; subst this
      simp only [if_true, List.lookup_cons]
      cases y == x <;> rfl
    | false =>
      simp only [Bool.false_eq_true, if_false, List.lookup_cons]
      cases hyz : y == z with
      | true =>
        have := eq_of_beq hyz; subst this
        have : (y == x) = false := by
          cases q : y == x with
          | false => rfl
          | true => rw [eq_of_beq q] at hxz; simp at hxz
        simp [this]
      | false => exact ih

/-- the frame's own object is a dict, no tuple -/
theorem ns_tk {mc : Str → Option Value} (hn : h.Ns L mc) (hs : Heap.SameBut L h h') : TK h h' := fun a cvs n e => by
  refine (hs.2 a fun q => ?_).trans e
  obtain ⟨o, es, ep, ho, hd, _⟩ := hn
  rw [q, ho] at e; cases e; cases hd
theorem Rel.store (R : Rel prog w g L m σ h) (offL : g.get? L = none) {mc : Str → Option Value} {x : Str} {v : V} {cv : Value} (hn : h.Ns L mc) (hv : ∀ y u, m.lookup y = some u → ∃ cu, mc y = some cu ∧ VR h cu u)
    (hn' : h'.Ns L fun y => if y = x then some cv else mc y) (hs : Heap.SameBut L h h') (r : VR h cv v) : Rel prog w g L (mset m x v) σ h' := by
  have tk := ns_tk hn hs
  refine ⟨⟨fun b o e => (hs.2 b fun q => ?_).trans (R.rh.keep b o e), R.rh.nd, fun p hp => ?_, R.rh.st, R.rh.low⟩, ⟨_, hn', fun y u e => ?_⟩, R.offS⟩
  · rw [q, offL] at e; cases e
  · obtain ⟨h1, o, h2, h3⟩ := R.rh.own p hp
    exact ⟨h1, o, (hs.2 _ (R.offS p hp)).trans h2, h3.mono _ _ tk⟩
  · rw [lookup_mset] at e
    by_cases q : y = x
    · subst q; simp at e; subst e; exact ⟨cv, by simp, r.mono tk⟩
    · rw [if_neg (by simpa using q)] at e
      obtain ⟨cu, a, b⟩ := hv y u e
      exact ⟨cu, by simp [q, a], b.mono tk⟩
end
end Mine

set_option Elab.async false
set_option linter.unusedVariables false
namespace Mine
open PySem PyProof.Rows

def AOk (k : Nat) (A : Around) : Prop := A.handled = none ∧ A.depth + k < recursionLimit ∧ A.units + 10 * k + 100 < cLine
theorem AOk.deeper {k : Nat} {A : Around} (h : AOk (k + 1) A) (env : Env) : AOk k (A.deeper env) := by
  obtain ⟨a, b, c⟩ := h
  refine ⟨a, ?_, ?_⟩
  · show A.depth + 1 + k < _; omega
  · show A.units + 3 + 10 * k + 100 < _; omega
theorem AOk.units {k : Nat} {A : Around} (h : AOk k A) : A.units < cLine := by have := h.2.2; omega
theorem AOk.room {k : Nat} {A : Around} (h : AOk k A) : A.depth < recursionLimit := by have := h.2.1; omega

section
variable (prog : Program) (w : World) (Bs : Heap)

/-- a tree's run, abstractly: from every heap that bears m and σ it ends well in Q; no exception -/
def Ev {α β : Type} (P : Heap → α → β → Prop) (k : Nat) (L : Addr) (t : Sem α) (m : Env') (σ : St) (Q : β → St → Prop) : Prop :=
  ∀ (A : Around) (g : Heap) (s : Shared) (Qc : α → Shared → Prop) (Ec : Value → Shared → Prop), AOk k A → (∀ b o, Bs.get? b = some o → g.get? b = some o) → Rel prog w g L m σ s.heap →
    (∀ c v σ' h' tk, Q v σ' → Rel prog w g L m σ' h' → P h' c v → TK s.heap h' → Qc c { s with heap := h', toks := tk }) →
    wpAny (model prog w) A t Qc Ec s
abbrev EvE (k : Nat) (env : Env) (e : Expr) (m : Env') (σ : St) (Q : V → St → Prop) : Prop := Ev prog w Bs VR k env.locals (eval e env) m σ Q
abbrev EqR {α : Type} : Heap → α → α → Prop := fun _ a b => a = b
abbrev EvB (k : Nat) (env : Env) (e : Expr) (m : Env') (σ : St) (Q : Bool → St → Prop) : Prop := Ev prog w Bs EqR k env.locals (isTrue e env (eval e env)) m σ Q
abbrev EvA (k : Nat) (env : Env) (pos : Pos) (es : List Expr) (m : Env') (σ : St) (Q : List V → St → Prop) : Prop := Ev prog w Bs VRs k env.locals (spliced (backTo pos (starEach es env))) m σ Q

inductive Fl where
  | next | brk | cont
  | ret (v : V)
inductive FR (h : Heap) : Flow → Fl → Prop
  | next : FR h .next .next
  | brk : FR h .brk .brk
  | cont : FR h .cont .cont
  | ret {c v} : VR h c v → FR h (.ret c) (.ret v)

def EvSt (k : Nat) (L : Addr) (t : Sem Flow) (m : Env') (σ : St) (Q : Fl → Env' → St → Prop) : Prop :=
  ∀ (A : Around) (g : Heap) (s : Shared) (Qc : Flow → Shared → Prop) (Ec : Value → Shared → Prop), AOk k A → (∀ b o, Bs.get? b = some o → g.get? b = some o) → g.get? L = none → Rel prog w g L m σ s.heap →
    (∀ c f m' σ' h' tk, Q f m' σ' → Rel prog w g L m' σ' h' → FR h' c f → TK s.heap h' → Qc c { s with heap := h', toks := tk }) →
    wpAny (model prog w) A t Qc Ec s
abbrev EvS (k : Nat) (env : Env) (ss : List Stmt) (m : Env') (σ : St) (Q : Fl → Env' → St → Prop) : Prop := EvSt prog w Bs k env.locals (execs ss env) m σ Q
abbrev EvX (k : Nat) (env : Env) (x : Stmt) (m : Env') (σ : St) (Q : Fl → Env' → St → Prop) : Prop := EvSt prog w Bs k env.locals (exec x env) m σ Q

end

section
variable {prog : Program} {w : World} {Bs : Heap} {k : Nat} {env : Env} {m : Env'} {σ : St}

theorem Ev.mono {α β : Type} {P : Heap → α → β → Prop} {L : Addr} {t : Sem α} {Q Q' : β → St → Prop} (h : Ev prog w Bs P k L t m σ Q) (q : ∀ v σ', Q v σ' → Q' v σ') : Ev prog w Bs P k L t m σ Q' :=
  fun A g s Qc Ec hA hB R hQ => h A g s Qc Ec hA hB R fun c v σ' h' tk hq => hQ c v σ' h' tk (q v σ' hq)
theorem EvSt.mono {L : Addr} {t : Sem Flow} {Q Q' : Fl → Env' → St → Prop} (h : EvSt prog w Bs k L t m σ Q) (q : ∀ f m' σ', Q f m' σ' → Q' f m' σ') : EvSt prog w Bs k L t m σ Q' :=
  fun A g s Qc Ec hA hB hL R hQ => h A g s Qc Ec hA hB hL R fun c v m' σ' h' tk hq => hQ c v m' σ' h' tk (q v m' σ' hq)
/-- forget objects ahead -/
theorem EvSt.sub {L : Addr} {t : Sem Flow} {Q : Fl → Env' → St → Prop} {σ' : St} (s : σ'.Sublist σ) (h : EvSt prog w Bs k L t m σ' Q) : EvSt prog w Bs k L t m σ Q :=
  fun A g s' Qc Ec hA hB hL R hQ => h A g s' Qc Ec hA hB hL (R.sub s) hQ
theorem EvSt.subP {L : Addr} {t : Sem Flow} {Q : Fl → Env' → St → Prop} {σ' : St} (s : SubP σ' σ) (h : EvSt prog w Bs k L t m σ' Q) : EvSt prog w Bs k L t m σ Q :=
  fun A g s' Qc Ec hA hB hL R hQ => h A g s' Qc Ec hA hB hL (R.subP s) hQ
theorem EvSt.weakEnv {L : Addr} {t : Sem Flow} {Q : Fl → Env' → St → Prop} {m' : Env'} (s : ∀ x v, m'.lookup x = some v → m.lookup x = some v) (h : EvSt prog w Bs k L t m' σ Q) : EvSt prog w Bs k L t m σ Q :=
  fun A g s' Qc Ec hA hB hL R hQ => h A g s' Qc Ec hA hB hL (R.env s) hQ

-- expressions: constants and names
theorem ev_int {i : Int} {kk : Nat} {pos : Pos} {Q : V → St → Prop} (h : Q (.int i) σ) : EvE prog w Bs k env (.Constant (.int i) kk pos) m σ Q :=
  fun _ _ s _ _ _ _ R hQ => wpAny_Constant_int (hQ _ _ σ s.heap _ h R (.int ..) (.refl _))
theorem ev_str {x : Str} {kk : Nat} {pos : Pos} {Q : V → St → Prop} (h : Q (.str x) σ) : EvE prog w Bs k env (.Constant (.str x) kk pos) m σ Q :=
  fun _ _ s _ _ _ _ R hQ => wpAny_Constant_str (hQ _ _ σ s.heap _ h R (.str ..) (.refl _))
theorem ev_none {kk : Nat} {pos : Pos} {Q : V → St → Prop} (h : Q .none σ) : EvE prog w Bs k env (.Constant .none kk pos) m σ Q :=
  fun _ _ s _ _ _ _ R hQ => wpAny_Constant_none (hQ _ _ σ s.heap s.toks h R .none (.refl _))
theorem ev_bool {b : Bool} {kk : Nat} {pos : Pos} {Q : V → St → Prop} (h : Q (.bool b) σ) : EvE prog w Bs k env (.Constant (.bool b) kk pos) m σ Q :=
  fun _ _ s _ _ _ _ R hQ => wpAny_Constant_bool (hQ _ _ σ s.heap s.toks h R (.bool _) (.refl _))
theorem ev_local {x : Str} {pos : Pos} {v : V} {Q : V → St → Prop} (hv : m.lookup x = some v) (h : Q v σ)
    (hk : env.scope.kind = .function := by rfl) (hx : env.kindOf x = some .local := by rfl) (hd : (x == ("__debug__" : Str)) = false := by decide) :
    EvE prog w Bs k env (.Name x pos) m σ Q := fun _ _ s _ _ _ _ R hQ => by
  obtain ⟨mc, hn, hm⟩ := R.ns
  obtain ⟨cv, e, r⟩ := hm x v hv
  exact wpAny_Name (wpAny_loadName_local hk hx hn e (hQ cv v σ s.heap s.toks h R r (.refl _))) hd
theorem ev_cell {x : Str} {pos : Pos} {c : Addr} {v : V} {Q : V → St → Prop} (hc : env.cells.lookup x = some c) (hm : (c, O.cell (some v)) ∈ σ) (h : Q v σ)
    (hk : env.scope.kind = .function := by rfl) (hx : env.kindOf x = some .cell := by rfl) (hd : (x == ("__debug__" : Str)) = false := by decide) :
    EvE prog w Bs k env (.Name x pos) m σ Q := fun _ _ s _ _ _ _ R hQ => by
  obtain ⟨_, o, ho, cv, hd', r⟩ := R.rh.own _ hm
  cases r with
  | some r => exact wpAny_Name (wpAny_loadName_cell hk hx hc ⟨o, ho, hd'⟩ (hQ _ v σ s.heap s.toks h R r (.refl _))) hd
theorem ev_global {x : Str} {pos : Pos} {mg : Str → Option Value} {cv : Value} {v : V} {Q : V → St → Prop} (hg : Bs.Ns env.globals mg) (hv : mg x = some cv) (hr : VR Bs cv v) (h : Q v σ)
    (hk : env.scope.kind = .function := by rfl) (hx : env.kindOf x = some .globalImplicit := by rfl) (hd : (x == ("__debug__" : Str)) = false := by decide) :
    EvE prog w Bs k env (.Name x pos) m σ Q := fun _ _ s _ _ _ hB R hQ => by
  have kp : ∀ b o, Bs.get? b = some o → s.heap.get? b = some o := fun b o e => R.rh.keep b o (hB b o e)
  exact Calls.Name_function_global hk hx (Calls.loadGlobal_global (hg.keeps kp) hv (hQ cv v σ s.heap s.toks h R (hr.mono (.of_keep kp)) (.refl _))) hd
theorem ev_builtin {x : Str} {pos : Pos} {mg mb : Str → Option Value} {cv : Value} {Q : V → St → Prop} (hg : Bs.Ns env.globals mg) (hm : mg x = none) (hb : Bs.Ns env.builtins mb) (hv : mb x = some cv) (h : Q (.raw cv) σ)
    (hk : env.scope.kind = .function := by rfl) (hx : env.kindOf x = some .globalImplicit := by rfl) (hd : (x == ("__debug__" : Str)) = false := by decide) :
    EvE prog w Bs k env (.Name x pos) m σ Q := fun _ _ s _ _ _ hB R hQ => by
  have kp : ∀ b o, Bs.get? b = some o → s.heap.get? b = some o := fun b o e => R.rh.keep b o (hB b o e)
  exact Calls.Name_function_global hk hx (Calls.loadGlobal_builtin (hg.keeps kp) hm (hb.keeps kp) hv (hQ cv _ σ s.heap s.toks h R (.raw _) (.refl _))) hd

-- two in a row
theorem Ev.two {α β γ δ : Type} {P : Heap → α → β → Prop} {P' : Heap → γ → δ → Prop} {L : Addr} {t : Sem α} {u : Sem γ} {Q : β → δ → St → Prop}
    (h : Ev prog w Bs P k L t m σ fun a σ1 => Ev prog w Bs P' k L u m σ1 fun b σ2 => Q a b σ2) (pm : ∀ {h h' c v}, TK h h' → P h c v → P h' c v)
    {A : Around} {g : Heap} {s : Shared} {Qc : α → γ → Shared → Prop} {Ec : Value → Shared → Prop} (hA : AOk k A) (hB : ∀ b o, Bs.get? b = some o → g.get? b = some o) (R : Rel prog w g L m σ s.heap)
    (hQ : ∀ c d a b σ' h' tk, Q a b σ' → Rel prog w g L m σ' h' → P h' c a → P' h' d b → TK s.heap h' → Qc c d { s with heap := h', toks := tk }) :
    wpAny (model prog w) A t (fun c s₁ => wpAny (model prog w) A u (fun d s₂ => Qc c d s₂) Ec s₁) Ec s :=
  h A g s _ _ hA hB R fun c a σ1 h1 tk1 h2 R1 r1 t1 => h2 A g _ _ _ hA hB R1 fun d b σ2 h3 tk2 hq R2 r2 t2 =>
    hQ c d a b σ2 h3 tk2 hq R2 (pm t2 r1) r2 (t1.trans t2)

inductive Bin : Operator → V → V → V → Prop
  | add (i j : Int) : Bin .Add (.int i) (.int j) (.int (i + j))
  | sub (i j : Int) : Bin .Sub (.int i) (.int j) (.int (i - j))
  | mul (i j : Int) (h : IntMulOk i j) : Bin .Mult (.int i) (.int j) (.int (i * j))
  | mod (i j : Int) (h : 0 < j) : Bin .Mod (.int i) (.int j) (.int (i % j))
  | div (i j : Int) (h : 0 < j) (h2 : j < 1073741824) : Bin .FloorDiv (.int i) (.int j) (.int (i / j))
  | cat (x y : Str) (h : x.length + y.length ≤ sizeLine) : Bin .Add (.str x) (.str y) (.str (x ++ y))
theorem bin_any {op : Operator} {a b c : V} (hb : Bin op a b c) {A : Around} {s : Shared} {ca cb : Value} {Qc Ec : Value → Shared → Prop} (ra : VR s.heap ca a) (rb : VR s.heap cb b)
    (hQ : ∀ cv tk, VR s.heap cv c → Qc cv { s with toks := tk }) : wpAny (model prog w) A (binaryOp op ca cb) Qc Ec s := by
  cases hb with
  | add i j => cases ra; cases rb; exact add_int (hQ _ _ (.int ..))
  | sub i j => cases ra; cases rb; exact sub_int (hQ _ _ (.int ..))
  | mul i j h => cases ra; cases rb; exact mul_int (hQ _ _ (.int ..)) h
  | mod i j h =>
    cases ra; cases rb
    refine mod_int (by omega) ?_
    rw [Int.fmod_eq_emod_of_nonneg _ (by omega)]
    exact hQ _ _ (.int ..)
  | div i j h h2 =>
    cases ra; cases rb
    refine floordiv_int (by omega) ?_ (.inl (PyProof.noPylong_small (by omega)))
    rw [Int.fdiv_eq_ediv_of_nonneg _ (by omega)]
    exact hQ _ _ (.int ..)
  | cat x y h =>
    cases ra; cases rb
    exact add_str (fun t' tk => hQ _ _ (.str ..)) h
theorem Rel.toks {g : Heap} {L : Addr} {h : Heap} (R : Rel prog w g L m σ h) : Rel prog w g L m σ h := R
theorem ev_binop {l r : Expr} {op : Operator} {pos : Pos} {Q : V → St → Prop}
    (h : EvE prog w Bs k env l m σ fun a σ1 => EvE prog w Bs k env r m σ1 fun b σ2 => ∃ c, Bin op a b c ∧ Q c σ2) :
    EvE prog w Bs k env (.BinOp l op r pos) m σ Q := fun A g s Qc Ec hA hB R hQ =>
  wpAny_BinOp (Ev.two (Qc := fun c d s₂ => wpAny (model prog w) A (binaryOp op c d) Qc Ec s₂) h (fun t r => r.mono t) hA hB R fun c d a b σ' h' tk ⟨v, hv, hq⟩ R' ra rb t =>
    bin_any hv (s := { s with heap := h', toks := tk }) ra rb fun cv tk' r => hQ cv v σ' h' tk' hq R' r t)
theorem ev_neg {x : Expr} {pos : Pos} {Q : V → St → Prop} (h : EvE prog w Bs k env x m σ fun a σ1 => ∃ i, a = .int i ∧ Q (.int (-i)) σ1) :
    EvE prog w Bs k env (.UnaryOp .USub x pos) m σ Q := fun A g s Qc Ec hA hB R hQ =>
  wpAny_UnaryOp (h A g s _ _ hA hB R fun c a σ1 h1 tk ⟨i, e, hq⟩ R1 r t => by
    subst e; cases r
    exact neg_int (hQ _ _ σ1 h1 _ hq R1 (.int ..) t))

inductive Cmp : CmpOp → V → V → Bool → Prop
  | eqI (i j : Int) : Cmp .Eq (.int i) (.int j) (decide (i = j))
  | neI (i j : Int) : Cmp .NotEq (.int i) (.int j) (!decide (i = j))
  | ltI (i j : Int) : Cmp .Lt (.int i) (.int j) (decide (i < j))
  | leI (i j : Int) : Cmp .LtE (.int i) (.int j) (decide (i ≤ j))
  | gtI (i j : Int) : Cmp .Gt (.int i) (.int j) (decide (j < i))
  | geI (i j : Int) : Cmp .GtE (.int i) (.int j) (decide (j ≤ i))
  | eqS (x y : Str) : Cmp .Eq (.str x) (.str y) (decide (x = y))
  | neS (x y : Str) : Cmp .NotEq (.str x) (.str y) (!decide (x = y))
  | eqB (x y : Bool) : Cmp .Eq (.bool x) (.bool y) (x == y)
  | neB (x y : Bool) : Cmp .NotEq (.bool x) (.bool y) (x != y)
  | isB (x y : Bool) : Cmp .Is (.bool x) (.bool y) (x == y)
  | isNotB (x y : Bool) : Cmp .IsNot (.bool x) (.bool y) (x != y)
  | isNN : Cmp .Is .none .none true
  | isNI (i : Int) : Cmp .Is (.int i) .none false
  | isNS (x : Str) : Cmp .Is (.str x) .none false
  | isNotNN : Cmp .IsNot .none .none false
  | isNotNI (i : Int) : Cmp .IsNot (.int i) .none true
  | isNotNS (x : Str) : Cmp .IsNot (.str x) .none true
  | isT (x y : String) : Cmp .Is (.raw (.type x)) (.raw (.type y)) (decide (x = y))
  | isNotT (x y : String) : Cmp .IsNot (.raw (.type x)) (.raw (.type y)) (!decide (x = y))
theorem type_beq (x y : String) : ((Value.type x) == (Value.type y)) = decide (x = y) := by
  by_cases h : x = y
  · subst h; simp
  · simp [h]
theorem cmp_any {op : CmpOp} {a b : V} {c : Bool} (hb : Cmp op a b c) {A : Around} {s : Shared} {ca cb : Value} {Qc Ec : Value → Shared → Prop} (ra : VR s.heap ca a) (rb : VR s.heap cb b)
    (hQ : Qc (.bool c) s) : wpAny (model prog w) A (compareOp op ca cb) Qc Ec s := by
  cases hb with
  | eqI i j => cases ra; cases rb; exact eq_int hQ
  | neI i j => cases ra; cases rb; exact ne_int hQ
  | ltI i j => cases ra; cases rb; exact lt_int hQ
  | leI i j => cases ra; cases rb; exact le_int hQ
  | gtI i j => cases ra; cases rb; exact gt_int hQ
  | geI i j => cases ra; cases rb; exact ge_int hQ
  | eqS x y => cases ra; cases rb; exact eq_str (by have : (x == y) = decide (x = y) := by by_cases h : x = y <;> simp [h]
                                                    rw [this]; exact hQ)
  | neS x y => cases ra; cases rb; exact ne_str (by have : (x != y) = !decide (x = y) := by by_cases h : x = y <;> simp [h]
                                                    rw [this]; exact hQ)
  | eqB x y => cases ra; cases rb; exact eq_bool hQ
  | neB x y => cases ra; cases rb; exact ne_bool hQ
  | isB x y => cases ra; cases rb; exact is_bool hQ
  | isNotB x y => cases ra; cases rb; exact isnot_bool hQ
  | isNN => cases ra; cases rb; exact is_none (by simpa using hQ)
  | isNI i => cases ra; cases rb; exact is_none hQ
  | isNS i => cases ra; cases rb; exact is_none hQ
  | isNotNN => cases ra; cases rb; exact isNot_none (by simpa using hQ)
  | isNotNI i => cases ra; cases rb; exact isNot_none hQ
  | isNotNS i => cases ra; cases rb; exact isNot_none hQ
  | isT x y => cases ra; cases rb; exact wpAny_is_plain rfl (by rw [type_beq]; exact hQ)
  | isNotT x y => cases ra; cases rb; exact wpAny_isNot_plain rfl (by rw [type_beq]; exact hQ)
theorem ev_cmp {l r : Expr} {op : CmpOp} {pos : Pos} {Q : V → St → Prop}
    (h : EvE prog w Bs k env l m σ fun a σ1 => EvE prog w Bs k env r m σ1 fun b σ2 => ∃ c, Cmp op a b c ∧ Q (.bool c) σ2) (hm : behindInMarks op r = false := by with_unfolding_all rfl) :
    EvE prog w Bs k env (.Compare l [op] [r] pos) m σ Q := fun A g s Qc Ec hA hB R hQ =>
  wpAny_Compare1 (Ev.two (Qc := fun c d s₂ => wpAny (model prog w) A (compareOp op c d) Qc Ec s₂) h (fun t r => r.mono t) hA hB R fun c d a b σ' h' tk ⟨v, hv, hq⟩ R' ra rb t =>
    cmp_any hv (s := { s with heap := h', toks := tk }) ra rb (hQ _ _ σ' h' tk hq R' (.bool _) t)) hm

-- truth
theorem evb_cmp {l r : Expr} {op : CmpOp} {pos : Pos} {Q : Bool → St → Prop}
    (h : EvE prog w Bs k env l m σ fun a σ1 => EvE prog w Bs k env r m σ1 fun b σ2 => ∃ c, Cmp op a b c ∧ Q c σ2) (hm : behindInMarks op r = false := by with_unfolding_all rfl) :
    EvB prog w Bs k env (.Compare l [op] [r] pos) m σ Q := fun A g s Qc Ec hA hB R hQ =>
  wpAny_isTrue_Compare1 (Ev.two (Qc := fun c d s₂ => wpAny (model prog w) A (compareOp op c d) (fun c s₃ => wpAny (model prog w) A (truthy c) Qc Ec s₃) Ec s₂) h (fun t r => r.mono t) hA hB R fun c d a b σ' h' tk ⟨v, hv, hq⟩ R' ra rb t =>
    cmp_any hv (s := { s with heap := h', toks := tk }) ra rb (wpAny_truthy_bool (hQ _ _ σ' h' tk hq R' rfl t))) hm
theorem evb_not {x : Expr} {pos : Pos} {Q : Bool → St → Prop} (h : EvB prog w Bs k env x m σ fun b σ1 => Q (!b) σ1) : EvB prog w Bs k env (.UnaryOp .Not x pos) m σ Q :=
  fun A g s Qc Ec hA hB R hQ => wpAny_isTrue_Not (h A g s _ _ hA hB R fun c b σ1 h1 tk hq R1 e t => hQ _ _ σ1 h1 tk hq R1 (by rw [show c = b from e]) t)
theorem ev_not {x : Expr} {pos : Pos} {Q : V → St → Prop} (h : EvE prog w Bs k env x m σ fun a σ1 => ∃ b, a = .bool b ∧ Q (.bool (!b)) σ1) : EvE prog w Bs k env (.UnaryOp .Not x pos) m σ Q :=
  fun A g s Qc Ec hA hB R hQ => wpAny_UnaryOp (h A g s _ _ hA hB R fun c a σ1 h1 tk ⟨b, e, hq⟩ R1 r t => by
    subst e; cases r
    exact not_value (wpAny_truthy_bool (hQ _ _ σ1 h1 tk hq R1 (.bool _) t)))
/-- a plain value as a test -/
inductive Tru : V → Bool → Prop
  | bool (b : Bool) : Tru (.bool b) b
  | none : Tru .none false
  | int (i : Int) : Tru (.int i) (i != 0)
theorem tru_any {a : V} {b : Bool} (hb : Tru a b) {A : Around} {s : Shared} {ca : Value} {Qc : Bool → Shared → Prop} {Ec : Value → Shared → Prop} (ra : VR s.heap ca a) (hQ : Qc b s) : wpAny (model prog w) A (truthy ca) Qc Ec s := by
  cases hb with
  | bool b => cases ra; exact wpAny_truthy_bool hQ
  | none => cases ra; exact fun _ _ _ => hQ
  | int i => cases ra; exact truthy_int hQ
theorem evb_val {e : Expr} {Q : Bool → St → Prop} (h : EvE prog w Bs k env e m σ fun a σ1 => ∃ b, Tru a b ∧ Q b σ1)
    (he : isTrue e env (eval e env) = (do let v ← eval e env; standAt e.pos; holding [v] (truthy v)) := by rfl) : EvB prog w Bs k env e m σ Q :=
  fun A g s Qc Ec hA hB R hQ => wpAny_isTrue_value (h A g s _ _ hA hB R fun c a σ1 h1 tk ⟨b, hb, hq⟩ R1 r t => tru_any hb (s := { s with heap := h1, toks := tk }) r (hQ _ _ σ1 h1 tk hq R1 rfl t)) he
theorem evb_and {es : List Expr} {pos : Pos} {Q : Bool → St → Prop} (h : Ev prog w Bs EqR k env.locals (allTrue .And es env) m σ Q) : EvB prog w Bs k env (.BoolOp .And es pos) m σ Q :=
  fun A g s Qc Ec hA hB R hQ => wpAny_isTrue_BoolOp (h A g s Qc Ec hA hB R hQ)
theorem evb_or {es : List Expr} {pos : Pos} {Q : Bool → St → Prop} (h : Ev prog w Bs EqR k env.locals (allTrue .Or es env) m σ Q) : EvB prog w Bs k env (.BoolOp .Or es pos) m σ Q :=
  fun A g s Qc Ec hA hB R hQ => wpAny_isTrue_BoolOp (h A g s Qc Ec hA hB R hQ)
theorem all_and_nil {Q : Bool → St → Prop} (h : Q true σ) : Ev prog w Bs EqR k env.locals (allTrue .And [] env) m σ Q :=
  fun A g s Qc Ec hA hB R hQ => wpAny_allTrue_And_nil (hQ _ _ σ s.heap s.toks h R rfl (.refl _))
theorem all_or_nil {Q : Bool → St → Prop} (h : Q false σ) : Ev prog w Bs EqR k env.locals (allTrue .Or [] env) m σ Q :=
  fun A g s Qc Ec hA hB R hQ => wpAny_allTrue_Or_nil (hQ _ _ σ s.heap s.toks h R rfl (.refl _))
theorem all_and_cons {x : Expr} {rest : List Expr} {Q : Bool → St → Prop} (h : EvB prog w Bs k env x m σ fun b σ1 => if b then Ev prog w Bs EqR k env.locals (allTrue .And rest env) m σ1 Q else Q false σ1) :
    Ev prog w Bs EqR k env.locals (allTrue .And (x :: rest) env) m σ Q :=
  fun A g s Qc Ec hA hB R hQ => wpAny_allTrue_And_cons (h A g s _ _ hA hB R fun c b σ1 h1 tk hq R1 e t => by
    subst e
    cases c with
    | true => exact hq A g _ _ _ hA hB R1 fun c v σ' h' tk hq R' p t' => hQ c v σ' h' tk hq R' p (t.trans t')
    | false => exact hQ _ _ σ1 h1 tk hq R1 rfl t)
theorem all_or_cons {x : Expr} {rest : List Expr} {Q : Bool → St → Prop} (h : EvB prog w Bs k env x m σ fun b σ1 => if b then Q true σ1 else Ev prog w Bs EqR k env.locals (allTrue .Or rest env) m σ1 Q) :
    Ev prog w Bs EqR k env.locals (allTrue .Or (x :: rest) env) m σ Q :=
  fun A g s Qc Ec hA hB R hQ => wpAny_allTrue_Or_cons (h A g s _ _ hA hB R fun c b σ1 h1 tk hq R1 e t => by
    subst e
    cases c with
    | false => exact hq A g _ _ _ hA hB R1 fun c v σ' h' tk hq R' p t' => hQ c v σ' h' tk hq R' p (t.trans t')
    | true => exact hQ _ _ σ1 h1 tk hq R1 rfl t)
theorem ev_ifexp {test body orelse : Expr} {pos : Pos} {Q : V → St → Prop} (h : EvB prog w Bs k env test m σ fun b σ1 => if b then EvE prog w Bs k env body m σ1 Q else EvE prog w Bs k env orelse m σ1 Q) :
    EvE prog w Bs k env (.IfExp test body orelse pos) m σ Q :=
  fun A g s Qc Ec hA hB R hQ => wpAny_IfExp (h A g s _ _ hA hB R fun c b σ1 h1 tk hq R1 e t => by
    subst e
    cases c with
    | true => exact hq A g _ _ _ hA hB R1 fun c v σ' h' tk hq R' p t' => hQ c v σ' h' tk hq R' p (t.trans t')
    | false => exact hq A g _ _ _ hA hB R1 fun c v σ' h' tk hq R' p t' => hQ c v σ' h' tk hq R' p (t.trans t'))

-- statements
theorem evs_nil {Q : Fl → Env' → St → Prop} (h : Q .next m σ) : EvS prog w Bs k env [] m σ Q :=
  fun A g s Qc Ec hA hB hL R hQ => wpAny_execs_nil (hQ _ _ m σ s.heap s.toks h R .next (.refl _))
theorem evs_cons {st : Stmt} {rest : List Stmt} {Q : Fl → Env' → St → Prop}
    (h : EvX prog w Bs k env st m σ fun f m1 σ1 => match f with | .next => EvS prog w Bs k env rest m1 σ1 Q | f => Q f m1 σ1) : EvS prog w Bs k env (st :: rest) m σ Q :=
  fun A g s Qc Ec hA hB hL R hQ => wpAny_execs_cons (h A g s _ _ hA hB hL R fun c f m1 σ1 h1 tk hq R1 e t => by
    cases e with
    | next => exact hq A g _ _ _ hA hB hL R1 fun c v m' σ' h' tk hq R' p t' => hQ c v m' σ' h' tk hq R' p (t.trans t')
    | brk => exact hQ _ _ m1 σ1 h1 tk hq R1 .brk t
    | cont => exact hQ _ _ m1 σ1 h1 tk hq R1 .cont t
    | ret r => exact hQ _ _ m1 σ1 h1 tk hq R1 (.ret r) t)
theorem evx_if {test : Expr} {body orelse : List Stmt} {pos : Pos} {Q : Fl → Env' → St → Prop}
    (h : EvB prog w Bs k env test m σ fun b σ1 => if b then EvS prog w Bs k env body m σ1 Q else EvS prog w Bs k env orelse m σ1 Q) : EvX prog w Bs k env (.If test body orelse pos) m σ Q :=
  fun A g s Qc Ec hA hB hL R hQ => wpAny_If (h A g s _ _ hA hB R fun c b σ1 h1 tk hq R1 e t => by
    subst e
    cases c with
    | true => exact hq A g _ _ _ hA hB hL R1 fun c v m' σ' h' tk hq R' p t' => hQ c v m' σ' h' tk hq R' p (t.trans t')
    | false => exact hq A g _ _ _ hA hB hL R1 fun c v m' σ' h' tk hq R' p t' => hQ c v m' σ' h' tk hq R' p (t.trans t'))
theorem evx_ret {e : Expr} {pos : Pos} {Q : Fl → Env' → St → Prop} (h : EvE prog w Bs k env e m σ fun v σ1 => Q (.ret v) m σ1) : EvX prog w Bs k env (.Return (some e) pos) m σ Q :=
  fun A g s Qc Ec hA hB hL R hQ => wpAny_Return_some (h A g s _ _ hA hB R fun c b σ1 h1 tk hq R1 e t => hQ _ _ m σ1 h1 tk hq R1 (.ret e) t)
theorem evx_ret0 {pos : Pos} {Q : Fl → Env' → St → Prop} (h : Q (.ret .none) m σ) : EvX prog w Bs k env (.Return none pos) m σ Q :=
  fun A g s Qc Ec hA hB hL R hQ => wpAny_Return_none (hQ _ _ m σ s.heap s.toks h R (.ret .none) (.refl _))
theorem evx_pass {pos : Pos} {Q : Fl → Env' → St → Prop} (h : Q .next m σ) : EvX prog w Bs k env (.Pass pos) m σ Q :=
  fun A g s Qc Ec hA hB hL R hQ => wpAny_Pass (hQ _ _ m σ s.heap s.toks h R .next (.refl _))
theorem evx_break {pos : Pos} {Q : Fl → Env' → St → Prop} (h : Q .brk m σ) : EvX prog w Bs k env (.Break pos) m σ Q :=
  fun A g s Qc Ec hA hB hL R hQ => wpAny_Break (hQ _ _ m σ s.heap s.toks h R .brk (.refl _))
theorem evx_continue {pos : Pos} {Q : Fl → Env' → St → Prop} (h : Q .cont m σ) : EvX prog w Bs k env (.Continue pos) m σ Q :=
  fun A g s Qc Ec hA hB hL R hQ => wpAny_Continue (hQ _ _ m σ s.heap s.toks h R .cont (.refl _))
/-- a value that is no object -/
inductive NoRef : V → Prop
  | none : NoRef .none
  | bool (b) : NoRef (.bool b)
  | int (i) : NoRef (.int i)
  | str (x) : NoRef (.str x)
theorem evx_expr {e : Expr} {pos : Pos} {Q : Fl → Env' → St → Prop} (h : EvE prog w Bs k env e m σ fun v σ1 => NoRef v ∧ Q .next m σ1)
    (hi : interactive env = false := by rfl) (hs : swapsWith e none pos.line env = pure false := by rfl) : EvX prog w Bs k env (.Expr e pos) m σ Q :=
  fun A g s Qc Ec hA hB hL R hQ => wpAny_Expr (h A g s _ _ hA hB R fun c b σ1 h1 tk ⟨hn, hq⟩ R1 r t => by
    have := hQ .next .next m σ1 h1 tk hq R1 .next t
    cases hn <;> cases r <;> exact this) hi hs
/-- storing a name of the frame -/
theorem store_any {x : Str} {v : V} {cv : Value} {A : Around} {g : Heap} {s : Shared} {Qc : Unit → Shared → Prop} {Ec : Value → Shared → Prop} (R : Rel prog w g env.locals m σ s.heap) (hL : g.get? env.locals = none) (r : VR s.heap cv v)
    (hl : env.kindOf x = some .local) (hk : env.scope.kind = .function) (hQ : ∀ h' tk, Rel prog w g env.locals (mset m x v) σ h' → TK s.heap h' → Qc () { s with heap := h', toks := tk }) :
    wpAny (model prog w) A (storeName env x cv) Qc Ec s := by
  obtain ⟨mc, hn, hm⟩ := R.ns
  exact wpAny_storeName_local hl hn (fun h' hn' hs => hQ h' _ (R.store hL hn hm hn' hs r) (ns_tk hn hs)) (by rw [hk]; rfl)
theorem evx_assign {x : Str} {xp pos : Pos} {value : Expr} {Q : Fl → Env' → St → Prop} (h : EvE prog w Bs k env value m σ fun v σ1 => Q .next (mset m x v) σ1)
    (hs : swapsWith value (some (.Name x xp)) pos.line env = pure false := by rfl) (hl : env.kindOf x = some .local := by rfl) (hk : env.scope.kind = .function := by rfl) :
    EvX prog w Bs k env (.Assign [.Name x xp] value pos) m σ Q :=
  fun A g s Qc Ec hA hB hL R hQ => wpAny_Assign_Name (h A g s _ _ hA hB R fun c v σ1 h1 tk hq R1 r t =>
    store_any (s := { s with heap := h1, toks := tk }) R1 hL r hl hk fun h' tk' R' t' => hQ _ _ _ σ1 h' tk' hq R' .next (t.trans t')) hs
theorem cell_tk {h h' : Heap} {a : Addr} {o : Obj} {cv : Option Value} (ho : h.get? a = some o) (hd : o.data = .cell cv) (hs : Heap.SameBut a h h') : TK h h' := fun b cvs n e => by
  refine (hs.2 b fun q => ?_).trans e
  rw [q, ho] at e; cases e; cases hd
theorem store_cell_any {x : Str} {v : V} {ov : Option V} {cv : Value} {c : Addr} {σ' : St} {A : Around} {g : Heap} {s : Shared} {Qc : Unit → Shared → Prop} {Ec : Value → Shared → Prop} (R : Rel prog w g env.locals m σ s.heap) (r : VR s.heap cv v)
    (hc : env.cells.lookup x = some c) (u : Up c (.cell ov) (.cell (some v)) σ σ') (hl : env.kindOf x = some .cell) (hk : env.scope.kind = .function)
    (hQ : ∀ h' tk, Rel prog w g env.locals m σ' h' → TK s.heap h' → Qc () { s with heap := h', toks := tk }) :
    wpAny (model prog w) A (storeName env x cv) Qc Ec s := by
  obtain ⟨_, o, ho, cv₀, hd, _⟩ := R.rh.own _ u.mem
  refine wpAny_storeName_cell hk hl hc ⟨o, ho, hd⟩ fun h' hv hs => ?_
  obtain ⟨o', ho', hd'⟩ := hv
  have tk := cell_tk ho hd hs
  exact hQ h' s.toks (R.upd u hs tk ho' ⟨_, hd', .some (r.mono tk)⟩) tk
theorem evx_assign_cell {x : Str} {xp pos : Pos} {value : Expr} {c : Addr} {Q : Fl → Env' → St → Prop} (hc : env.cells.lookup x = some c)
    (h : EvE prog w Bs k env value m σ fun v σ1 => ∃ ov σ2, Up c (.cell ov) (.cell (some v)) σ1 σ2 ∧ Q .next m σ2)
    (hs : swapsWith value (some (.Name x xp)) pos.line env = pure false := by rfl) (hl : env.kindOf x = some .cell := by rfl) (hk : env.scope.kind = .function := by rfl) :
    EvX prog w Bs k env (.Assign [.Name x xp] value pos) m σ Q :=
  fun A g s Qc Ec hA hB hL R hQ => wpAny_Assign_Name (h A g s _ _ hA hB R fun cv v σ1 h1 tk ⟨ov, σ2, u, hq⟩ R1 r t =>
    store_cell_any (s := { s with heap := h1, toks := tk }) R1 r hc u hl hk fun h' tk' R' t' => hQ _ _ _ σ2 h' tk' hq R' .next (t.trans t')) hs
end
end Mine

set_option Elab.async false
set_option linter.unusedVariables false
namespace Mine
open PySem PyProof.Rows PySem.Calls

/-- the heap without some places -/
def mask (h : Heap) (S : List Addr) : Heap := ⟨h.objs.mapIdx fun i o => if S.contains i then { o with data := .freed } else o, h.life⟩
theorem mask_in {h : Heap} {S : List Addr} {b : Addr} (hb : b ∈ S) : (mask h S).get? b = none := by
  unfold Heap.get? mask
  simp only [Array.getElem?_mapIdx]
  have : S.contains b = true := by simpa using hb
  cases h.objs[b]? with
  | none => rfl
  | some o => simp only [Option.map_some, this, if_true]
theorem mask_out {h : Heap} {S : List Addr} {b : Addr} (hb : b ∉ S) : (mask h S).get? b = h.get? b := by
  unfold Heap.get? mask
  simp only [Array.getElem?_mapIdx]
  have : S.contains b = false := by simpa using hb
  cases h.objs[b]? with
  | none => rfl
  | some o => simp only [Option.map_some, this, Bool.false_eq_true, if_false]
theorem mask_sub {h : Heap} {S : List Addr} {b : Addr} {o : Obj} (e : (mask h S).get? b = some o) : h.get? b = some o := by
  by_cases hb : b ∈ S
  · rw [mask_in hb] at e; cases e
  · rwa [mask_out hb] at e

section
variable {prog : Program} {w : World} {Bs : Heap} {k : Nat} {env : Env} {m : Env'} {σ σ₁ σ₂ : St} {g h h' : Heap} {L : Addr}

/-- all but the ledger is kept -/
theorem RH.le_mask (R : RH prog w g σ h) : ∀ b o, g.get? b = some o → (mask h (σ.map (·.1))).get? b = some o := fun b o e => by
  rw [mask_out]
  · exact R.keep b o e
  · intro hm
    obtain ⟨p, hp, q⟩ := List.mem_map.mp hm
    have := (R.own p hp).1
    rw [q, e] at this; cases this
theorem RH.masked (R : RH prog w g σ h) : RH prog w (mask h (σ.map (·.1))) σ h :=
  ⟨fun b o e => mask_sub e, R.nd, fun p hp => ⟨mask_in (List.mem_map_of_mem hp), (R.own p hp).2⟩, let ⟨o, e⟩ := R.st; ⟨o, R.le_mask _ _ e⟩, R.low⟩
theorem RH.less {g' : Heap} (R : RH prog w g' σ h) (st : ∃ o, g.get? cStatics = some o) (le : ∀ b o, g.get? b = some o → g'.get? b = some o) : RH prog w g σ h :=
  ⟨fun b o e => R.keep b o (le b o e), R.nd, fun p hp => by
    refine ⟨?_, (R.own p hp).2⟩
    cases q : g.get? p.1 with
    | none => rfl
    | some o => have := (R.own p hp).1; rw [le _ _ q] at this; (cases this), st, R.low⟩
theorem Rel.less {g' : Heap} (R : Rel prog w g' L m σ h) (st : ∃ o, g.get? cStatics = some o) (le : ∀ b o, g.get? b = some o → g'.get? b = some o) : Rel prog w g L m σ h := ⟨R.rh.less st le, R.ns, R.offS⟩
theorem Rel.le_mask (R : Rel prog w g L m σ h) (hL : g.get? L = none) : ∀ b o, g.get? b = some o → (mask h (L :: σ.map (·.1))).get? b = some o := fun b o e => by
  rw [mask_out]
  · exact R.rh.keep b o e
  · intro hm
    rcases List.mem_cons.mp hm with rfl | hm
    · rw [hL] at e; cases e
    · obtain ⟨p, hp, q⟩ := List.mem_map.mp hm
      have := (R.rh.own p hp).1
      rw [q, e] at this; cases this

theorem Rel.masked (R : Rel prog w g L m σ h) (hL : g.get? L = none) : Rel prog w (mask h (L :: σ.map (·.1))) L m σ h :=
  ⟨⟨fun b o e => mask_sub e, R.rh.nd, fun p hp => ⟨mask_in (.tail _ (List.mem_map_of_mem hp)), (R.rh.own p hp).2⟩, let ⟨o, e⟩ := R.rh.st; ⟨o, R.le_mask hL _ _ e⟩, R.rh.low⟩, R.ns, R.offS⟩

theorem Rel.lt (R : Rel prog w g L m σ h) : ∃ o, h.get? L = some o := let ⟨_, ⟨o, _, _, ho, _⟩, _⟩ := R.ns; ⟨o, ho⟩

/-- objects off the ledger, laid by: the frame rule's two halves -/
theorem RH.split (R : RH prog w g (σ₁ ++ σ₂) h) : RH prog w (mask h (σ₂.map (·.1))) σ₂ h := (R.sub (List.sublist_append_right σ₁ σ₂)).masked
theorem RH.glue {S : List Addr} {σ' : St} (R : RH prog w g (σ₁ ++ σ₂) h) (R' : RH prog w (mask h (σ₂.map (·.1))) σ' h') (tk : TK h h') : RH prog w g (σ₁ ++ σ') h' := by
  have le : ∀ b o, g.get? b = some o → (mask h (σ₂.map (·.1))).get? b = some o := (R.sub (List.sublist_append_right σ₁ σ₂)).le_mask
  have R'' := R'.less R.st le
  have inm : ∀ p ∈ σ₁, ∃ o, (mask h (σ₂.map (·.1))).get? p.1 = some o ∧ OR prog w h o p.2 := fun p hp => by
    obtain ⟨_, o, ho, r⟩ := R.own p (List.mem_append_left _ hp)
    refine ⟨o, ?_, r⟩
    rw [mask_out]; exact ho
    intro hm
    have nd := R.nd
    rw [List.map_append] at nd
    exact (List.nodup_append.mp nd).2.2 _ (List.mem_map_of_mem hp) _ hm rfl
  refine ⟨R''.keep, ?_, fun p hp => ?_, R.st, fun p hp => ?_⟩
  · rw [List.map_append]
    refine List.nodup_append.mpr ⟨(R.sub (List.sublist_append_left σ₁ σ₂)).nd, R'.nd, fun a ha b hb e => ?_⟩
    obtain ⟨p, hp, rfl⟩ := List.mem_map.mp ha
    obtain ⟨q, hq, rfl⟩ := List.mem_map.mp hb
    obtain ⟨o, ho, _⟩ := inm p hp
    have := (R'.own q hq).1
    rw [← e, ho] at this; cases this
  · rcases List.mem_append.mp hp with hp | hp
    · obtain ⟨o, ho, r⟩ := inm p hp
      refine ⟨(R.own p (List.mem_append_left _ hp)).1, o, R'.keep _ _ ho, r.mono _ _ tk⟩
    · exact R''.own p hp
  · rcases List.mem_append.mp hp with hp | hp
    · exact R.low p (List.mem_append_left _ hp)
    · exact R'.low p hp

-- calls of the text's own functions
variable (prog w Bs) in
def EvF (k : Nat) (f : Value) (vs : List V) (σ : St) (Q : V → St → Prop) : Prop :=
  ∀ (A : Around) (g : Heap) (s : Shared) (Qc Ec : Value → Shared → Prop) (cvs : List Value), AOk k A → (∀ b o, Bs.get? b = some o → g.get? b = some o) → RH prog w g σ s.heap → VRs s.heap cvs vs →
    (∀ cv v σ' h' tk, Q v σ' → RH prog w g σ' h' → VR h' cv v → TK s.heap h' → Qc cv { s with heap := h', toks := tk }) →
    wpAny (model prog w) A (call f cvs) Qc Ec s
theorem EvF.mono {f : Value} {vs : List V} {Q Q' : V → St → Prop} (h : EvF prog w Bs k f vs σ Q) (q : ∀ v σ', Q v σ' → Q' v σ') : EvF prog w Bs k f vs σ Q' :=
  fun A g s Qc Ec cvs hA hB R r hQ => h A g s Qc Ec cvs hA hB R r fun cv v σ' h' tk hq => hQ cv v σ' h' tk (q v σ' hq)
theorem EvF.perm {f : Value} {vs : List V} {Q : V → St → Prop} {σ' : St} (p : σ'.Perm σ) (h : EvF prog w Bs k f vs σ' Q) : EvF prog w Bs k f vs σ Q :=
  fun A g s Qc Ec cvs hA hB R r hQ => h A g s Qc Ec cvs hA hB (R.perm p) r hQ
theorem EvF.subP {f : Value} {vs : List V} {Q : V → St → Prop} {σ' : St} (p : SubP σ' σ) (h : EvF prog w Bs k f vs σ' Q) : EvF prog w Bs k f vs σ Q :=
  fun A g s Qc Ec cvs hA hB R r hQ => h A g s Qc Ec cvs hA hB (R.subP p) r hQ
theorem EvF.frame {f : Value} {vs : List V} {Q : V → St → Prop} (h : EvF prog w Bs k f vs σ₂ fun v σ' => Q v (σ₁ ++ σ')) : EvF prog w Bs k f vs (σ₁ ++ σ₂) Q :=
  fun A g s Qc Ec cvs hA hB R r hQ => h A _ s Qc Ec cvs hA (fun b o e => (R.sub (List.sublist_append_right σ₁ σ₂)).le_mask b o (hB b o e)) R.split r
    fun cv v σ' h' tk hq R' rv t => hQ cv v _ h' tk hq (RH.glue (S := []) R R' t) rv t

def retOf : Fl → V
  | .ret v => v
  | _ => .none
theorem Rel.leave (R : Rel prog w g L m σ h) {σ' : St} (R' : RH prog w (mask h (σ.map (·.1))) σ' h') (tk : TK h h') : Rel prog w g L m σ' h' := by
  obtain ⟨mc, hn, hv⟩ := R.ns
  have hLm : ∀ o, h.get? L = some o → (mask h (σ.map (·.1))).get? L = some o := fun o e => by
    rw [mask_out]; exact e
    intro hm
    obtain ⟨p, hp, q⟩ := List.mem_map.mp hm
    exact R.offS p hp q
  refine ⟨R'.less R.rh.st R.rh.le_mask, ⟨mc, ?_, fun x v e => let ⟨cv, a, b⟩ := hv x v e; ⟨cv, a, b.mono tk⟩⟩, fun p hp e => ?_⟩
  · obtain ⟨o, es, ep, ho, r⟩ := hn
    exact ⟨o, es, ep, R'.keep _ _ (hLm o ho), r⟩
  · obtain ⟨o, ho⟩ := R.lt
    have := (R'.own p hp).1
    rw [e, hLm o ho] at this; cases this
/-- a tree that is a call -/
theorem callf_any {f : Value} {vs : List V} {cvs : List Value} {Q : V → St → Prop} (h : EvF prog w Bs k f vs σ Q) {A : Around} {s : Shared} {Qc Ec : Value → Shared → Prop} (hA : AOk k A) (hB : ∀ b o, Bs.get? b = some o → g.get? b = some o)
    (R : Rel prog w g L m σ s.heap) (r : VRs s.heap cvs vs) (hQ : ∀ cv v σ' h' tk, Q v σ' → Rel prog w g L m σ' h' → VR h' cv v → TK s.heap h' → Qc cv { s with heap := h', toks := tk }) :
    wpAny (model prog w) A (call f cvs) Qc Ec s :=
  h A _ s Qc Ec cvs hA (fun b o e => R.rh.le_mask b o (hB b o e)) R.rh.masked r fun cv v σ' h' tk hq R' rv t => hQ cv v σ' h' tk hq (R.leave R' t) rv t

theorem eva_nil {pos : Pos} {Q : List V → St → Prop} (h : Q [] σ) : EvA prog w Bs k env pos [] m σ Q :=
  fun A g s Qc Ec hA hB R hQ => args_nil (hQ _ _ σ s.heap s.toks h R .nil (.refl _))
theorem eva_cons {pos : Pos} {e : Expr} {rest : List Expr} {Q : List V → St → Prop} (h : EvE prog w Bs k env e m σ fun v σ1 => EvA prog w Bs k env pos rest m σ1 fun vs σ2 => Q (v :: vs) σ2)
    (he : starEach (e :: rest) env = (false, eval e env) :: starEach rest env := by rfl) : EvA prog w Bs k env pos (e :: rest) m σ Q :=
  fun A g s Qc Ec hA hB R hQ => args_cons (Ev.two (Qc := fun c d s₂ => Qc (c :: d) s₂) h (fun t r => r.mono t) hA hB R fun c d a b σ' h' tk hq R' ra rb t => hQ _ _ σ' h' tk hq R' (.cons ra rb) t) he
theorem ev_call {fn : Str} {p pos : Pos} {e : Expr} {rest : List Expr} {f : Addr} {fo : Obj} {fd : FuncData} {Q : V → St → Prop} (hf : Bs.get? f = some fo) (hd : fo.data = .func fd)
    (h : EvE prog w Bs k env (.Name fn p) m σ fun v σ0 => v = .raw (.ref f) ∧ EvA prog w Bs k env pos (e :: rest) m σ0 fun vs σ1 => EvF prog w Bs k (.ref f) vs σ1 Q)
    (he : starEach (e :: rest) env = (false, eval e env) :: starEach rest env := by rfl) :
    EvE prog w Bs k env (.Call (.Name fn p) (e :: rest) [] pos) m σ Q := fun A g s Qc Ec hA hB R hQ =>
  Call_ (h A g s _ _ hA hB R fun c v σ0 h0 tk0 ⟨ev, ha⟩ R0 r0 t0 => by
    subst ev; cases r0
    exact callWith_def hd (ha A g _ _ _ hA hB R0 fun cvs vs σ1 h1 tk1 hq R1 rs t1 =>
      ⟨R1.rh.keep _ _ (hB _ _ hf), callf_any (s := { s with heap := h1, toks := tk1 }) hq hA hB R1 rs fun cv v σ' h' tk hq' R' rv t => hQ cv v σ' h' tk hq' R' rv (t0.trans (t1.trans t))⟩) he)
theorem ev_call0 {fn : Str} {p pos : Pos} {f : Addr} {fo : Obj} {fd : FuncData} {Q : V → St → Prop} (hf : Bs.get? f = some fo) (hd : fo.data = .func fd)
    (h : EvE prog w Bs k env (.Name fn p) m σ fun v σ0 => v = .raw (.ref f) ∧ EvF prog w Bs k (.ref f) [] σ0 Q) :
    EvE prog w Bs k env (.Call (.Name fn p) [] [] pos) m σ Q := fun A g s Qc Ec hA hB R hQ =>
  Call_ (h A g s _ _ hA hB R fun c v σ0 h0 tk0 ⟨ev, ha⟩ R0 r0 t0 => by
    subst ev; cases r0
    exact callWith_function (o := fo) (fd := fd) (evalArgs_nil3 ⟨⟨R0.rh.keep _ _ (hB _ _ hf), hd⟩, callf_any (s := { s with heap := h0, toks := tk0 }) ha hA hB R0 .nil fun cv v σ' h' tk hq' R' rv t => hQ cv v σ' h' tk hq' R' rv (t0.trans t)⟩))
-- built-in functions and types by name
theorem ev_callb {fn : Str} {p pos : Pos} {e : Expr} {rest : List Expr} {id : String} {Q : V → St → Prop}
    (h : EvE prog w Bs k env (.Name fn p) m σ fun v σ0 => v = .raw (.builtin id) ∧ EvA prog w Bs k env pos (e :: rest) m σ0 fun vs σ1 => EvF prog w Bs k (.builtin id) vs σ1 Q)
    (he : starEach (e :: rest) env = (false, eval e env) :: starEach rest env := by rfl) (hp : (backTo pos (starEach rest env)).any (·.1) = false := by rfl) :
    EvE prog w Bs k env (.Call (.Name fn p) (e :: rest) [] pos) m σ Q := fun A g s Qc Ec hA hB R hQ =>
  Call_ (h A g s _ _ hA hB R fun c v σ0 h0 tk0 ⟨ev, ha⟩ R0 r0 t0 => by
    subst ev; cases r0
    exact callWith_builtin1 (ha A g _ _ _ hA hB R0 fun cvs vs σ1 h1 tk1 hq R1 rs t1 =>
      callf_any (s := { s with heap := h1, toks := tk1 }) hq hA hB R1 rs fun cv v σ' h' tk hq' R' rv t => hQ cv v σ' h' tk hq' R' rv (t0.trans (t1.trans t))) he hp)
theorem ev_callt {fn : Str} {p pos : Pos} {e : Expr} {rest : List Expr} {T : String} {Q : V → St → Prop}
    (h : EvE prog w Bs k env (.Name fn p) m σ fun v σ0 => v = .raw (.type T) ∧ EvA prog w Bs k env pos (e :: rest) m σ0 fun vs σ1 => EvF prog w Bs k (.type T) vs σ1 Q)
    (he : starEach (e :: rest) env = (false, eval e env) :: starEach rest env := by rfl) (hp : (backTo pos (starEach rest env)).any (·.1) = false := by rfl) :
    EvE prog w Bs k env (.Call (.Name fn p) (e :: rest) [] pos) m σ Q := fun A g s Qc Ec hA hB R hQ =>
  Call_ (h A g s _ _ hA hB R fun c v σ0 h0 tk0 ⟨ev, ha⟩ R0 r0 t0 => by
    subst ev; cases r0
    exact PyProof.Rows.callWith_type1 (ha A g _ _ _ hA hB R0 fun cvs vs σ1 h1 tk1 hq R1 rs t1 =>
      callf_any (s := { s with heap := h1, toks := tk1 }) hq hA hB R1 rs fun cv v σ' h' tk hq' R' rv t => hQ cv v σ' h' tk hq' R' rv (t0.trans (t1.trans t))) he hp)
end
end Mine

set_option Elab.async false
set_option linter.unusedVariables false
namespace Mine
open PySem PyProof.Rows

def locs (fd : FuncData) (ps : List Str) (vs : List V) : Env' := (ps.zip vs).filter fun p => fd.scope.names.lookup p.1 == some .local
def cellsσ (fd : FuncData) (L : Addr) (ps : List Str) (vs : List V) : St := (cellsFrom (L + 1) fd.scope.names []).map fun nc => (nc.2, O.cell ((ps.zip vs).lookup nc.1))

theorem lookup_none_of_not_mem {α : Type} : ∀ {l : List (Str × α)} {x : Str}, x ∉ l.map (·.1) → l.lookup x = none
  | [], _, _ => rfl
  | (y, v) :: r, x, h => by
    rw [List.lookup_cons]
    have h1 : x ≠ y := fun e => h (by rw [e]; exact .head _)
    have : (x == y) = false := by simpa using h1
    rw [this]
    exact lookup_none_of_not_mem fun hm => h (.tail _ hm)
theorem lookup_mem_nodup {α : Type} : ∀ {l : List (Str × α)} {x : Str} {v : α}, (l.map (·.1)).Nodup → (x, v) ∈ l → l.lookup x = some v
  | (y, u) :: r, x, v, nd, h => by
    rw [List.lookup_cons]
    rcases List.mem_cons.mp h with e | h
    · cases e; simp
    · have : x ≠ y := fun e => (List.nodup_cons.mp nd).1 (by rw [← e]; exact List.mem_map_of_mem (f := (·.1)) h)
      have : (x == y) = false := by simpa using this
      rw [this]
      exact lookup_mem_nodup (List.nodup_cons.mp nd).2 h
theorem cellsFrom_nodup : ∀ (names : List (Str × NameKind)) (n : Nat) (acc : List (Str × Addr)), (names.map (·.1) ++ acc.map (·.1)).Nodup → ((cellsFrom n names acc).map (·.1)).Nodup
  | [], _, acc, h => by simpa [cellsFrom] using h
  | (x, kd) :: r, n, acc, h => by
    unfold cellsFrom
    split
    · refine cellsFrom_nodup r _ _ ?_
      have : List.Perm (r.map (·.1) ++ ((x, n) :: acc).map (·.1)) (((x, kd) :: r).map (·.1) ++ acc.map (·.1)) := by
        simp only [List.map_cons, List.cons_append]
        exact List.perm_middle
      exact this.nodup_iff.mpr h
    · refine cellsFrom_nodup r _ _ ?_
      simp only [List.map_cons, List.cons_append] at h
      exact (List.nodup_cons.mp h).2

section
variable {h : Heap} {kindOf : Str → Option NameKind}
theorem bindL_out : ∀ {ps : List Str} {cvs : List Value} {mc : Str → Option Value} {x : Str}, x ∉ ps → bindL kindOf (ps.zip cvs) mc x = mc x
  | [], _, _, _, _ => rfl
  | p :: ps, [], _, _, _ => rfl
  | p :: ps, c :: cvs, mc, x, hx => by
    show bindL kindOf (ps.zip cvs) _ x = _
    rw [bindL_out fun hm => hx (.tail _ hm)]
    split
    · show (if x = p then some c else mc x) = mc x
      exact if_neg fun e => hx (by rw [e]; exact .head _)
    · rfl
theorem bindC_out : ∀ {ps : List Str} {cvs : List Value} {mc : Str → Option Value} {x : Str}, x ∉ ps → bindC kindOf (ps.zip cvs) mc x = mc x
  | [], _, _, _, _ => rfl
  | p :: ps, [], _, _, _ => rfl
  | p :: ps, c :: cvs, mc, x, hx => by
    show bindC kindOf (ps.zip cvs) _ x = _
    rw [bindC_out fun hm => hx (.tail _ hm)]
    split
    · rfl
    · show (if x = p then some c else mc x) = mc x
      exact if_neg fun e => hx (by rw [e]; exact .head _)
theorem bindL_in : ∀ {ps : List Str} {cvs : List Value} {vs : List V} {mc : Str → Option Value} {x : Str} {v : V}, ps.Nodup → VRs h cvs vs → (ps.zip vs).lookup x = some v → kindOf x = some .local →
    ∃ cv, bindL kindOf (ps.zip cvs) mc x = some cv ∧ VR h cv v
  | [], _, _, _, _, _, _, _, e, _ => by simp at e
  | p :: ps, _, _, _, _, _, _, .nil, e, _ => by simp at e
  | p :: ps, _, _, mc, x, v, nd, .cons (c := c) (cs := cs) r rs, e, hk => by
    rw [List.zip_cons_cons, List.lookup_cons] at e
    show ∃ cv, bindL kindOf (ps.zip cs) _ x = some cv ∧ _
    cases q : x == p with
    | true =>
      rw [q] at e
      have hx := eq_of_beq q
      subst hx
      cases e
      refine ⟨c, ?_, r⟩
      rw [bindL_out (List.nodup_cons.mp nd).1, if_pos hk, if_pos rfl]
    | false =>
      rw [q] at e
      exact bindL_in (List.nodup_cons.mp nd).2 rs e hk
theorem bindC_in : ∀ {ps : List Str} {cvs : List Value} {vs : List V} {mc : Str → Option Value} {x : Str} {v : V}, ps.Nodup → VRs h cvs vs → (ps.zip vs).lookup x = some v → kindOf x ≠ some .local →
    ∃ cv, bindC kindOf (ps.zip cvs) mc x = some cv ∧ VR h cv v
  | [], _, _, _, _, _, _, _, e, _ => by simp at e
  | p :: ps, _, _, _, _, _, _, .nil, e, _ => by simp at e
  | p :: ps, _, _, mc, x, v, nd, .cons (c := c) (cs := cs) r rs, e, hk => by
    rw [List.zip_cons_cons, List.lookup_cons] at e
    show ∃ cv, bindC kindOf (ps.zip cs) _ x = some cv ∧ _
    cases q : x == p with
    | true =>
      rw [q] at e
      have hx := eq_of_beq q
      subst hx
      cases e
      refine ⟨c, ?_, r⟩
      rw [bindC_out (List.nodup_cons.mp nd).1, if_neg hk, if_pos rfl]
    | false =>
      rw [q] at e
      exact bindC_in (List.nodup_cons.mp nd).2 rs e hk
end

theorem zip_map_fst {α β : Type} : ∀ (a : List α) (b : List β), ∀ x ∈ (a.zip b), x.1 ∈ a
  | [], _, _, h => by simp at h
  | a :: as, [], _, h => by simp at h
  | a :: as, b :: bs, x, h => by
    rcases List.mem_cons.mp h with rfl | h
    · exact .head _
    · exact .tail _ (zip_map_fst as bs x h)
theorem lookup_filter_some {α : Type} (p : Str × α → Bool) : ∀ {l : List (Str × α)} {x : Str} {v : α}, (l.map (·.1)).Nodup → (l.filter p).lookup x = some v → l.lookup x = some v ∧ p (x, v) = true := by
  intro l x v nd e
  have hm := mem_of_lookup e
  have := List.mem_filter.mp hm
  exact ⟨lookup_mem_nodup nd this.1, this.2⟩
theorem zip_nodup {α : Type} : ∀ {ps : List Str} {vs : List α}, ps.Nodup → ((ps.zip vs).map (·.1)).Nodup
  | [], _, _ => by simp
  | p :: ps, [], _ => by simp
  | p :: ps, v :: vs, nd => by
    simp only [List.zip_cons_cons, List.map_cons]
    refine List.nodup_cons.mpr ⟨fun hm => ?_, zip_nodup (List.nodup_cons.mp nd).2⟩
    obtain ⟨q, hq, e⟩ := List.mem_map.mp hm
    exact (List.nodup_cons.mp nd).1 (e ▸ zip_map_fst _ _ q hq)

section
variable {prog : Program} {w : World} {Bs : Heap} {k : Nat} {env : Env} {m : Env'} {σ : St} {g : Heap}

theorem RH.more (cs : List (Str × Addr)) (a : Str → Option V) : ∀ {h : Heap} {σ : St}, RH prog w g σ h → (cs.Pairwise fun x y => x.2 ≠ y.2) → (∀ nc ∈ cs, cStatics < nc.2 ∧ g.get? nc.2 = none ∧ (∀ p ∈ σ, p.1 ≠ nc.2) ∧ ∃ cv, h.IsCell nc.2 cv ∧ OVR h cv (a nc.1)) →
    RH prog w g (cs.map (fun nc => (nc.2, O.cell (a nc.1))) ++ σ) h := by
  intro h σ R pw hc
  refine ⟨R.keep, ?_, fun p hp => ?_, R.st, fun p hp => ?_⟩
  · rw [List.map_append, List.map_map]
    refine List.nodup_append.mpr ⟨?_, R.nd, fun x hx y hy e => ?_⟩
    · exact (List.pairwise_map.mpr pw)
    · obtain ⟨nc, hn, rfl⟩ := List.mem_map.mp hx
      obtain ⟨p, hp, rfl⟩ := List.mem_map.mp hy
      exact (hc nc hn).2.2.1 p hp e.symm
  · rcases List.mem_append.mp hp with hp | hp
    · obtain ⟨nc, hn, rfl⟩ := List.mem_map.mp hp
      obtain ⟨_, h1, _, cv, ⟨o, ho, hd⟩, r⟩ := hc nc hn
      exact ⟨h1, o, ho, cv, hd, r⟩
    · exact R.own p hp
  · rcases List.mem_append.mp hp with hp | hp
    · obtain ⟨nc, hn, rfl⟩ := List.mem_map.mp hp
      exact (hc nc hn).1
    · exact R.low p hp

def flV : Flow → Value
  | .ret v => v
  | _ => .none
theorem evf_enterX {fd : FuncData} {fo : Obj} {f : Addr} {body : List Stmt} {ps : List Str} {vs : List V} {A : Around} {g : Heap} {s : Shared} {Qc Ec : Value → Shared → Prop} {cvs : List Value}
    (hf : Bs.get? f = some fo) (hd : fo.data = .func fd) (hlim : Bs.NoLimit) (hcd : Bs.CodeRec fd.code fd.qualname) (hbody : fd.body = .stmts body)
    (hbind : ∀ cvs : List Value, cvs.length = ps.length → bindArgs fd ⟨cvs, []⟩ = pure (ps.zip cvs)) (hlen : vs.length = ps.length)
    (hA : AOk (k + 1) A) (hB : ∀ b o, Bs.get? b = some o → g.get? b = some o) (R : RH prog w g σ s.heap) (rs : VRs s.heap cvs vs)
    (h : ∀ h₁ tk₁, (∀ b o, s.heap.get? b = some o → h₁.get? b = some o) → Rel prog w g s.heap.objs.size (locs fd ps vs) (cellsσ fd s.heap.objs.size ps vs ++ σ) h₁ → g.get? s.heap.objs.size = none → AOk k (A.deeper (callEnvC fd s.heap.objs.size f)) →
      wpAny (model prog w) (A.deeper (callEnvC fd s.heap.objs.size f)) (execs body (callEnvC fd s.heap.objs.size f)) (fun fl s' => Qc (flV fl) s') (fun e s' => wpAny (model prog w) (A.deeper (callEnvC fd s.heap.objs.size f)) (leaving (callEnvC fd s.heap.objs.size f) e) (fun _ s'' => Ec e s'') (fun e' s'' => Ec e' s'') s') { s with heap := h₁, toks := tk₁ })
    (hclo : fd.closure = []) (hnp : ps.Nodup)
    (hkind : ∀ x ∈ ps, fd.scope.names.lookup x = some .local ∨ (fd.scope.names.lookup x = some .cell ∧ ∀ n, ((cellsFrom n fd.scope.names []).lookup x).isSome = true)) (hnn : (fd.scope.names.map (·.1)).Nodup)
    (hco : fd.scope.isCoroutine = false) (hgen : fd.scope.isGenerator = false) (hk : fd.scope.kind = .function) : wpAny (model prog w) A (call (.ref f) cvs) Qc Ec s := by
  have kp : ∀ b o, Bs.get? b = some o → s.heap.get? b = some o := fun b o e => R.keep b o (hB b o e)
  have hcl : cvs.length = ps.length := rs.length.trans hlen
  obtain ⟨ci, co, cvv, ct, hci⟩ := hcd
  refine wpAny_call (codeAny_call_cells hA.room (kp _ _ hf) hd (hlim.keeps kp) ⟨ci, co, cvv, ct, hci.1, kp _ _ hci.2.1, hci.2.2⟩ hbody (hbind cvs hcl) hclo
    (fun x hx => (hkind x.1 (zip_map_fst _ _ x hx)).imp id fun q => ⟨q.1, q.2 _⟩) (fun s₁ X => ?_) hco hgen hk)
  obtain ⟨h₁, tk₁, rfl, hk₁⟩ := X.done
  have hgL : g.get? s.heap.objs.size = none := by
    cases q : g.get? s.heap.objs.size with
    | none => rfl
    | some o => exact absurd (Heap.lt_size (R.keep _ _ q)) (Nat.lt_irrefl _)
  have tk : TK s.heap h₁ := .of_keep hk₁
  have rs' := rs.mono tk
  have R₁ : RH prog w g σ h₁ := R.ext hk₁
  have sz : ∀ p ∈ σ, p.1 < s.heap.objs.size := fun p hp => let ⟨_, o, ho, _⟩ := R.own p hp; Heap.lt_size ho
  have hkd : ∀ x, (callEnvC fd s.heap.objs.size f).kindOf x = fd.scope.names.lookup x := fun x => rfl
  have Rc : Rel prog w g s.heap.objs.size (locs fd ps vs) (cellsσ fd s.heap.objs.size ps vs ++ σ) h₁ := by
    refine ⟨RH.more _ (fun n => (ps.zip vs).lookup n) R₁ X.apart fun nc hn => ?_, ⟨_, X.toInCall.ns, fun x v e => ?_⟩, fun p hp => ?_⟩
    · have ab : s.heap.objs.size < nc.2 := X.above nc.1 nc.2 hn
      refine ⟨Nat.lt_trans R.big ab, ?_, fun p hp => ?_, ?_⟩
      · cases q : g.get? nc.2 with
        | none => rfl
        | some o => exact absurd (Nat.lt_trans ab (Heap.lt_size (R.keep _ _ q))) (Nat.lt_irrefl _)
      · exact Nat.ne_of_lt (Nat.lt_trans (sz p hp) ab)
      · have hl : (cellsFrom (s.heap.objs.size + 1) fd.scope.names []).lookup nc.1 = some nc.2 := lookup_mem_nodup (cellsFrom_nodup _ _ _ (by simpa using hnn)) hn
        refine ⟨_, X.cell nc.1 nc.2 hl, ?_⟩
        have hnl : (callEnvC fd s.heap.objs.size f).kindOf nc.1 ≠ some .local ∨ (ps.zip vs).lookup nc.1 = none := by
          by_cases hm : nc.1 ∈ ps
          · left
            rw [hkd]
            intro e
            rcases hkind _ hm with q | q
            · -- a name that is local is no cell
              have key : ∀ (names : List (Str × NameKind)) (n : Nat) (acc : List (Str × Addr)), (∀ y ∈ acc, fd.scope.names.lookup y.1 = some .cell) → (∀ y ∈ names, fd.scope.names.lookup y.1 = some y.2) → ∀ y ∈ cellsFrom n names acc, fd.scope.names.lookup y.1 = some .cell := by
                intro names
                induction names with
                | nil => intro n acc ha _ y hy; exact ha y hy
                | cons p r ih =>
                  intro n acc ha hb y hy
                  obtain ⟨pn, pk⟩ := p
                  unfold cellsFrom at hy
                  split at hy
                  · rename_i hpk
                    refine ih _ _ ?_ (fun y hy => hb y (.tail _ hy)) y hy
                    intro z hz
                    rcases List.mem_cons.mp hz with rfl | hz
                    · have := hb _ (.head _)
                      rw [this]; exact congrArg some (eq_of_beq hpk)
                    · exact ha z hz
                  · exact ih _ _ ha (fun y hy => hb y (.tail _ hy)) y hy
              have := key fd.scope.names (s.heap.objs.size + 1) [] (fun _ hy => nomatch hy) (fun y hy => lookup_mem_nodup hnn hy) nc hn
              rw [this] at e; cases e
            · rw [q.1] at e; cases e
          · right
            refine lookup_none_of_not_mem fun hq => ?_
            obtain ⟨z, hz, e⟩ := List.mem_map.mp hq
            exact hm (e ▸ zip_map_fst _ _ z hz)
        cases q : (ps.zip vs).lookup nc.1 with
        | none =>
          have hout : nc.1 ∉ ps := fun hm => by
            have : ∃ v, (ps.zip vs).lookup nc.1 = some v := by
              clear q hnl hn hl ab
              clear X rs' rs hcl hbind hkind hnp h
              induction ps generalizing vs with
              | nil => cases hm
              | cons p ps ih =>
                cases vs with
                | nil => simp at hlen
                | cons v vs =>
                  rw [List.zip_cons_cons, List.lookup_cons]
                  cases e : nc.1 == p with
                  | true => exact ⟨v, rfl⟩
                  | false =>
                    refine ih (by simpa using hlen) ?_
                    rcases List.mem_cons.mp hm with e' | hm
                    · rw [e'] at e; simp at e
                    · exact hm
            obtain ⟨v, hv⟩ := this
            rw [hv] at q; cases q
          rw [bindC_out hout]; exact .none
        | some v =>
          obtain ⟨cv, e, r⟩ := bindC_in (mc := fun _ => none) hnp rs' q (hnl.resolve_right (by rw [q]; simp))
          rw [e]; exact .some r
    · obtain ⟨h1, h2⟩ := lookup_filter_some _ (zip_nodup hnp) e
      exact bindL_in hnp rs' h1 (by rw [hkd]; exact eq_of_beq h2)
    · rcases List.mem_append.mp hp with hp | hp
      · obtain ⟨nc, hn, rfl⟩ := List.mem_map.mp hp
        have := X.above nc.1 nc.2 hn
        exact Nat.ne_of_gt this
      · exact Nat.ne_of_lt (sz p hp)
  refine wpAny_mono (h h₁ tk₁ hk₁ Rc hgL (hA.deeper _)) (fun fl s' hq => ?_) fun _ _ e => e
  cases fl with
  | ret v => exact hq
  | _ => exact hq
theorem evf_enter {fd : FuncData} {fo : Obj} {f : Addr} {body : List Stmt} {ps : List Str} {vs : List V} {A : Around} {g : Heap} {s : Shared} {Qc Ec : Value → Shared → Prop} {cvs : List Value}
    (hf : Bs.get? f = some fo) (hd : fo.data = .func fd) (hlim : Bs.NoLimit) (hcd : Bs.CodeRec fd.code fd.qualname) (hbody : fd.body = .stmts body)
    (hbind : ∀ cvs : List Value, cvs.length = ps.length → bindArgs fd ⟨cvs, []⟩ = pure (ps.zip cvs)) (hlen : vs.length = ps.length)
    (hA : AOk (k + 1) A) (hB : ∀ b o, Bs.get? b = some o → g.get? b = some o) (R : RH prog w g σ s.heap) (rs : VRs s.heap cvs vs)
    (h : ∀ h₁ tk₁ Ec', (∀ b o, s.heap.get? b = some o → h₁.get? b = some o) → Rel prog w g s.heap.objs.size (locs fd ps vs) (cellsσ fd s.heap.objs.size ps vs ++ σ) h₁ → g.get? s.heap.objs.size = none → AOk k (A.deeper (callEnvC fd s.heap.objs.size f)) →
      wpAny (model prog w) (A.deeper (callEnvC fd s.heap.objs.size f)) (execs body (callEnvC fd s.heap.objs.size f)) (fun fl s' => Qc (flV fl) s') Ec' { s with heap := h₁, toks := tk₁ })
    (hclo : fd.closure = []) (hnp : ps.Nodup)
    (hkind : ∀ x ∈ ps, fd.scope.names.lookup x = some .local ∨ (fd.scope.names.lookup x = some .cell ∧ ∀ n, ((cellsFrom n fd.scope.names []).lookup x).isSome = true)) (hnn : (fd.scope.names.map (·.1)).Nodup)
    (hco : fd.scope.isCoroutine = false) (hgen : fd.scope.isGenerator = false) (hk : fd.scope.kind = .function) : wpAny (model prog w) A (call (.ref f) cvs) Qc Ec s :=
  evf_enterX hf hd hlim hcd hbody hbind hlen hA hB R rs (fun h₁ tk₁ hk₁ Rc hgL hA' => h h₁ tk₁ _ hk₁ Rc hgL hA') hclo hnp hkind hnn hco hgen hk
theorem evf {fd : FuncData} {fo : Obj} {f : Addr} {body : List Stmt} {ps : List Str} {vs : List V} {Q : V → St → Prop}
    (hf : Bs.get? f = some fo) (hd : fo.data = .func fd) (hlim : Bs.NoLimit) (hcd : Bs.CodeRec fd.code fd.qualname) (hbody : fd.body = .stmts body)
    (hbind : ∀ cvs : List Value, cvs.length = ps.length → bindArgs fd ⟨cvs, []⟩ = pure (ps.zip cvs)) (hlen : vs.length = ps.length)
    (h : ∀ L, EvS prog w Bs k (callEnvC fd L f) body (locs fd ps vs) (cellsσ fd L ps vs ++ σ) fun fl _ σ' => ∃ σ'', SubP σ'' σ' ∧ Q (retOf fl) σ'')
    (hclo : fd.closure = [] := by rfl) (hnp : ps.Nodup := by decide)
    (hkind : ∀ x ∈ ps, fd.scope.names.lookup x = some .local ∨ (fd.scope.names.lookup x = some .cell ∧ ∀ n, ((cellsFrom n fd.scope.names []).lookup x).isSome = true) := by decide) (hnn : (fd.scope.names.map (·.1)).Nodup := by decide)
    (hco : fd.scope.isCoroutine = false := by rfl) (hgen : fd.scope.isGenerator = false := by rfl) (hk : fd.scope.kind = .function := by rfl) : EvF prog w Bs (k + 1) (.ref f) vs σ Q := by
  intro A g s Qc Ec cvs hA hB R rs hQ
  refine evf_enter hf hd hlim hcd hbody hbind hlen hA hB R rs (fun h₁ tk₁ Ec' hk₁ Rc hgL hA' => ?_) hclo hnp hkind hnn hco hgen hk
  refine h s.heap.objs.size _ g _ _ _ hA' hB hgL Rc fun c fl m' σ' h' tk' hh R' fr t => ?_
  obtain ⟨σ'', sub, hq⟩ := hh
  have t' : TK s.heap h' := (TK.of_keep hk₁).trans t
  have R'' : RH prog w g σ'' h' := R'.rh.subP sub
  cases fr with
  | next => exact hQ _ _ σ'' h' tk' hq R'' .none t'
  | brk => exact hQ _ _ σ'' h' tk' hq R'' .none t'
  | cont => exact hQ _ _ σ'' h' tk' hq R'' .none t'
  | ret r => exact hQ _ _ σ'' h' tk' hq R'' r t'
end
end Mine

set_option Elab.async false
set_option linter.unusedVariables false
namespace Mine
open PySem PyProof.Rows PySem.Calls

section
variable {prog : Program} {w : World} {Bs : Heap} {k : Nat} {env : Env} {m : Env'} {σ : St} {g h h' : Heap} {L a : Addr} {ob : O} {vs : List V} {kvs : List (Str × V)}

theorem RH.list_at (R : RH prog w g σ h) (hm : (a, ob) ∈ σ) (hl : ob.peel = .list vs) : ∃ cvs n, h.get? a = some (lstO cvs n) ∧ VRs h cvs vs := by
  obtain ⟨_, o, ho, r⟩ := R.own _ hm
  have r' := r.peel
  rw [hl] at r'
  obtain ⟨cvs, n, e, rs⟩ := r'
  exact ⟨cvs, n, by rw [ho, e], rs⟩
theorem RH.dict_at (R : RH prog w g σ h) (hm : (a, ob) ∈ σ) (hl : ob.peel = .dict kvs) : ∃ ckvs, h.DictOf (strKind prog w) a ckvs ∧ KVR h ckvs kvs := by
  obtain ⟨_, o, ho, r⟩ := R.own _ hm
  have r' := r.peel
  rw [hl] at r'
  obtain ⟨c, e, rs⟩ := r'
  exact ⟨c, Heap.dictOf_iff.mpr ⟨o, ho, e⟩, rs⟩
theorem list_tk {cvs : List Value} {n : Nat} (ho : h.get? a = some (lstO cvs n)) (hs : Heap.SameBut a h h') : TK h h' := fun b c k e => by
  refine (hs.2 b fun q => ?_).trans e
  rw [q, ho] at e
  have := congrArg Obj.cls (Option.some.inj e)
  exact absurd (Value.type.inj this) (by decide)
theorem dict_tk {ckvs : List (Str × Value)} (hd : h.DictOf (strKind prog w) a ckvs) (hs : Heap.SameBut a h h') : TK h h' := fun b c k e => by
  refine (hs.2 b fun q => ?_).trans e
  obtain ⟨o, es, ep, ho, hx, hdat, _⟩ := hd
  rw [q, ho] at e; cases e; cases hdat

-- displays
theorem ev_tuple {es : List Expr} {kk : Nat} {pos : Pos} {Q : V → St → Prop} (h : EvA prog w Bs k env pos es m σ fun vs σ1 => vs.length ≤ sizeLine ∧ Q (.tup vs) σ1) : EvE prog w Bs k env (.Tuple es kk pos) m σ Q :=
  fun A g s Qc Ec hA hB R hQ => wpAny_Tuple (h A g s _ _ hA hB R fun cvs vs σ1 h1 tk ⟨hl, hq⟩ R1 rs t => ⟨by rw [rs.length]; exact hl,
    have kp := push_keep h1 (tupO cvs 0)
    hQ _ _ σ1 _ tk hq (R1.ext kp) (.tup (cvs := cvs) (n := 0) (Heap.get?_push_size _ rfl) (rs.mono (.of_keep kp))) (t.trans (.of_keep kp))⟩)
theorem ev_list {es : List Expr} {pos : Pos} {Q : V → St → Prop} (h : EvA prog w Bs k env pos es m σ fun vs σ1 => vs.length ≤ sizeLine ∧ ∀ a, Q (.ref a) ((a, .list vs) :: σ1)) : EvE prog w Bs k env (.List es pos) m σ Q :=
  fun A g s Qc Ec hA hB R hQ => wpAny_List (h A g s _ _ hA hB R fun cvs vs σ1 h1 tk ⟨hl, hq⟩ R1 rs t => ⟨by rw [rs.length]; exact hl,
    have kp := push_keep h1 (lstO cvs 0)
    hQ _ _ _ _ tk (hq _) (R1.new kp (Nat.le_refl _) (Heap.get?_push_size _ rfl) ⟨cvs, 0, rfl, rs.mono (.of_keep kp)⟩) (.ref _) (t.trans (.of_keep kp))⟩)
theorem ev_dict0 {pos : Pos} {Q : V → St → Prop} (h : ∀ a, Q (.ref a) ((a, .dict []) :: σ)) : EvE prog w Bs k env (.Dict [] [] pos) m σ Q :=
  fun A g s Qc Ec hA hB R hQ => wpAny_Dict_empty (
    have kp := push_keep s.heap { cls := .type "dict", data := .dict #[] }
    hQ _ _ _ _ s.toks (h _) (R.new (o := { cls := .type "dict", data := .dict #[] }) kp (Nat.le_refl _) (Heap.get?_push_size _ rfl)
      ⟨[], by
        obtain ⟨o, ho, hd⟩ := Heap.dictOf_iff.mp (Heap.DictOf.new (knd := strKind prog w) s.heap)
        rw [Heap.get?_push_size _ rfl] at ho; cases ho; exact hd, .nil⟩) (.ref _) (.of_keep kp))

-- items
inductive Item (S : St) : V → V → V → Prop
  | list {a : Addr} {ob : O} {vs : List V} {j : Int} {v : V} (hm : (a, ob) ∈ S) (hl : ob.peel = .list vs) (h0 : 0 ≤ j) (h1 : j < 2 ^ 63) (hx : vs[j.toNat]? = some v) : Item S (.ref a) (.int j) v
  | tup {vs : List V} {j : Int} {v : V} (h0 : 0 ≤ j) (h1 : j < 2 ^ 63) (hx : vs[j.toNat]? = some v) : Item S (.tup vs) (.int j) v
  | dict {a : Addr} {ob : O} {kvs : List (Str × V)} {x : Str} {v : V} (hm : (a, ob) ∈ S) (hl : ob.peel = .dict kvs) (hx : kvs.lookup x = some v) : Item S (.ref a) (.str x) v
theorem KVR.find : ∀ {c : List (Str × Value)} {v : List (Str × V)}, KVR h c v → ∀ {x : Str} {u : V}, v.lookup x = some u → ∃ cu, valueAt c x = some cu ∧ VR h cu u
  | _, _, .nil, _, _, e => by simp at e
  | _, _, .cons (k := y) (c := c) r rs, x, u, e => by
    rw [List.lookup_cons] at e
    unfold valueAt
    rw [List.find?_cons]
    cases q : x == y with
    | true =>
      rw [q] at e; cases e
      have := eq_of_beq q; subst this
      exact ⟨c, by simp, r⟩
    | false =>
      rw [q] at e
      have : ¬ y = x := fun e => by rw [e] at q; simp at q
      obtain ⟨cu, h1, h2⟩ := KVR.find rs e
      unfold valueAt at h1
      exact ⟨cu, by simp [this, h1], h2⟩
theorem KVR.findNone : ∀ {c : List (Str × Value)} {v : List (Str × V)}, KVR h c v → ∀ {x : Str}, v.lookup x = none → valueAt c x = none
  | _, _, .nil, _, _ => rfl
  | _, _, .cons (k := y) (c := c) r rs, x, e => by
    rw [List.lookup_cons] at e
    unfold valueAt
    rw [List.find?_cons]
    cases q : x == y with
    | true => rw [q] at e; cases e
    | false =>
      rw [q] at e
      have : ¬ y = x := fun e => by rw [e] at q; simp at q
      have h1 := KVR.findNone rs e
      unfold valueAt at h1
      simp [this, h1]
theorem item_any {o i v : V} (hi : Item σ o i v) {A : Around} {s : Shared} {co ci : Value} {Qc Ec : Value → Shared → Prop} (R : RH prog w g σ s.heap) (ro : VR s.heap co o) (ri : VR s.heap ci i)
    {value slice : Expr} (hs : ∀ o i, subscripted slice false o i = operate [o, i] (getItem o i)) (hQ : ∀ cv tk, VR s.heap cv v → Qc cv { s with toks := tk }) :
    wpAny (model prog w) A (subscriptTail value slice co ci) Qc Ec s := by
  cases hi with
  | list hm hl h0 h1 hx =>
    cases ro; cases ri
    obtain ⟨cvs, n, ho, rs⟩ := R.list_at hm hl
    obtain ⟨cv, hc, r⟩ := rs.get hx
    have hil : s.heap.IsList _ cvs.toArray := ⟨_, ho, rfl, n, rfl⟩
    exact tail_any hil.typeIs slot_list_getitem.lookup (wpAny_getItem_list hil h0 h1 (by simpa using hc) (hQ cv s.toks r)) (hs _ _)
  | @tup _ j _ h0 h1 hx =>
    cases ro with
    | @tup a cvs n vs ho rs =>
        obtain ⟨t, rfl⟩ : ∃ t, ci = .int j t := by cases ri; exact ⟨_, rfl⟩
        obtain ⟨cv, hc, r⟩ := rs.get hx
        have hit : IsTup s.heap a cvs.toArray := ⟨_, ho, rfl, n, rfl⟩
        have hlt : j.toNat < cvs.length := (List.getElem?_eq_some_iff.mp hc).1
        refine tail_any hit.typeIs slot_tuple_getitem.lookup (getItem_tuple hit (j := j.toNat) (by omega) h1 ?_ (by simpa using hc) (hQ cv s.toks r)) (hs _ _)
        have e1 : (if j < 0 then j + (cvs.toArray.size : Int) else j) = j := if_neg (by omega)
        show (if (decide (0 ≤ (if j < 0 then j + (cvs.toArray.size : Int) else j)) && decide ((if j < 0 then j + (cvs.toArray.size : Int) else j) < (cvs.toArray.size : Int))) = true then some (if j < 0 then j + (cvs.toArray.size : Int) else j).toNat else none) = some j.toNat
        rw [e1, if_pos]
        rw [Bool.and_eq_true]
        exact ⟨decide_eq_true h0, decide_eq_true (by simp; omega)⟩
  | dict hm hl hx =>
    cases ro; cases ri
    obtain ⟨ckvs, hd, rs⟩ := R.dict_at hm hl
    obtain ⟨cv, hc, r⟩ := rs.find hx
    exact tail_any hd.typeIs slot_dict_getitem.lookup (wpAny_getItem_of (strKind_is _ _ _ _) hd.mapOf hc (hQ cv _ r)) (hs _ _)
theorem ev_item {value slice : Expr} {pos : Pos} {Q : V → St → Prop} (h : EvE prog w Bs k env value m σ fun o σ1 => EvE prog w Bs k env slice m σ1 fun i σ2 => ∃ v, Item σ2 o i v ∧ Q v σ2)
    (hs : ∀ o i, subscripted slice false o i = operate [o, i] (getItem o i) := by intro _ _; rfl) : EvE prog w Bs k env (.Subscript value slice pos) m σ Q := fun A g s Qc Ec hA hB R hQ =>
  Subscript_ (Ev.two (Qc := fun c d s₂ => wpAny (model prog w) A (subscriptTail value slice c d) Qc Ec s₂) h (fun t r => r.mono t) hA hB R fun c d o i σ' h' tk ⟨v, hv, hq⟩ R' ro ri t =>
    item_any hv (s := { s with heap := h', toks := tk }) R'.rh ro ri hs fun cv tk' r => hQ cv v σ' h' tk' hq R' r t)

-- built-in functions over lists
theorem bf_len_list {Q : V → St → Prop} (hm : (a, ob) ∈ σ) (hl : ob.peel = .list vs) (hz : vs.length ≤ sizeLine) (hq : Q (.int vs.length) σ) : EvF prog w Bs k (.builtin "len") [.ref a] σ Q := by
  intro A g s Qc Ec cvs hA hB R rs hQ
  cases rs with
  | cons r rs =>
    cases r; cases rs
    obtain ⟨cl, n, ho, rl⟩ := R.list_at hm hl
    have hil : s.heap.IsList a cl.toArray := ⟨_, ho, rfl, n, rfl⟩
    have e : cl.toArray.size = vs.length := by simp [rl.length]
    rw [sizeLine_eq] at hz
    refine len_list hil (by rw [e]; omega) ?_
    rw [e]
    exact hQ _ _ σ s.heap _ hq R (.int ..) (.refl _)
theorem bf_append {v : V} {σ' : St} {Q : V → St → Prop} (u : Up a (.list vs) (.list (vs ++ [v])) σ σ') (hz : vs.length ≤ sizeLine) (hq : Q .none σ') : EvF prog w Bs k (.builtin "list.append") [.ref a, v] σ Q := by
  intro A g s Qc Ec cvs hA hB R rs hQ
  cases rs with
  | cons r rs =>
    cases r
    cases rs with
    | cons rv rs =>
      cases rs
      rename_i cv
      obtain ⟨cl, n, ho, rl⟩ := R.list_at u.mem rfl
      refine wpAny_list_append_plain (l := a) (items := cl.toArray) ⟨n, ho⟩ (fun h' hp hs => ?_) (by simp [rl.length]; exact hz)
      obtain ⟨n', ho'⟩ := hp
      have tk := list_tk ho hs
      refine hQ _ _ σ' h' s.toks hq (R.upd u hs tk (c := lstO (cl ++ [cv]) n') (by rw [ho']; simp) ⟨_, n', rfl, (rl.append (.cons rv .nil)).mono tk⟩) .none tk
/-- list(xs), xs a list -/
theorem bf_list_list {Q : V → St → Prop} (hm : (a, ob) ∈ σ) (hl : ob.peel = .list vs) (hz : vs.length ≤ sizeLine) (hq : ∀ c, Q (.ref c) ((c, .list vs) :: σ)) : EvF prog w Bs k (.type "list") [.ref a] σ Q := by
  intro A g s Qc Ec cvs hA hB R rs hQ
  cases rs with
  | cons r rs =>
    cases r; cases rs
    obtain ⟨cl, n, ho, rl⟩ := R.list_at hm hl
    refine call_list_seq a (.inl rfl) ho rfl rfl (fun h' c' kp hn => ?_) (by simp [rl.length]; exact hz)
    exact hQ _ _ _ h' s.toks (hq _) (R.new kp (Nat.le_refl _) (o := lstO cl c') hn ⟨cl, c', rfl, rl.mono (.of_keep kp)⟩) (.ref _) (.of_keep kp)
/-- xs + ys -/
theorem ev_addlist {l r : Expr} {pos : Pos} {Q : V → St → Prop}
    (h : EvE prog w Bs k env l m σ fun x σ1 => EvE prog w Bs k env r m σ1 fun y σ2 => ∃ a b oa ob va vb, x = .ref a ∧ y = .ref b ∧ (a, oa) ∈ σ2 ∧ (b, ob) ∈ σ2 ∧ oa.peel = .list va ∧ ob.peel = .list vb ∧ va.length + vb.length ≤ sizeLine ∧ ∀ c, Q (.ref c) ((c, .list (va ++ vb)) :: σ2)) :
    EvE prog w Bs k env (.BinOp l .Add r pos) m σ Q := fun A g s Qc Ec hA hB R hQ =>
  wpAny_BinOp (Ev.two (Qc := fun c d s₂ => wpAny (model prog w) A (binaryOp .Add c d) Qc Ec s₂) h (fun t r => r.mono t) hA hB R fun c d x y σ' h' tk ⟨a, b, oa, ob, va, vb, ex, ey, ma, mb, la, lb, hz, hq⟩ R' rx ry t => by
    subst ex ey; cases rx; cases ry
    obtain ⟨ca, na, hoa, ra⟩ := R'.rh.list_at ma la
    obtain ⟨cb, nb, hob, rb⟩ := R'.rh.list_at mb lb
    have kp := push_keep h' (lstO (ca ++ cb) 0)
    refine P.add_list (s := { s with heap := h', toks := tk }) hoa hob ?_ (by simp [ra.length, rb.length]; exact hz)
    have e : ca.toArray ++ cb.toArray = (ca ++ cb).toArray := by simp
    rw [e]
    exact hQ _ _ _ _ tk (hq _) (R'.new kp (Nat.le_refl _) (o := lstO (ca ++ cb) 0) (Heap.get?_push_size _ rfl) ⟨_, 0, rfl, (ra.append rb).mono (.of_keep kp)⟩) (.ref _) (t.trans (.of_keep kp)))

-- slices of lists
abbrev EvP (prog : Program) (w : World) (Bs : Heap) (k : Nat) (env : Env) (e : Option Expr) (m : Env') (σ : St) (Q : V → St → Prop) : Prop := Ev prog w Bs VR k env.locals (evalPart e env) m σ Q
theorem evp_none {Q : V → St → Prop} (h : Q .none σ) : EvP prog w Bs k env none m σ Q := fun A g s Qc Ec hA hB R hQ => by
  rw [evalPart_none]; exact wpAny_pure (hQ _ _ σ s.heap s.toks h R .none (.refl _))
theorem evp_some {e : Expr} {Q : V → St → Prop} (h : EvE prog w Bs k env e m σ Q) : EvP prog w Bs k env (some e) m σ Q := fun A g s Qc Ec hA hB R hQ => by
  rw [evalPart_some]; exact h A g s Qc Ec hA hB R hQ
inductive Lo : V → Nat → Prop
  | none : Lo .none 0
  | int (i : Int) (h : 0 ≤ i) : Lo (.int i) i.toNat
inductive Hi (n : Nat) : V → Nat → Prop
  | none : Hi n .none n
  | int (i : Int) (h : 0 ≤ i) : Hi n (.int i) i.toNat
theorem slicePick_nat (items : Array Value) (lo hi : Option Int) (a b : Nat) (ha : lo = none ∧ a = 0 ∨ ∃ i, lo = some i ∧ 0 ≤ i ∧ a = i.toNat) (hb : hi = none ∧ b = items.size ∨ ∃ i, hi = some i ∧ 0 ≤ i ∧ b = i.toNat) :
    slicePick items lo hi none = ((items.toList.take b).drop a).toArray := by
  rw [slicePick_plain]
  have e1 : lo.elim 0 (clipAt items.size) = min a items.size := by
    rcases ha with ⟨rfl, rfl⟩ | ⟨i, rfl, h0, rfl⟩
    · simp
    · obtain ⟨n, rfl⟩ : ∃ n : Nat, i = n := ⟨i.toNat, by omega⟩
      show clipAt items.size n = _
      rw [clipAt_nat]; simp
  have e2 : hi.elim items.size (clipAt items.size) = min b items.size := by
    rcases hb with ⟨rfl, rfl⟩ | ⟨i, rfl, h0, rfl⟩
    · simp
    · obtain ⟨n, rfl⟩ : ∃ n : Nat, i = n := ⟨i.toNat, by omega⟩
      show clipAt items.size n = _
      rw [clipAt_nat]; simp
  rw [e1, e2]
  congr 1
  clear e1 e2 ha hb
  have hn : items.toList.length = items.size := by simp
  generalize items.toList = l at hn ⊢
  generalize items.size = n at hn ⊢
  rw [List.drop_take]
  apply List.ext_getElem?
  intro i
  simp only [List.getElem?_take, List.getElem?_drop]
  have out : ∀ j, n ≤ j → l[j]? = none := fun j hj => List.getElem?_eq_none (by omega)
  by_cases ha : a ≤ n
  · rw [Nat.min_eq_left ha]
    by_cases hi : i < b - a
    · rw [if_pos hi]
      by_cases hb : i < min b n - a
      · rw [if_pos hb]
      · rw [if_neg hb, out]; omega
    · rw [if_neg hi, if_neg (by omega)]
  · rw [Nat.min_eq_right (Nat.le_of_lt (Nat.lt_of_not_le ha)), if_neg (by omega)]
    split
    · rw [out]; omega
    · rfl
theorem ev_slice {value : Expr} {lower upper : Option Expr} {p pos : Pos} {Q : V → St → Prop}
    (h : EvE prog w Bs k env value m σ fun o σ1 => EvP prog w Bs k env lower m σ1 fun l σ2 => EvP prog w Bs k env upper m σ2 fun u σ3 =>
      ∃ a ob vs i j, o = .ref a ∧ (a, ob) ∈ σ3 ∧ ob.peel = .list vs ∧ Lo l i ∧ Hi vs.length u j ∧ vs.length ≤ sizeLine ∧ ∀ c, Q (.ref c) ((c, .list ((vs.take j).drop i)) :: σ3))
    (ht : ∀ o r, letTemporaryGo value o r = pure () := by intro _ _; rfl) : EvE prog w Bs k env (.Subscript value (.Slice lower upper none p) pos) m σ Q := fun A g s Qc Ec hA hB R hQ => by
  refine wpAny_Subscript_list_slice (h A g s _ _ hA hB R fun co o σ1 h1 tk1 hl R1 ro t1 => hl A g _ _ _ hA hB R1 fun cl l σ2 h2 tk2 hu R2 rl t2 => hu A g _ _ _ hA hB R2 fun cu u σ3 h3 tk3 hq R3 ru t3 => ?_) ht
  obtain ⟨a, ob, vs, i, j, rfl, hm, hl, li, hj, hz, hq⟩ := hq
  cases ro
  obtain ⟨cvs, n, ho, rs⟩ := R3.rh.list_at hm hl
  have el : ∃ lo, IsPart cl lo ∧ (lo = none ∧ i = 0 ∨ ∃ x, lo = some x ∧ 0 ≤ x ∧ i = x.toNat) := by
    cases li with
    | none => cases rl; exact ⟨_, .none, .inl ⟨rfl, rfl⟩⟩
    | int x h0 => cases rl; exact ⟨_, .int .., .inr ⟨x, rfl, h0, rfl⟩⟩
  have eu : ∃ hi, IsPart cu hi ∧ (hi = none ∧ j = cvs.toArray.size ∨ ∃ x, hi = some x ∧ 0 ≤ x ∧ j = x.toNat) := by
    cases hj with
    | none => cases ru; exact ⟨_, .none, .inl ⟨rfl, by simp [rs.length]⟩⟩
    | int x h0 => cases ru; exact ⟨_, .int .., .inr ⟨x, rfl, h0, rfl⟩⟩
  obtain ⟨lo, pl, il⟩ := el
  obtain ⟨hi, pu, iu⟩ := eu
  refine ⟨a, cvs.toArray, lo, hi, rfl, ⟨_, ho, rfl, n, rfl⟩, by simp [rs.length]; exact hz, pl, pu, ?_⟩
  rw [slicePick_nat _ _ _ i j il iu]
  have kp : ∀ b o, h3.get? b = some o → ((h3.push { cls := .type "slice", data := .fields #[cl, cu, .none] }).push (lstO ((cvs.take j).drop i) 0)).get? b = some o := fun b o e => push_keep _ _ _ _ (push_keep _ _ _ _ e)
  have hz' : (h3.push { cls := .type "slice", data := .fields #[cl, cu, .none] }).objs.size = h3.objs.size + 1 := Heap.size_push ..
  refine hQ _ _ _ _ tk3 (hq _) (R3.new kp ?_ (o := lstO ((cvs.take j).drop i) 0) ?_ ⟨_, 0, rfl, ((rs.take j).drop i).mono (.of_keep kp)⟩) (.ref _) (t1.trans (t2.trans (t3.trans (.of_keep kp))))
  · exact Nat.le_succ _
  · show (Heap.push _ _).get? (h3.objs.size + 1) = _
    rw [← hz']
    exact Heap.get?_push_size _ rfl
end
end Mine

set_option Elab.async false
set_option linter.unusedVariables false
namespace Mine
open PySem PyProof.Rows PySem.Calls

section
variable (prog : Program) (w : World)
/-- something is walked: its iterator I, the places it leans on (fp), those it writes (wr), the values -/
structure Iter (I : Addr) (fp wr : List Addr) (vs : List V) (need : St → Prop) (S : Nat → Heap → Prop) : Prop where
  sub : ∀ b ∈ wr, b ∈ fp
  there : ∀ i h, S i h → ∀ b ∈ fp, ∃ o, h.get? b = some o
  frame : ∀ i h h', S i h → (∀ b ∈ fp, ∀ o, h.get? b = some o → h'.get? b = some o) → TK h h' → S i h'
  item : ∀ (A : Around) (k : Nat) (g : Heap) (σ : St) (s : Shared) (Qc : Option Value → Shared → Prop) (Ec : Value → Shared → Prop) (i : Nat) (v : V), AOk k A → RH prog w g σ s.heap → need σ → S i s.heap → vs[i]? = some v →
    (∀ cv h' tk, VR h' cv v → S (i + 1) h' → (∀ b o, b ∉ wr → s.heap.get? b = some o → h'.get? b = some o) → TK s.heap h' → Qc (some cv) { s with heap := h', toks := tk }) → wpAny (model prog w) A (pyNext (.ref I)) Qc Ec s
  done : ∀ (A : Around) (k : Nat) (g : Heap) (σ : St) (s : Shared) (Qc : Option Value → Shared → Prop) (Ec : Value → Shared → Prop), AOk k A → RH prog w g σ s.heap → need σ → S vs.length s.heap →
    (∀ h' tk, (∀ b o, b ∉ wr → s.heap.get? b = some o → h'.get? b = some o) → TK s.heap h' → Qc none { s with heap := h', toks := tk }) → wpAny (model prog w) A (pyNext (.ref I)) Qc Ec s
  self : ∀ (A : Around) (i : Nat) (s : Shared) (Qc : Value → Shared → Prop) (Ec : Value → Shared → Prop), S i s.heap → Qc (.ref I) s → wpAny (model prog w) A (pyIter (.ref I)) Qc Ec s
end

section
variable {prog : Program} {w : World} {Bs : Heap} {k : Nat} {env : Env} {m : Env'} {σ : St} {g h h' : Heap} {L a : Addr} {ob : O} {vs : List V}

theorem RH.but {wr : List Addr} (R : RH prog w g σ h) (kp : ∀ b o, b ∉ wr → h.get? b = some o → h'.get? b = some o) (hw : ∀ b ∈ wr, g.get? b = none ∧ ∀ p ∈ σ, p.1 ≠ b) (tk : TK h h') : RH prog w g σ h' := by
  refine ⟨fun b o e => kp b o (fun hm => ?_) (R.keep b o e), R.nd, fun p hp => ?_, R.st, R.low⟩
  · rw [(hw b hm).1] at e; cases e
  · obtain ⟨h1, o, h2, h3⟩ := R.own p hp
    exact ⟨h1, o, kp _ _ (fun hm => (hw _ hm).2 p hp rfl) h2, h3.mono _ _ tk⟩
theorem Rel.but {wr : List Addr} (R : Rel prog w g L m σ h) (kp : ∀ b o, b ∉ wr → h.get? b = some o → h'.get? b = some o) (hw : ∀ b ∈ wr, g.get? b = none ∧ b ≠ L ∧ ∀ p ∈ σ, p.1 ≠ b) (tk : TK h h') : Rel prog w g L m σ h' := by
  refine ⟨R.rh.but kp (fun b hb => ⟨(hw b hb).1, (hw b hb).2.2⟩) tk, ?_, R.offS⟩
  obtain ⟨mc, hn, hv⟩ := R.ns
  exact ⟨mc, hn.at' fun o e => kp _ _ (fun hm => (hw _ hm).2.1 rfl) e, fun x v e => let ⟨cv, a, b⟩ := hv x v e; ⟨cv, a, b.mono tk⟩⟩

variable (prog w Bs) in
/-- a loop's turns: one name -/
def ForB (k : Nat) (env : Env) (bnd : Env' → V → Env') (body : List Stmt) (need : St → Prop) (Q : Fl → Env' → St → Prop) : List V → Env' → St → Prop
  | [], m, σ => Q .next m σ
  | v :: r, m, σ => EvS prog w Bs k env body (bnd m v) σ fun f m' σ' => match f with
    | .brk => Q .next m' σ'
    | .ret u => Q (.ret u) m' σ'
    | _ => need σ' ∧ ForB k env bnd body need Q r m' σ'

variable (prog w) in
/-- what a target does to the frame -/
def Asg (k : Nat) (env : Env) (target : Expr) (it : Value) (v : V) (bnd : Env' → V → Env') (SI : Heap → Prop) : Prop :=
  ∀ (A : Around) (g : Heap) (m : Env') (σ : St) (s : Shared) (cv : Value) (Qc : Unit → Shared → Prop) (Ec : Value → Shared → Prop), AOk k A → g.get? env.locals = none → Rel prog w g env.locals m σ s.heap → VR s.heap cv v → SI s.heap →
    (∀ h' tk, Rel prog w g env.locals (bnd m v) σ h' → TK s.heap h' → (∀ b o, b ≠ env.locals → s.heap.get? b = some o → h'.get? b = some o) → Qc () { s with heap := h', toks := tk }) →
    wpAny (model prog w) A (letOwnedTupleGo target it cv) (fun _ s₁ => wpAny (model prog w) A (assign target env cv) Qc Ec s₁) Ec s
theorem asg_name {x : Str} {px : Pos} {it : Value} {v : V} {SI : Heap → Prop} (hl : env.kindOf x = some .local) (hk : env.scope.kind = .function) : Asg prog w k env (.Name x px) it v (fun m v => mset m x v) SI :=
  fun A g m σ s cv Qc Ec hA hL R r _ hQ => wpAny_pure (wpAny_assign_Name (by
    obtain ⟨mc, hn, hm⟩ := R.ns
    exact wpAny_storeName_local hl hn (fun h' hn' hs => hQ h' _ (R.store hL hn hm hn' hs r) (ns_tk hn hs) fun b o hb e => (hs.2 b hb).trans e) (by rw [hk]; rfl)))

theorem for_iter {target : Expr} {bnd : Env' → V → Env'} {body : List Stmt} {I : Addr} {fp wr : List Addr} {need : St → Prop} {S : Nat → Heap → Prop} (W : Iter prog w I fp wr vs need S)
    {A : Around} {s : Shared} {Q : Fl → Env' → St → Prop} {R' : Result → Shared → Prop} (hA : AOk k A) (hB : ∀ b o, Bs.get? b = some o → g.get? b = some o) (hL : g.get? env.locals = none)
    (hasg : ∀ i v, vs[i]? = some v → Asg prog w k env target (.ref I) v bnd (S (i + 1)))
    (R : Rel prog w g env.locals m σ s.heap) (hst : S 0 s.heap) (hfp : ∀ b ∈ fp, b ≠ env.locals ∧ ∀ p ∈ σ, p.1 ≠ b) (hwr : ∀ b ∈ wr, g.get? b = none) (hn : need σ)
    (h : ForB prog w Bs k env bnd body need Q vs m σ)
    (hQ : ∀ c f m' σ' h' tk, Q f m' σ' → Rel prog w g env.locals m' σ' h' → FR h' c f → TK s.heap h' → R' (.ok c) { s with heap := h', toks := tk }) :
    codeAny (model prog w) A (.forLoop target (.ref I) body [] env) R' s := by
  refine codeAny_forLoop_any (fun n s' => ∃ i m σ h tk, s' = { s with heap := h, toks := tk } ∧ i ≤ vs.length ∧ n = vs.length - i ∧ Rel prog w g env.locals m σ h ∧ S i h ∧ (∀ b ∈ fp, b ≠ env.locals ∧ ∀ p ∈ σ, p.1 ≠ b) ∧ need σ ∧
      ForB prog w Bs k env bnd body need Q (vs.drop i) m σ ∧ TK s.heap h) ?_ vs.length ⟨0, m, σ, s.heap, s.toks, rfl, Nat.zero_le _, rfl, R, hst, hfp, hn, by simpa using h, .refl _⟩
  rintro n s' ⟨i, m, σ, h, tk, rfl, hi, rfl, R, hst, hfp, hn, hb, ht⟩
  by_cases hlt : i < vs.length
  · have hv : vs[i]? = some vs[i] := by simp [hlt]
    have hd : vs.drop i = vs[i] :: vs.drop (i + 1) := List.drop_eq_getElem_cons hlt
    rw [hd] at hb
    refine W.item A k g σ _ _ _ i _ hA R.rh hn hst hv fun cv h1 tk1 r1 st1 kp1 t1 => ?_
    have R1 := R.but kp1 (fun b hb => ⟨hwr b hb, hfp b (W.sub b hb)⟩) t1
    refine hasg i _ hv A g m σ _ cv _ _ hA hL R1 r1 st1 fun h2 tk2 R2 t2 kp2 => ?_
    have st2 : S (i + 1) h2 := W.frame _ _ _ st1 (fun b hb o e => kp2 b o (hfp b hb).1 e) t2
    have le := R2.le_mask hL
    refine hb A _ _ _ _ hA (fun b o e => le b o (hB b o e)) (mask_in (.head _)) (R2.masked hL) fun c f m' σ' h3 tk3 hq R3 fr t3 => ?_
    have kp3 : ∀ b ∈ fp, ∀ o, h2.get? b = some o → h3.get? b = some o := fun b hb o e => R3.rh.keep b o (by
      rw [mask_out]; exact e
      intro hm
      rcases List.mem_cons.mp hm with e | hm
      · exact (hfp b hb).1 e
      · obtain ⟨p, hp, q⟩ := List.mem_map.mp hm
        exact (hfp b hb).2 p hp q)
    have off : ∀ b ∈ fp, b ≠ env.locals ∧ ∀ p ∈ σ', p.1 ≠ b := fun b hb => ⟨(hfp b hb).1, fun p hp q => by
      obtain ⟨o, ho⟩ := W.there _ _ st2 b hb
      have := (R3.rh.own p hp).1
      rw [q, mask_out] at this
      · have ho' : h2.get? b = some o := ho
        have this' : h2.get? b = none := this
        rw [ho'] at this'; cases this'
      · intro hm
        rcases List.mem_cons.mp hm with e | hm
        · exact (hfp b hb).1 e
        · obtain ⟨p, hp, q⟩ := List.mem_map.mp hm
          exact (hfp b hb).2 p hp q⟩
    have R3' := R3.less R2.rh.st le
    have st3 := W.frame _ _ _ st2 kp3 t3
    have tt : TK s.heap h3 := ht.trans (t1.trans (t2.trans t3))
    cases fr with
    | next => exact ⟨_, by omega, i + 1, m', σ', h3, tk3, rfl, hlt, rfl, R3', st3, off, hq.1, hq.2, tt⟩
    | cont => exact ⟨_, by omega, i + 1, m', σ', h3, tk3, rfl, hlt, rfl, R3', st3, off, hq.1, hq.2, tt⟩
    | brk => exact hQ _ _ m' σ' h3 tk3 hq R3' .next tt
    | ret r => exact hQ _ _ m' σ' h3 tk3 hq R3' (.ret r) tt
  · have e : i = vs.length := by omega
    subst e
    refine W.done A k g σ _ _ _ hA R.rh hn hst fun h1 tk1 kp1 t1 => ?_
    have R1 := R.but kp1 (fun b hb => ⟨hwr b hb, hfp b (W.sub b hb)⟩) t1
    refine wpAny_execs_nil (hQ _ _ m σ h1 tk1 ?_ R1 .next (ht.trans t1))
    rw [List.drop_length] at hb
    exact hb

variable (prog w Bs) in
/-- what an iterable yields when a loop begins -/
def Its (k : Nat) (L : Addr) (v : V) (m : Env') (σ : St) (K : ∀ (vs : List V) (need : St → Prop), St → Prop) : Prop :=
  ∀ (A : Around) (g : Heap) (s : Shared) (cv : Value) (Qc : Value → Shared → Prop) (Ec : Value → Shared → Prop), AOk k A → (∀ b o, Bs.get? b = some o → g.get? b = some o) → Rel prog w g L m σ s.heap → VR s.heap cv v →
    (∀ I fp wr vs need S σ' h' tk, K vs need σ' → Iter prog w I fp wr vs need S → S 0 h' → Rel prog w g L m σ' h' → TK s.heap h' → (∀ b ∈ fp, b ≠ L ∧ ∀ p ∈ σ', p.1 ≠ b) → (∀ b ∈ wr, g.get? b = none) → need σ' →
      (∀ i v, vs[i]? = some v → ∀ elts x1 pos cv (s : Shared) (Qc : Unit → Shared → Prop) (Ec : Value → Shared → Prop), VR s.heap cv v → S (i + 1) s.heap → Qc () s → wpAny (model prog w) A (letOwnedTupleGo (.Tuple elts x1 pos) (.ref I) cv) Qc Ec s) →
      Qc (.ref I) { s with heap := h', toks := tk }) →
    wpAny (model prog w) A (pyIter cv) Qc Ec s
theorem evx_for {x : Str} {px pos : Pos} {iter : Expr} {body : List Stmt} {Q : Fl → Env' → St → Prop}
    (h : EvE prog w Bs k env iter m σ fun v σ1 => Its prog w Bs k env.locals v m σ1 fun vs need σ2 => ForB prog w Bs k env (fun m v => mset m x v) body need Q vs m σ2)
    (hl : env.kindOf x = some .local := by rfl) (hk : env.scope.kind = .function := by rfl) (hs : ∀ x, foldedSetIterable iter env x = pure x := by intro _; rfl) :
    EvX prog w Bs k env (.For (.Name x px) iter body [] pos) m σ Q := fun A g s Qc Ec hA hB hL R hQ =>
  wpAny_For (h A g s _ _ hA hB R fun cv v σ1 h1 tk1 hi R1 r1 t1 => hi A g _ cv _ _ hA hB R1 r1 fun I fp wr vs need S σ' h' tk hb W st R' t' hfp hwr hn _ =>
    for_iter W (s := { s with heap := h', toks := tk }) hA hB hL (fun i v _ => asg_name hl hk) R' st hfp hwr hn hb fun c f m' σ'' h'' tk' hq R'' fr t'' =>
      hQ c f m' σ'' h'' tk' hq R'' fr (t1.trans (t'.trans t''))) hs
end
end Mine

set_option Elab.async false
set_option linter.unusedVariables false
namespace Mine
open PySem PyProof.Rows PySem.Calls

section
variable {prog : Program} {w : World} {Bs : Heap} {k : Nat} {env : Env} {m : Env'} {σ : St} {g h h' : Heap} {L a : Addr} {ob : O} {vs : List V}

theorem tk_but {wr : List Addr} (kp : ∀ b o, b ∉ wr → h.get? b = some o → h'.get? b = some o) (nt : ∀ b ∈ wr, ∀ cvs n, h.get? b ≠ some (tupO cvs n)) : TK h h' := fun b cvs n e => by
  refine kp b _ (fun hm => ?_) e
  exact nt b hm cvs n e
theorem not_tup {o : Obj} {T : String} (ho : h.get? a = some o) (hc : o.cls = .type T) (hT : T ≠ "tuple") : ∀ cvs n, h.get? a ≠ some (tupO cvs n) := fun cvs n e => by
  rw [ho] at e
  have := congrArg Obj.cls (Option.some.inj e)
  rw [hc] at this
  exact hT (Value.type.inj this)

/-- a list of the ledger is walked -/
theorem iter_list {I : Addr} (hI : a ≠ I) (hl : ob.peel = .list vs) : Iter prog w I [I] [I] vs (fun σ => (a, ob) ∈ σ) (fun i h => h.IsListIter I a i) where
  sub := fun _ hb => hb
  there := fun i h st b hb => by
    obtain ⟨o, ho, _⟩ := st
    rw [List.mem_singleton.mp hb]; exact ⟨o, ho⟩
  frame := fun i h h' st kp _ => st.at fun o e => kp I (.head _) o e
  item := fun A k g σ s Qc Ec i v hA R hn st hv hQ => by
    obtain ⟨cvs, n, ho, rs⟩ := R.list_at hn hl
    obtain ⟨cv, hc, r⟩ := rs.get hv
    refine wpAny_pyNext_list_item st ⟨_, ho, rfl, n, rfl⟩ (by simpa using hc) fun h' st' hs => ?_
    have tk : TK s.heap h' := by
      obtain ⟨o, hoI, hcI, _⟩ := st
      exact tk_but (wr := [I]) (fun b o hb e => (hs.2 b fun q => hb (by rw [q]; exact .head _)).trans e) fun b hb => by
        rw [List.mem_singleton.mp hb]; exact not_tup hoI hcI (by decide)
    exact hQ cv h' s.toks (r.mono tk) st' (fun b o hb e => (hs.2 b fun q => hb (by rw [q]; exact .head _)).trans e) tk
  done := fun A k g σ s Qc Ec hA R hn st hQ => by
    obtain ⟨cvs, n, ho, rs⟩ := R.list_at hn hl
    refine wpAny_pyNext_list_end hA.1 st ⟨_, ho, rfl, n, rfl⟩ (by simp [rs.length]) fun h' hs => ?_
    have kp : ∀ b o, b ∉ [I] → s.heap.get? b = some o → h'.get? b = some o := fun b o hb e => hs b o (fun q => hb (by rw [q]; exact .head _)) e
    have tk : TK s.heap h' := by
      obtain ⟨o, hoI, hcI, _⟩ := st
      exact tk_but kp fun b hb => by
        rw [List.mem_singleton.mp hb]; exact not_tup hoI hcI (by decide)
    exact hQ h' s.toks kp tk
  self := fun A i s Qc Ec st hQ => wpAny_pyIter_listiter st hQ
theorem push_off (R : Rel prog w g L m σ h) : (∀ b ∈ [h.objs.size], b ≠ L ∧ ∀ p ∈ σ, p.1 ≠ b) ∧ ∀ b ∈ [h.objs.size], g.get? b = none := by
  constructor
  · intro b hb
    rw [List.mem_singleton.mp hb]
    refine ⟨fun e => ?_, fun p hp e => ?_⟩
    · obtain ⟨o, ho⟩ := R.lt
      rw [← e] at ho
      exact absurd (Heap.lt_size ho) (Nat.lt_irrefl _)
    · obtain ⟨_, o, ho, _⟩ := R.rh.own p hp
      rw [e] at ho
      exact absurd (Heap.lt_size ho) (Nat.lt_irrefl _)
  · intro b hb
    rw [List.mem_singleton.mp hb]
    cases q : g.get? h.objs.size with
    | none => rfl
    | some o => exact absurd (Heap.lt_size (R.rh.keep _ _ q)) (Nat.lt_irrefl _)
theorem its_list {K : ∀ (vs : List V) (need : St → Prop), St → Prop} (hm : (a, ob) ∈ σ) (hl : ob.peel = .list vs) (h : K vs (fun σ => (a, ob) ∈ σ) σ) : Its prog w Bs k L (.ref a) m σ K := by
  intro A g s cv Qc Ec hA hB R r hQ
  cases r
  obtain ⟨cvs, n, ho, rs⟩ := R.rh.list_at hm hl
  refine wpAny_pyIter_list ⟨_, ho, rfl, n, rfl⟩ ?_
  have kp := push_keep s.heap { cls := .type "list_iterator", data := .fields #[.ref a, .int 0 0] }
  have hne : a ≠ s.heap.objs.size := Nat.ne_of_lt (Heap.lt_size ho)
  obtain ⟨o1, o2⟩ := push_off R
  refine hQ _ _ _ vs _ _ σ _ s.toks h (iter_list (I := s.heap.objs.size) hne hl) ⟨_, Heap.get?_push_size _ rfl, rfl, rfl⟩ (R.ext kp) (.of_keep kp) o1 o2 hm ?_
  intro i v hv elts x1 pos cv s' Qc' Ec' rv st hq
  cases rv with
  | tup e _ => exact wpAny_letOwnedTupleGo_listiter st hq
  | ref b => exact wpAny_letOwnedTupleGo_listiter st hq
  | raw c =>
    cases cv <;> first | exact wpAny_letOwnedTupleGo_listiter st hq | exact wpAny_pure hq
  | _ => exact wpAny_pure hq

/-- a range -/
abbrev rngO (a b : Int) (t u v : Tok) : Obj := { cls := .type "range", data := .fields #[.int a t, .int b u, .int 1 v] }
theorem bf_range1 {n : Int} {Q : V → St → Prop} (h : ∀ r t u v, Q (.ref r) ((r, .obj (rngO 0 n t u v)) :: σ)) : EvF prog w Bs k (.type "range") [.int n] σ Q := by
  intro A g s Qc Ec cvs hA hB R rs hQ
  cases rs with
  | cons r rs =>
    cases r; cases rs
    rename_i t
    refine call_range_1 ?_
    have kp := push_keep s.heap (rngO 0 n s.toks t (s.toks + 1))
    exact hQ _ _ _ _ _ (h _ _ _ _) (R.new (o := rngO 0 n s.toks t (s.toks + 1)) kp (Nat.le_refl _) (Heap.get?_push_size _ rfl) rfl) (.ref _) (.of_keep kp)
def rngV (a : Int) (n : Nat) : List V := (List.range n).map fun i => .int (a + (i : Nat))
theorem rngV_get {a : Int} {n i : Nat} {v : V} (h : (rngV a n)[i]? = some v) : i < n ∧ v = .int (a + (i : Nat)) := by
  unfold rngV at h
  rw [List.getElem?_map] at h
  cases q : (List.range n)[i]? with
  | none => rw [q] at h; cases h
  | some j =>
    rw [q] at h
    have hj := List.getElem?_eq_some_iff.mp q
    obtain ⟨hl, e⟩ := hj
    simp at hl e
    subst e
    exact ⟨hl, (Option.some.inj h).symm⟩
theorem rngV_length (a : Int) (n : Nat) : (rngV a n).length = n := by simp [rngV]
theorem iter_range {I : Addr} {a : Int} {n : Nat} : Iter prog w I [I] [I] (rngV a n) (fun _ => True) (fun i h => IsRangeIter h I (a + (i : Nat) * 1) ((n : Int) - (i : Nat)) 1) where
  sub := fun _ hb => hb
  there := fun i h st b hb => by rw [List.mem_singleton.mp hb]; exact ⟨_, st⟩
  frame := fun i h h' st kp _ => kp I (.head _) _ st
  item := fun A k g σ s Qc Ec i v hA R _ st hv hQ => by
    obtain ⟨hi, rfl⟩ := rngV_get hv
    refine (Walks.range (prog := prog) (w := w) hA.1 I a 1 n).item i s Qc Ec hi st fun cv h' tk hP st' kp => ?_
    obtain ⟨t, rfl⟩ := hP
    have tk' : TK s.heap h' := tk_but kp fun b hb => by rw [List.mem_singleton.mp hb]; exact not_tup st rfl (by decide)
    refine hQ _ h' tk ?_ st' kp tk'
    rw [show a + (i : Int) * 1 = a + (i : Int) by omega]
    exact .int ..
  done := fun A k g σ s Qc Ec hA R _ st hQ => by
    rw [rngV_length] at st
    refine (Walks.range (prog := prog) (w := w) hA.1 I a 1 n).done s Qc Ec st fun h' tk kp => ?_
    have tk' : TK s.heap h' := tk_but kp fun b hb => by rw [List.mem_singleton.mp hb]; exact not_tup st rfl (by decide)
    exact hQ h' tk kp tk'
  self := fun A i s Qc Ec st hQ => wpAny_pyIter_rangeiter st hQ
theorem its_range {K : ∀ (vs : List V) (need : St → Prop), St → Prop} {r : Addr} {b : Int} {t u v : Tok} {σ' : St} (n : Nat) (hn : b = (n : Int)) (hb : b < 2 ^ 62) (hs : σ = (r, .obj (rngO 0 b t u v)) :: σ') (h : K (rngV 0 n) (fun _ => True) σ') :
    Its prog w Bs k L (.ref r) m σ K := by
  intro A g s cv Qc Ec hA hB R rr hQ
  cases rr
  subst hs
  obtain ⟨_, o, ho, e⟩ := R.rh.own _ (.head _)
  have e' : o = rngO 0 b t u v := e
  subst e'
  have hsz : Builtin.Range.rangeSize 0 b 1 = (n : Int) := by rw [rangeSize_one]; split <;> omega
  refine wpAny_pyIter_range (a := 0) (b := b) (c := 1) (t := t) (u := u) (v := v) ho (small_one (by omega) (by omega) (by omega) (by omega)) ?_
  rw [hsz]
  have R0 : Rel prog w g L m σ' s.heap := R.sub (List.sublist_cons_self _ _)
  have kp := push_keep s.heap { cls := .type "range_iterator", data := .fields #[rawInt 0, rawInt (n : Int), rawInt 1] }
  obtain ⟨o1, o2⟩ := push_off R0
  refine hQ _ _ _ (rngV 0 n) _ _ σ' _ s.toks h (iter_range (I := s.heap.objs.size) (a := 0) (n := n)) ?_ (R0.ext kp) (.of_keep kp) o1 o2 trivial ?_
  · show (Heap.push _ _).get? _ = _
    rw [Heap.get?_push_size _ rfl]
    simp [rawInt]
  · intro i v hv elts x1 pos cv s' Qc' Ec' rv st hq
    obtain ⟨_, rfl⟩ := rngV_get hv
    cases rv
    exact wpAny_pure hq
end
end Mine

set_option Elab.async false
set_option linter.unusedVariables false
namespace Mine
open PySem PyProof.Rows PySem.Calls

abbrev KV := List (Str × V)
def dput (kvs : KV) (x : Str) (v : V) : KV := if kvs.any (fun p => decide (p.1 = x)) then kvs.map (fun p => if p.1 = x then (p.1, v) else p) else kvs ++ [(x, v)]
def ddel (kvs : KV) (x : Str) : KV := kvs.filter fun p => decide (p.1 ≠ x)

section
variable {prog : Program} {w : World} {Bs : Heap} {k : Nat} {env : Env} {m : Env'} {σ : St} {g h h' : Heap} {L a d : Addr} {ob : O} {vs : List V} {kvs : KV}

theorem KVR.length {c : List (Str × Value)} {v : KV} (r : KVR h c v) : c.length = v.length := by
  induction r with
  | nil => rfl
  | cons _ _ ih => simp [ih]
theorem KVR.keys {c : List (Str × Value)} {v : KV} (r : KVR h c v) : c.map (·.1) = v.map (·.1) := by
  induction r with
  | nil => rfl
  | cons _ _ ih => simp [ih]
theorem KVR.any {c : List (Str × Value)} {v : KV} (r : KVR h c v) (x : Str) : c.any (fun p => decide (p.1 = x)) = v.any (fun p => decide (p.1 = x)) := by
  induction r with
  | nil => rfl
  | cons _ _ ih => simp only [List.any_cons, ih]
theorem KVR.put {c : List (Str × Value)} {v : KV} (r : KVR h c v) {x : Str} {cu : Value} {u : V} (ru : VR h cu u) : KVR h (stored c x cu) (dput v x u) := by
  unfold stored dput
  rw [r.any x]
  split
  · rename_i hx
    clear hx
    induction r with
    | nil => exact .nil
    | cons rv _ ih =>
      rename_i y cv vv cs vs rr
      simp only [List.map_cons]
      by_cases e : y = x
      · simp only [e, if_true]; exact .cons ru ih
      · simp only [e, if_false]; exact .cons rv ih
  · rename_i hx
    clear hx
    induction r with
    | nil => exact .cons ru .nil
    | cons rv _ ih => exact .cons rv ih
theorem KVR.del {c : List (Str × Value)} {v : KV} (r : KVR h c v) (x : Str) : KVR h (without c x) (ddel v x) := by
  unfold without ddel
  induction r with
  | nil => exact .nil
  | cons rv _ ih =>
    rename_i y cv vv cs vs rr
    by_cases e : y = x
    · simp [e]; simpa using ih
    · simp [e]; exact .cons rv (by simpa using ih)
theorem KVR.isSome {c : List (Str × Value)} {v : KV} (r : KVR h c v) (x : Str) : (valueAt c x).isSome = (v.lookup x).isSome := by
  cases q : v.lookup x with
  | none => rw [r.findNone q]; rfl
  | some u => obtain ⟨cu, e, _⟩ := r.find q; rw [e]; rfl

theorem RH.notModules (R : RH prog w g σ h) (hm : (d, ob) ∈ σ) : (d == sysModules) = false := by
  have := R.low _ hm
  have h2 : (2 : Nat) < d := this
  have : d ≠ sysModules := by
    show d ≠ (1 : Nat)
    intro e; rw [e] at h2; exact absurd h2 (by decide)
  simpa using this
theorem RH.dict_put (R : RH prog w g σ h) {σ' : St} {x : Str} {v : V} {cv : Value} {ckvs : List (Str × Value)} (u : Up d (.dict kvs) (.dict (dput kvs x v)) σ σ') (hd : h.DictOf (strKind prog w) d ckvs) (rk : KVR h ckvs kvs) (rv : VR h cv v)
    (hd' : h'.DictOf (strKind prog w) d (stored ckvs x cv)) (hs : Heap.SameBut d h h') : RH prog w g σ' h' ∧ TK h h' := by
  have tk := dict_tk hd hs
  obtain ⟨o, ho, hi⟩ := Heap.dictOf_iff.mp hd'
  exact ⟨R.upd u hs tk ho ⟨_, hi, (rk.put rv).mono tk⟩, tk⟩

-- comparisons that look at the heap
inductive CmpH (S : St) : CmpOp → V → V → Bool → Prop
  | inD {d : Addr} {ob : O} {kvs : KV} {x : Str} (hm : (d, ob) ∈ S) (hl : ob.peel = .dict kvs) : CmpH S .In (.str x) (.ref d) (kvs.lookup x).isSome
  | notInD {d : Addr} {ob : O} {kvs : KV} {x : Str} (hm : (d, ob) ∈ S) (hl : ob.peel = .dict kvs) : CmpH S .NotIn (.str x) (.ref d) (!(kvs.lookup x).isSome)
theorem cmpH_any {op : CmpOp} {a b : V} {c : Bool} (hb : CmpH σ op a b c) {A : Around} {s : Shared} {ca cb : Value} {Qc Ec : Value → Shared → Prop} (R : RH prog w g σ s.heap) (ra : VR s.heap ca a) (rb : VR s.heap cb b)
    (hQ : ∀ tk, Qc (.bool c) { s with toks := tk }) : wpAny (model prog w) A (compareOp op ca cb) Qc Ec s := by
  cases hb with
  | inD hm hl =>
    cases ra; cases rb
    obtain ⟨ck, hd, rs⟩ := R.dict_at hm hl
    exact wpAny_in_of (strKind_is _ _ _ _) (R.notModules hm) hd.mapOf (by rw [rs.isSome]; exact hQ _)
  | notInD hm hl =>
    cases ra; cases rb
    obtain ⟨ck, hd, rs⟩ := R.dict_at hm hl
    exact wpAny_notIn_of (strKind_is _ _ _ _) (R.notModules hm) hd.mapOf (by rw [rs.isSome]; exact hQ _)
theorem evb_cmpH {l r : Expr} {op : CmpOp} {pos : Pos} {Q : Bool → St → Prop}
    (h : EvE prog w Bs k env l m σ fun a σ1 => EvE prog w Bs k env r m σ1 fun b σ2 => ∃ c, CmpH σ2 op a b c ∧ Q c σ2) (hm : behindInMarks op r = false := by with_unfolding_all rfl) :
    EvB prog w Bs k env (.Compare l [op] [r] pos) m σ Q := fun A g s Qc Ec hA hB R hQ =>
  wpAny_isTrue_Compare1 (Ev.two (Qc := fun c d s₂ => wpAny (model prog w) A (compareOp op c d) (fun c s₃ => wpAny (model prog w) A (truthy c) Qc Ec s₃) Ec s₂) h (fun t r => r.mono t) hA hB R fun c d a b σ' h' tk ⟨v, hv, hq⟩ R' ra rb t =>
    cmpH_any hv (s := { s with heap := h', toks := tk }) R'.rh ra rb fun tk' => wpAny_truthy_bool (hQ _ _ σ' h' tk' hq R' rfl t)) hm
theorem ev_cmpH {l r : Expr} {op : CmpOp} {pos : Pos} {Q : V → St → Prop}
    (h : EvE prog w Bs k env l m σ fun a σ1 => EvE prog w Bs k env r m σ1 fun b σ2 => ∃ c, CmpH σ2 op a b c ∧ Q (.bool c) σ2) (hm : behindInMarks op r = false := by with_unfolding_all rfl) :
    EvE prog w Bs k env (.Compare l [op] [r] pos) m σ Q := fun A g s Qc Ec hA hB R hQ =>
  wpAny_Compare1 (Ev.two (Qc := fun c d s₂ => wpAny (model prog w) A (compareOp op c d) Qc Ec s₂) h (fun t r => r.mono t) hA hB R fun c d a b σ' h' tk ⟨v, hv, hq⟩ R' ra rb t =>
    cmpH_any hv (s := { s with heap := h', toks := tk }) R'.rh ra rb fun tk' => hQ _ _ σ' h' tk' hq R' (.bool _) t) hm

-- d[x] = v, del d[x]
theorem evx_setitem {o i value : Expr} {tp pos : Pos} {Q : Fl → Env' → St → Prop}
    (h : EvE prog w Bs k env value m σ fun v σ1 => EvE prog w Bs k env o m σ1 fun ov σ2 => EvE prog w Bs k env i m σ2 fun iv σ3 =>
      ∃ d x kvs σ4, ov = .ref d ∧ iv = .str x ∧ Up d (.dict kvs) (.dict (dput kvs x v)) σ3 σ4 ∧ kvs.length ≤ sizeLine ∧ Q .next m σ4)
    (hs : swapsWith value (some (.Subscript o i tp)) pos.line env = pure false := by rfl) : EvX prog w Bs k env (.Assign [.Subscript o i tp] value pos) m σ Q := fun A g s Qc Ec hA hB hL R hQ =>
  wpAny_Assign_Subscript (h A g s _ _ hA hB R fun cv v σ1 h1 tk1 h2 R1 rv t1 => h2 A g _ _ _ hA hB R1 fun co ov σ2 h3 tk2 h4 R2 ro t2 => h4 A g _ _ _ hA hB R2 fun ci iv σ3 h5 tk3 hq R3 ri t3 => by
    obtain ⟨d, x, kvs, σ4, rfl, rfl, u, hz, hq⟩ := hq
    cases ro; cases ri
    obtain ⟨ck, hd, rs⟩ := R3.rh.dict_at u.mem rfl
    have rv' : VR h5 cv v := (rv.mono t2).mono t3
    refine wpAny_setItem_pairs (s := { s with heap := h5, toks := tk3 }) (strKind_is _ _ _ _) hd (fun h' hd' hs' => ?_) (by rw [rs.length]; exact hz)
    have tk := dict_tk hd hs'
    obtain ⟨o, ho, hi⟩ := Heap.dictOf_iff.mp hd'
    exact hQ _ _ m σ4 h' _ hq (R3.upd u hs' tk ho ⟨_, hi, (rs.put rv').mono tk⟩) .next (t1.trans (t2.trans (t3.trans tk)))) hs
theorem evx_delitem {o i : Expr} {tp pos : Pos} {Q : Fl → Env' → St → Prop}
    (h : EvE prog w Bs k env o m σ fun ov σ2 => EvE prog w Bs k env i m σ2 fun iv σ3 =>
      ∃ d x kvs σ4, ov = .ref d ∧ iv = .str x ∧ (kvs.lookup x).isSome = true ∧ Up d (.dict kvs) (.dict (ddel kvs x)) σ3 σ4 ∧ kvs.length ≤ sizeLine ∧ Q .next m σ4) :
    EvX prog w Bs k env (.Delete [.Subscript o i tp] pos) m σ Q := fun A g s Qc Ec hA hB hL R hQ =>
  wpAny_Delete (wpAny_deleteEach_cons (wpAny_delete_Subscript (h A g s _ _ hA hB R fun co ov σ2 h3 tk2 h4 R2 ro t2 => h4 A g _ _ _ hA hB R2 fun ci iv σ3 h5 tk3 hq R3 ri t3 => by
    obtain ⟨d, x, kvs, σ4, rfl, rfl, hx, u, hz, hq⟩ := hq
    cases ro; cases ri
    obtain ⟨ck, hd, rs⟩ := R3.rh.dict_at u.mem rfl
    refine wpAny_delItem_slot (s := { s with heap := h5, toks := tk3 }) hd.typeIs (by decide) F.slot_dict_delitem (call_meetsIn F.slot_dict_delitem hd.typeIs F.entry_dict_delitem (F.args_dict_delitem_2 _ _) (meets_dict_delitem_pairs (strKind prog w) d (k := x) (strKind_is _ _ _ _))
      ⟨ck, hd, by rw [rs.length]; exact hz, by rw [rs.isSome]; exact hx, fun h' hd' hs' => ?_⟩)
    have tk := dict_tk hd hs'
    obtain ⟨o, ho, hi⟩ := Heap.dictOf_iff.mp hd'
    exact wpAny_deleteEach_nil (hQ _ _ m σ4 h' _ hq (R3.upd u hs' tk ho ⟨_, hi, (rs.del x).mono tk⟩) .next (t2.trans (t3.trans tk))))))

-- methods
inductive Kd (S : St) : V → String → Prop
  | list {a : Addr} {ob : O} {vs : List V} (hm : (a, ob) ∈ S) (hl : ob.peel = .list vs) : Kd S (.ref a) "list"
  | dict {a : Addr} {ob : O} {kvs : KV} (hm : (a, ob) ∈ S) (hl : ob.peel = .dict kvs) : Kd S (.ref a) "dict"
  | str (x : Str) : Kd S (.str x) "str"
theorem Kd.type {v : V} {T : String} (hk : Kd σ v T) {s : Shared} {cv : Value} (R : RH prog w g σ s.heap) (r : VR s.heap cv v) : s.TypeIs cv T ∧ ∀ a, cv = .ref a → ∃ o, s.heap.get? a = some o ∧ o.dict = none := by
  cases hk with
  | list hm hl =>
    cases r
    obtain ⟨cvs, n, ho, _⟩ := R.list_at hm hl
    exact ⟨⟨_, ho, rfl⟩, fun b e => by cases e; exact ⟨_, ho, rfl⟩⟩
  | dict hm hl =>
    cases r
    obtain ⟨ck, hd, _⟩ := R.dict_at hm hl
    exact ⟨hd.typeIs, hd.mapOf.noDict⟩
  | str x => cases r; exact ⟨rfl, fun b e => by cases e⟩
theorem ev_meth {o : Expr} {name : Str} {apos pos : Pos} {e : Expr} {rest : List Expr} {pl : Sem Bool} {Q : V → St → Prop} {T id : String} (pa : PlainAttrs T) (slot : Slot T name id) (hty : typeOf (.builtin id) = pure (.type "method_descriptor"))
    (h : EvE prog w Bs k env o m σ fun ov σ1 => Kd σ1 ov T ∧ EvA prog w Bs k env pos (e :: rest) m σ1 fun vs σ2 => EvF prog w Bs k (.builtin id) (ov :: vs) σ2 Q)
    (he : eval (.Call (.Attribute o name apos) (e :: rest) [] pos) env = (do
      let ov ← eval o env
      standAt apos.atName
      let (f, first) ← holding [ov] (getMethod ov name pl)
      callWith pos f first (backTo pos (starEach (e :: rest) env)) []) := by rfl)
    (hst : starEach (e :: rest) env = (false, eval e env) :: starEach rest env := by rfl) (hp : (backTo pos (starEach rest env)).any (·.1) = false := by rfl) :
    EvE prog w Bs k env (.Call (.Attribute o name apos) (e :: rest) [] pos) m σ Q := fun A g s Qc Ec hA hB R hQ =>
  MethodCall_ (h A g s _ _ hA hB R fun co ov σ1 h1 tk1 ⟨hk, ha⟩ R1 ro t1 => by
    obtain ⟨hT, hd⟩ := hk.type (s := { s with heap := h1, toks := tk1 }) R1.rh ro
    refine getMethod_builtin hT pa slot hty hd ?_
    show wpAny _ _ (callWith pos (.builtin id) [co] _ []) _ _ _
    rw [hst]
    refine callWith_builtin (by show (false || (backTo pos (starEach rest env)).any (·.1)) = false; rw [hp]; rfl) (evalArgs_plain ?_)
    have := ha A g { s with heap := h1, toks := tk1 } (fun vs s₁ => wpAny (model prog w) A (call (.builtin id) ([co] ++ vs)) Qc Ec s₁) Ec hA hB R1 fun cvs vs σ2 h2 tk2 hq R2 rs t2 =>
      callf_any (s := { s with heap := h2, toks := tk2 }) hq hA hB R2 (.cons (ro.mono t2) rs) fun cv v σ' h' tk hq' R' rv t => hQ cv v σ' h' tk hq' R' rv (t1.trans (t2.trans t))
    rw [hst] at this
    exact this) he
theorem ev_meth0 {o : Expr} {name : Str} {apos pos : Pos} {pl : Sem Bool} {Q : V → St → Prop} {T id : String} (pa : PlainAttrs T) (slot : Slot T name id) (hty : typeOf (.builtin id) = pure (.type "method_descriptor"))
    (h : EvE prog w Bs k env o m σ fun ov σ1 => Kd σ1 ov T ∧ EvF prog w Bs k (.builtin id) [ov] σ1 Q)
    (he : eval (.Call (.Attribute o name apos) [] [] pos) env = (do
      let ov ← eval o env
      standAt apos.atName
      let (f, first) ← holding [ov] (getMethod ov name pl)
      callWith pos f first (backTo pos (starEach [] env)) []) := by rfl) :
    EvE prog w Bs k env (.Call (.Attribute o name apos) [] [] pos) m σ Q := fun A g s Qc Ec hA hB R hQ =>
  MethodCall_ (h A g s _ _ hA hB R fun co ov σ1 h1 tk1 ⟨hk, ha⟩ R1 ro t1 => by
    obtain ⟨hT, hd⟩ := hk.type (s := { s with heap := h1, toks := tk1 }) R1.rh ro
    refine getMethod_builtin hT pa slot hty hd ?_
    show wpAny _ _ (callWith pos (.builtin id) [co] [] []) _ _ _
    exact callWith_builtin rfl (evalArgs_nil3 (callf_any (s := { s with heap := h1, toks := tk1 }) ha hA hB R1 (.cons ro .nil) fun cv v σ' h' tk hq' R' rv t => hQ cv v σ' h' tk hq' R' rv (t1.trans t)))) he

theorem bf_pop {x : Str} {v : V} {σ' : St} {Q : V → St → Prop} (u : Up d (.dict kvs) (.dict (ddel kvs x)) σ σ') (hz : kvs.length ≤ sizeLine) (hv : kvs.lookup x = some v) (hq : Q v σ') : EvF prog w Bs k (.builtin "dict.pop") [.ref d, .str x] σ Q := by
  intro A g s Qc Ec cvs hA hB R rs hQ
  cases rs with
  | cons r rs =>
    cases r
    cases rs with
    | cons rx rs =>
      cases rx; cases rs
      obtain ⟨ck, hd, rk⟩ := R.dict_at u.mem rfl
      obtain ⟨cv, hcv, rv⟩ := rk.find hv
      refine call_meetsIn F.slot_dict_pop hd.typeIs F.entry_dict_pop (F.args_dict_pop_2 _ _) (meets_dict_pop_there (strKind prog w) d (k := x) (strKind_is _ _ _ _) [] (.inl rfl) rfl)
        ⟨ck, cv, hd, by rw [rk.length]; exact hz, hcv, fun h' hd' hs => ?_⟩
      have tk := dict_tk hd hs
      obtain ⟨o, ho, hi⟩ := Heap.dictOf_iff.mp hd'
      exact hQ _ _ σ' h' _ hq (R.upd u hs tk ho ⟨_, hi, (rk.del x).mono tk⟩) (rv.mono tk) tk
theorem bf_get2 {x : Str} {dflt : V} {Q : V → St → Prop} (hm : (d, ob) ∈ σ) (hl : ob.peel = .dict kvs) (hq : Q ((kvs.lookup x).getD dflt) σ) : EvF prog w Bs k (.builtin "dict.get") [.ref d, .str x, dflt] σ Q := by
  intro A g s Qc Ec cvs hA hB R rs hQ
  cases rs with
  | cons r rs =>
    cases r
    cases rs with
    | cons rx rs =>
      cases rx
      cases rs with
      | cons rd rs =>
        cases rs
        rename_i cd
        obtain ⟨ck, hd, rk⟩ := R.dict_at hm hl
        refine call_meetsIn F.slot_dict_get hd.typeIs F.entry_dict_get (F.args_dict_get_3 _ _ _) (meets_dict_get_default (strKind prog w) d (k := x) (strKind_is _ _ _ _) (R.notModules hm) cd) ⟨_, hd.mapOf, ?_⟩
        cases q : kvs.lookup x with
        | none =>
          rw [rk.findNone q]; rw [q] at hq
          exact hQ _ _ σ s.heap _ hq R rd (.refl _)
        | some v =>
          obtain ⟨cv, e, rv⟩ := rk.find q
          rw [e]; rw [q] at hq
          exact hQ _ _ σ s.heap _ hq R rv (.refl _)
theorem bf_len_dict {Q : V → St → Prop} (hm : (d, ob) ∈ σ) (hl : ob.peel = .dict kvs) (hz : kvs.length ≤ sizeLine) (hq : Q (.int kvs.length) σ) : EvF prog w Bs k (.builtin "len") [.ref d] σ Q := by
  intro A g s Qc Ec cvs hA hB R rs hQ
  cases rs with
  | cons r rs =>
    cases r; cases rs
    obtain ⟨ck, hd, rk⟩ := R.dict_at hm hl
    rw [sizeLine_eq] at hz
    refine call_len_dict (R.notModules hm) hd (by rw [rk.length]; omega) ?_
    rw [rk.length]
    exact hQ _ _ σ s.heap _ hq R (.int ..) (.refl _)

-- views
abbrev viewO (T : String) (d : Addr) : Obj := { cls := .type T, data := .fields #[.ref d] }
theorem bf_items {Q : V → St → Prop} (hm : (d, ob) ∈ σ) (hl : ob.peel = .dict kvs) (hq : ∀ r, Q (.ref r) ((r, .obj (viewO "dict_items" d)) :: σ)) : EvF prog w Bs k (.builtin "dict.items") [.ref d] σ Q := by
  intro A g s Qc Ec cvs hA hB R rs hQ
  cases rs with
  | cons r rs =>
    cases r; cases rs
    obtain ⟨ck, hd, rk⟩ := R.dict_at hm hl
    have kp := push_keep s.heap (viewO "dict_items" d)
    exact call_meetsIn F.slot_dict_items hd.typeIs F.entry_dict_items (F.args_dict_items_1 _) (meets_dict_items (strKind prog w) d (R.notModules hm)) ⟨⟨_, hd⟩, hQ _ _ _ _ s.toks (hq _) (R.new kp (Nat.le_refl _) (Heap.get?_push_size _ rfl) rfl) (.ref _) (.of_keep kp)⟩
theorem bf_keys {Q : V → St → Prop} (hm : (d, ob) ∈ σ) (hl : ob.peel = .dict kvs) (hq : ∀ r, Q (.ref r) ((r, .obj (viewO "dict_keys" d)) :: σ)) : EvF prog w Bs k (.builtin "dict.keys") [.ref d] σ Q := by
  intro A g s Qc Ec cvs hA hB R rs hQ
  cases rs with
  | cons r rs =>
    cases r; cases rs
    obtain ⟨ck, hd, rk⟩ := R.dict_at hm hl
    have kp := push_keep s.heap (viewO "dict_keys" d)
    exact call_meetsIn F.slot_dict_keys hd.typeIs F.entry_dict_keys (F.args_dict_keys_1 _) (W.kdl_meets_keys (strKind prog w) d (R.notModules hm)) ⟨⟨_, hd⟩, hQ _ _ _ _ s.toks (hq _) (R.new kp (Nat.le_refl _) (Heap.get?_push_size _ rfl) rfl) (.ref _) (.of_keep kp)⟩
theorem bf_values {Q : V → St → Prop} (hm : (d, ob) ∈ σ) (hl : ob.peel = .dict kvs) (hq : ∀ r, Q (.ref r) ((r, .obj (viewO "dict_values" d)) :: σ)) : EvF prog w Bs k (.builtin "dict.values") [.ref d] σ Q := by
  intro A g s Qc Ec cvs hA hB R rs hQ
  cases rs with
  | cons r rs =>
    cases r; cases rs
    obtain ⟨ck, hd, rk⟩ := R.dict_at hm hl
    have kp := push_keep s.heap (viewO "dict_values" d)
    exact call_meetsIn F.slot_dict_values hd.typeIs F.entry_dict_values (F.args_dict_values_1 _) (meets_dict_values (strKind prog w) d (R.notModules hm)) ⟨⟨_, hd⟩, hQ _ _ _ _ s.toks (hq _) (R.new kp (Nat.le_refl _) (Heap.get?_push_size _ rfl) rfl) (.ref _) (.of_keep kp)⟩
/-- list(d.items()) -/
theorem bf_list_items {r : Addr} {σ' : St} {Q : V → St → Prop} (hs : σ = (r, .obj (viewO "dict_items" d)) :: σ') (hm : (d, ob) ∈ σ') (hl : ob.peel = .dict kvs) (hz : kvs.length ≤ sizeLine) (hq : ∀ c, Q (.ref c) ((c, .list (kvs.map fun p => .tup [.str p.1, p.2])) :: σ')) :
    EvF prog w Bs k (.type "list") [.ref r] σ Q := by
  subst hs
  intro A g s Qc Ec cvs hA hB R rs hQ
  cases rs with
  | cons r' rs =>
    cases r'; cases rs
    obtain ⟨ck, hd, rk⟩ := R.dict_at (.tail _ hm) hl
    obtain ⟨ep, ha⟩ := hd.dictAt
    obtain ⟨_, o, ho, e⟩ := R.own _ (.head _)
    have e' : o = viewO "dict_items" d := e
    subst e'
    refine W.kdx_call (knd := strKind prog w) hA.1 ⟨_, ho, rfl, rfl⟩ ha (by rw [rk.length]; exact hz) fun h' tk acc c as kp hn hlen hG hacc => ?_
    have R0 := R.sub (List.sublist_cons_self _ _)
    have tk' : TK s.heap h' := .of_keep kp
    have rk' := rk.mono tk'
    have key : VRs h' (as.map Value.ref) (kvs.map fun p => .tup [.str p.1, p.2]) := by
      have pr := hG.pairs
      clear hG hacc ha hd hq hn hl hz rk R0 R
      induction rk' generalizing as with
      | nil => cases as with
        | nil => exact .nil
        | cons _ _ => simp at hlen
      | cons rv rr ih =>
        rename_i x cv v cs vs'
        cases as with
        | nil => simp at hlen
        | cons a as =>
          simp only [List.map_cons]
          refine .cons ?_ (ih as (by simpa using hlen) fun j b hj => ?_)
          · obtain ⟨key, k', x', h1, h2, h3⟩ := pr 0 a rfl
            simp at h1
            obtain ⟨rfl, rfl⟩ := h1
            obtain ⟨t, rfl⟩ := Value.isStrOf_shape h2
            exact .tup (cvs := [.str x t, cv]) (n := 0) h3 (.cons (.str ..) (.cons rv .nil))
          · obtain ⟨key, k', x', h1, h2, h3⟩ := pr (j + 1) b (by simpa using hj)
            exact ⟨key, k', x', by simpa using h1, h2, h3⟩
    refine hQ _ _ _ h' tk (hq _) (R0.new kp (Nat.le_refl _) (o := lstO (as.map Value.ref) c) ?_ ⟨_, c, rfl, key⟩) (.ref _) tk'
    rw [hn, ← hacc]
/-- list(d.keys()) -/
theorem bf_list_keys {r : Addr} {σ' : St} {Q : V → St → Prop} (hs : σ = (r, .obj (viewO "dict_keys" d)) :: σ') (hm : (d, ob) ∈ σ') (hl : ob.peel = .dict kvs) (hz : kvs.length ≤ sizeLine) (hq : ∀ c, Q (.ref c) ((c, .list (kvs.map fun p => .str p.1)) :: σ')) :
    EvF prog w Bs k (.type "list") [.ref r] σ Q := by
  subst hs
  intro A g s Qc Ec cvs hA hB R rs hQ
  cases rs with
  | cons r' rs =>
    cases r'; cases rs
    obtain ⟨ck, hd, rk⟩ := R.dict_at (.tail _ hm) hl
    obtain ⟨ep, ha⟩ := hd.dictAt
    obtain ⟨_, o, ho, e⟩ := R.own _ (.head _)
    have e' : o = viewO "dict_keys" d := e
    subst e'
    refine W.kdl_call (W.kdl_keys (knd := strKind prog w) (ep := ep)) hA.1 ⟨⟨_, ho, rfl, rfl⟩, ha⟩ (by rw [rk.length]; exact hz) fun h' tk acc c kp hn hacc => ?_
    have R0 := R.sub (List.sublist_cons_self _ _)
    have key : VRs h' acc.toList (kvs.map fun p => .str p.1) := by
      have hlen : acc.toList.length = ck.length := by rw [Array.length_toList]; exact hacc.1
      have pr : ∀ (i : Nat) (v : Value), acc.toList[i]? = some v → ∃ k x, ck[i]? = some (k, x) ∧ (strKind prog w).is k v = true := fun i v e => hacc.2 i v (by rw [← Array.getElem?_toList]; exact e)
      generalize acc.toList = l at hlen pr
      clear hacc hn hq ha hd hl hz R0 R
      induction rk generalizing l with
      | nil => cases l with
        | nil => exact .nil
        | cons _ _ => simp at hlen
      | cons rv rr ih =>
        rename_i x cv v cs vs'
        cases l with
        | nil => simp at hlen
        | cons a as =>
          simp only [List.map_cons]
          refine .cons ?_ (ih as (by simpa using hlen) fun j b hj => ?_)
          · obtain ⟨k', x', h1, h2⟩ := pr 0 a rfl
            simp at h1
            obtain ⟨rfl, rfl⟩ := h1
            obtain ⟨t, rfl⟩ := Value.isStrOf_shape h2
            exact .str ..
          · obtain ⟨k', x', h1, h2⟩ := pr (j + 1) b (by simpa using hj)
            exact ⟨k', x', by simpa using h1, h2⟩
    refine hQ _ _ _ h' tk (hq _) (R0.new kp (Nat.le_refl _) (o := lstO acc.toList c) ?_ ⟨_, c, rfl, key⟩) (.ref _) (.of_keep kp)
    rw [hn]
/-- d.copy() -/
theorem bf_copy {Q : V → St → Prop} (hm : (d, ob) ∈ σ) (hl : ob.peel = .dict kvs) (hz : kvs.length ≤ sizeLine) (hq : ∀ c, Q (.ref c) ((c, .dict kvs) :: σ)) : EvF prog w Bs k (.builtin "dict.copy") [.ref d] σ Q := by
  intro A g s Qc Ec cvs hA hB R rs hQ
  cases rs with
  | cons r rs =>
    cases r; cases rs
    obtain ⟨ck, hd, rk⟩ := R.dict_at hm hl
    refine call_meetsIn F.slot_dict_copy hd.typeIs F.entry_dict_copy (F.args_dict_copy_1 _) (meets_dict_copy (strKind prog w) d (R.notModules hm)) ⟨ck, hd, by rw [rk.length]; exact hz, fun h' hn _ kp => ?_⟩
    obtain ⟨o, ho, hi⟩ := Heap.dictOf_iff.mp hn
    exact hQ _ _ _ h' s.toks (hq _) (R.new kp (Nat.le_refl _) ho ⟨_, hi, rk.mono (.of_keep kp)⟩) (.ref _) (.of_keep kp)
end
end Mine

set_option Elab.async false
set_option linter.unusedVariables false
set_option maxRecDepth 100000
namespace Mine
open PySem PyProof.Rows PySem.Calls

theorem list_no_keys : typeLookup (.type "list") "keys" = pure none := am_miss_of_fast (by kernel_rfl)
section
variable {prog : Program} {w : World} {Bs : Heap} {k : Nat} {σ : St} {g h h' : Heap} {a d : Addr} {ob : O} {vs : List V} {kvs : KV}

theorem getAttrQ_keys_list {A : Around} {E : Value → Shared → Prop} {s : Shared} {xs : Array Value} {n : Nat} {Q : Option Value → Shared → Prop}
    (hx : s.heap.get? a = some { cls := .type "list", data := .seq xs n }) (hA : A.handled = none)
    (h : ∀ h' tk, (∀ b o, s.heap.get? b = some o → h'.get? b = some o) → Q none { s with heap := h', toks := tk }) :
    wpAny (model prog w) A (getAttr? (.ref a) "keys") Q E s := by
  obtain ⟨hp, g, d, tk, os⟩ := s
  have hT : ∀ tk', (⟨hp, g, d, tk', os⟩ : Shared).TypeIs (.ref a) "list" := fun _ => ⟨_, hx, rfl⟩
  have f1 := sub_AttributeError
  have f3 := F.slot_list_getattribute.lookup
  have f4 := F.slot_list_getattribute.bind (.ref a)
  have f5 := am_list_getattr_none
  unfold getAttr? getAttrBy? getAttrBy
  repeat (any_goals (first | assumption | exact hT _ | ((with_reducible show wpAny _ _ (call (Value.builtin "list.__getattribute__") _ _) _ _ _); refine call_meets F.slot_list_getattribute (hT _) am_entry_list_getattribute (F.args_list_getattribute_2 _ _) (meets_getattribute_miss_list a xs n #[] "keys" _ list_no_keys (by decide +kernel) (by decide +kernel)) ⟨hx, hA, fun h' tk' e hx' => ?_⟩) | wp_step))
  obtain ⟨t', u', he⟩ := hx'.there
  show wpAny _ _ (getattributeRaised _ _ _ _ _ _ _) _ _ _
  unfold getattributeRaised
  repeat (any_goals (first | assumption | wp_step))
  exact h _ _ hx'.keeps

theorem entry_dict_loop : entryFor table "dict.update.loop" = some Builtin.«dict.update.loop» := entryFor_of_tree (by kernel_rfl)
theorem dict_loop {I : Addr} {cvs : List Value} {n : Nat} (hdI : d ≠ I) (haI : a ≠ I) (had : a ≠ d) : ∀ (rest : KV) (i : Nat) (acc : List (Str × Value)) (kacc : KV) (A : Around) (R : Result → Shared → Prop) (s : Shared), A.handled = none →
    s.heap.IsListIter I a i → s.heap.get? a = some (lstO cvs n) → s.heap.DictOf (strKind prog w) d acc → KVR s.heap acc kacc → VRs s.heap (cvs.drop i) (rest.map fun p => .tup [.str p.1, p.2]) → acc.length + rest.length ≤ sizeLine →
    (∀ h' tk acc', h'.DictOf (strKind prog w) d acc' → KVR h' acc' (rest.foldl (fun c p => dput c p.1 p.2) kacc) → (∀ b o, b ≠ I → b ≠ d → s.heap.get? b = some o → h'.get? b = some o) → TK s.heap h' → R (.ok (.ret .none)) { s with heap := h', toks := tk }) →
    codeAny (model prog w) A (.builtin "dict.update.loop" ⟨[.ref d, .ref I, rawInt i, .none], []⟩) R s := by
  intro rest
  induction rest with
  | nil =>
    intro i acc kacc A R s hA hit hl hd rk rs hz hR
    refine codeAny_builtin entry_dict_loop ?_
    show wpAny _ _ (pyNext (.ref I) >>= _) _ _ s
    have hx : cvs[i]? = none := by
      have : cvs.drop i = [] := by
        generalize cvs.drop i = l at rs
        cases rs; rfl
      have := List.drop_eq_nil_iff.mp this
      exact List.getElem?_eq_none this
    refine wpAny_bind (wpAny_pyNext_list_end hA hit ⟨_, hl, rfl, n, rfl⟩ (by simpa using hx) fun h' he => ?_)
    have tk : TK s.heap h' := by
      obtain ⟨o, ho, hc, _⟩ := hit
      exact tk_but (wr := [I]) (fun b o hb e => he b o (fun q => hb (by rw [q]; exact .head _)) e) fun b hb => by rw [List.mem_singleton.mp hb]; exact not_tup ho hc (by decide)
    show wpAny _ _ (Builtin.Dict.addKeywords d [] >>= fun _ => ret .none) _ _ _
    refine wpAny_bind (wpAny_pure ?_)
    exact wpAny_pure (hR h' s.toks acc (hd.extBut he hdI) (rk.mono tk) (fun b o hb _ e => he b o hb e) tk)
  | cons p rest ih =>
    intro i acc kacc A R s hA hit hl hd rk rs hz hR
    refine codeAny_builtin entry_dict_loop ?_
    show wpAny _ _ (pyNext (.ref I) >>= _) _ _ s
    obtain ⟨x, v⟩ := p
    simp only [List.map_cons] at rs
    have key : ∃ c cs, cvs.drop i = c :: cs ∧ VR s.heap c (.tup [.str x, v]) ∧ VRs s.heap cs (rest.map fun p => .tup [.str p.1, p.2]) := by
      generalize cvs.drop i = l at rs
      cases rs with
      | cons r rs => exact ⟨_, _, rfl, r, rs⟩
    obtain ⟨c, cs, hc, rc, rcs⟩ := key
    have hx : cvs[i]? = some c := by
      have := congrArg List.head? hc
      rw [List.head?_drop] at this
      simpa using this
    have hdrop : cvs.drop (i + 1) = cs := by
      have := congrArg List.tail hc
      rw [List.tail_drop] at this
      simpa using this
    refine wpAny_bind (wpAny_pyNext_list_item hit ⟨_, hl, rfl, n, rfl⟩ (by simpa using hx) fun h1 hit1 hs1 => ?_)
    have tk1 : TK s.heap h1 := by
      obtain ⟨o, ho, hcI, _⟩ := hit
      exact tk_but (wr := [I]) (fun b o hb e => (hs1.2 b (fun q => hb (by rw [q]; exact .head _))).trans e) fun b hb => by rw [List.mem_singleton.mp hb]; exact not_tup ho hcI (by decide)
    cases rc.mono tk1 with
    | @tup t cvt nt _ ht rt =>
      cases rt with
      | cons rx rt =>
        cases rt with
        | cons rv rt =>
          cases rt
          cases rx
          rename_i cv tx
          have hT : ({ s with heap := h1 } : Shared).TypeIs (.ref t) "tuple" := ⟨_, ht, rfl⟩
          have hd1 : h1.DictOf (strKind prog w) d acc := hd.sameBut hs1 hdI
          refine wpAny_bind (wpAny_holding ?_)
          refine wpAny_bind (wpAny_tryCatch ?_)
          unfold Builtin.Dict.pairItems
          refine wpAny_bind (wpAny_typeOf hT ?_)
          rw [if_pos (by decide)]
          refine wpAny_bind (wpAny_seqItems (s := { s with heap := h1 }) ht rfl (wpAny_pure ?_))
          show wpAny _ _ (holding _ (dictSet d (.str x tx) cv)) _ _ _
          have hz2 : acc.length + (rest.length + 1) ≤ sizeLine := hz
          refine wpAny_holding (wpAny_dictSet_pairs (s := { s with heap := h1 }) (strKind_is _ _ _ _) hd1 (fun h2 hd2 hs2 => ?_) (by omega))
          have tk2 : TK h1 h2 := dict_tk hd1 hs2
          refine wpAny_pure ⟨Code.quiet_builtin _ (by decide +kernel), ?_⟩
          have rk2 := ((rk.mono tk1).put (x := x) rv).mono tk2
          have hl2 : h2.get? a = some (lstO cvs n) := (hs2.2 a had).trans ((hs1.2 a haI).trans hl)
          refine ih (i + 1) (stored acc x cv) (dput kacc x v) A R { s with heap := h2, toks := s.toks + 1 } hA (by obtain ⟨o, ho, r⟩ := hit1; exact ⟨o, (hs2.2 I (Ne.symm hdI)).trans ho, r⟩) hl2 hd2 rk2 (by rw [hdrop]; exact (rcs.mono tk1).mono tk2) (by have := stored_length_le acc x cv; omega) ?_
          intro h3 tk3 acc' hd3 rk3 kp3 t3
          exact hR h3 tk3 acc' hd3 rk3 (fun b o h1' h2' e => kp3 b o h1' h2' ((hs2.2 b h2').trans ((hs1.2 b h1').trans e))) (tk1.trans (tk2.trans t3))
def dmake (ps : KV) : KV := ps.foldl (fun c p => dput c p.1 p.2) []
/-- dict(pairs) -/
theorem bf_dict_pairs {ps : KV} {Q : V → St → Prop} (hm : (a, ob) ∈ σ) (hl : ob.peel = .list (ps.map fun p => .tup [.str p.1, p.2])) (hz : ps.length ≤ sizeLine) (hq : ∀ c, Q (.ref c) ((c, .dict (dmake ps)) :: σ)) : EvF prog w Bs k (.type "dict") [.ref a] σ Q := by
  intro A g s Qc Ec cvs hA hB R rs hQ
  cases rs with
  | cons r rs =>
    cases r; cases rs
    obtain ⟨cl, n, ho, rl⟩ := R.list_at hm hl
    refine callType_codes (Q₁ := fun obj s₁ => obj = .ref s.heap.objs.size ∧ s₁ = { s with heap := s.heap.push { cls := .type "dict", data := .dict #[] } }) F.kt_called_dict (F.kt_typeCall_dict_1 _) F.entry_dict_init (kt_code_dict_new _ ⟨rfl, rfl⟩) ?_
    rintro obj s₁ ⟨rfl, rfl⟩
    have hnew : (s.heap.push { cls := .type "dict", data := .dict #[] }).DictOf (strKind prog w) s.heap.objs.size [] := Heap.DictOf.new s.heap
    have ho' := Heap.get?_push_of_some { cls := .type "dict", data := .dict #[] } ho
    have hal : a < s.heap.objs.size := Heap.lt_size ho
    refine ⟨hnew.typeIs, F.args_dict_init_2 _ _, ?_⟩
    unfold Builtin.«dict.__init__»
    refine wpAny_bind ?_
    unfold Builtin.Dict.selfAndRest
    refine wpAny_bind (wpAny_notOrdered_dict hnew.typeIs ?_)
    show wpAny _ _ (pure (s.heap.objs.size, [Value.ref a])) _ _ _
    refine wpAny_pure ?_
    show wpAny _ _ (Builtin.Dict.updateFrom "dict.__init__" s.heap.objs.size (.ref a) [] .none) _ _ _
    unfold Builtin.Dict.updateFrom
    refine wpAny_bind (wpAny_typeOf (T := "list") ⟨_, ho', rfl⟩ ?_)
    rw [if_pos (by decide)]
    refine wpAny_bind (getAttrQ_keys_list (s := { s with heap := s.heap.push { cls := .type "dict", data := .dict #[] } }) ho' hA.1 fun h1 tk1 kp1 => ?_)
    rw [if_pos (show (none : Option Value).isNone = true from rfl)]
    refine wpAny_bind (wpAny_rule ?_)
    have ho1 : h1.get? a = some (lstO cl n) := kp1 _ _ ho'
    have hd1 : h1.DictOf (strKind prog w) s.heap.objs.size [] := hnew.keep kp1
    refine wpAny_bind (wpAny_pyIter_list (s := { s with heap := h1, toks := tk1 }) ⟨_, ho1, rfl, n, rfl⟩ ?_)
    have kp2 := push_keep h1 { cls := .type "list_iterator", data := .fields #[.ref a, .int 0 0] }
    have hS : s.heap.objs.size < h1.objs.size := by
      obtain ⟨o, _, _, e, _⟩ := hd1
      exact Heap.lt_size e
    have ha1 : a < h1.objs.size := Heap.lt_size ho1
    have kpA : ∀ b o, s.heap.get? b = some o → (h1.push { cls := .type "list_iterator", data := .fields #[.ref a, .int 0 0] }).get? b = some o := fun b o e => kp2 b o (kp1 b o (Heap.get?_push_of_some _ e))
    refine wpAny_pure ⟨Code.quiet_builtin _ (by decide +kernel), ?_⟩
    refine dict_loop (Nat.ne_of_lt hS) (Nat.ne_of_lt ha1) (Nat.ne_of_lt hal) ps 0 [] [] A.in1 _ { s with heap := h1.push { cls := .type "list_iterator", data := .fields #[.ref a, .int 0 0] }, toks := tk1 } hA.1
      ⟨_, Heap.get?_push_size _ rfl, rfl, rfl⟩ (kp2 _ _ ho1) (hd1.push _) .nil (by simpa using rl.mono (.of_keep kpA)) (by simpa using hz) ?_
    intro h3 tk3 acc' hd3 rk3 kp3 t3
    have kpB : ∀ b o, s.heap.get? b = some o → h3.get? b = some o := fun b o e => kp3 b o (Nat.ne_of_lt (Nat.lt_trans (Heap.lt_size e) hS)) (Nat.ne_of_lt (Heap.lt_size e)) (kpA b o e)
    obtain ⟨o3, ho3, hi3⟩ := Heap.dictOf_iff.mp hd3
    exact ⟨rfl, hQ _ _ _ h3 tk3 (hq _) (R.new kpB (Nat.le_refl _) ho3 ⟨_, hi3, rk3⟩) (.ref _) (.of_keep kpB)⟩
end
end Mine

set_option Elab.async false
set_option linter.unusedVariables false
set_option maxRecDepth 100000
namespace Mine
open PySem PyProof.Rows PySem.Calls PySem.W PySem.Spec

mutual
inductive DV (S : St) : V → Dat → Prop
  | none : DV S .none .none
  | int (i : Int) : DV S (.int i) (.int i)
  | str (x : Str) : DV S (.str x) (.str x)
  | tup {vs : List V} {ds : List Dat} : DVs S vs ds → DV S (.tup vs) (.tuple ds)
  | list {a : Addr} {ob : O} {vs : List V} {ds : List Dat} : (a, ob) ∈ S → ob.peel = .list vs → DVs S vs ds → DV S (.ref a) (.list ds)
inductive DVs (S : St) : List V → List Dat → Prop
  | nil : DVs S [] []
  | cons {v : V} {d : Dat} {vs : List V} {ds : List Dat} : DV S v d → DVs S vs ds → DVs S (v :: vs) (d :: ds)
end
section
variable {prog : Program} {w : World} {Bs : Heap} {k : Nat} {env : Env} {m : Env'} {σ : St} {g h : Heap} {a d : Addr} {ob : O}
mutual
theorem DV.reads (R : RH prog w g σ h) : ∀ {v : V} {d : Dat} {c : Value}, DV σ v d → VR h c v → ∃ as, Reads h c (kqdP d) as
  | _, _, _, .none, .none => ⟨_, .none⟩
  | _, _, _, .int i, .int _ t => ⟨_, .int i t⟩
  | _, _, _, .str x, .str _ t => ⟨_, .str x t⟩
  | _, _, _, .tup ds, .tup ho rs => by
    obtain ⟨as, q⟩ := DVs.reads R ds rs
    rw [kqdP]
    exact ⟨as, reads_tuple_at ho rfl rfl (by simpa using q)⟩
  | _, _, _, .list hm hl ds, .ref _ => by
    obtain ⟨cvs, n, ho, rs⟩ := R.list_at hm hl
    obtain ⟨as, q⟩ := DVs.reads R ds rs
    rw [kqdP]
    exact ⟨_, reads_list_at ho rfl rfl (by simpa using q)⟩
theorem DVs.reads (R : RH prog w g σ h) : ∀ {v : List V} {d : List Dat} {c : List Value}, DVs σ v d → VRs h c v → ∃ as, ReadsAll h c (kqdPs d) as
  | _, _, _, .nil, .nil => ⟨_, .nil⟩
  | _, _, _, .cons d ds, .cons r rs => by
    obtain ⟨as, q⟩ := DV.reads R d r
    obtain ⟨bs, p⟩ := DVs.reads R ds rs
    rw [kqdPs]
    exact ⟨_, .cons q p⟩
end

variable (prog w) in
/-- a comparison, by what it does -/
def CmpG (S : St) (op : CmpOp) (a b : V) (c : Bool) : Prop :=
  ∀ (A : Around) (k : Nat) (g : Heap) (s : Shared) (ca cb : Value) (Qc Ec : Value → Shared → Prop), AOk k A → RH prog w g S s.heap → VR s.heap ca a → VR s.heap cb b → (∀ tk, Qc (.bool c) { s with toks := tk }) → wpAny (model prog w) A (compareOp op ca cb) Qc Ec s
theorem Cmp.gen {op : CmpOp} {a b : V} {c : Bool} (h : Cmp op a b c) : CmpG prog w σ op a b c := fun A k g s ca cb Qc Ec hA R ra rb hQ => cmp_any h ra rb (hQ _)
theorem CmpH.gen {op : CmpOp} {a b : V} {c : Bool} (h : CmpH σ op a b c) : CmpG prog w σ op a b c := fun A k g s ca cb Qc Ec hA R ra rb hQ => cmpH_any h R ra rb hQ
theorem shaped_of {d : Dat} (h : kqdOk 9 d = true) : SeqAt.shaped (kqdP d) = true := by
  have l := kqd_lay 9 d h
  unfold SeqAt.shaped; rw [l.1, Bool.true_and]; exact decide_eq_true (Nat.le_trans l.2 (by decide))
theorem cmp_eqD {x y : V} {d e : Dat} {c : Bool} (dx : DV σ x d) (dy : DV σ y e) (hd : kqdOk 9 d = true) (he : kqdOk 9 e = true) (hc : c = true ↔ d = e) : CmpG prog w σ .Eq x y c := fun A k g s ca cb Qc Ec hA R ra rb hQ => by
  obtain ⟨as, r1⟩ := dx.reads R ra
  obtain ⟨bs, r2⟩ := dy.reads R rb
  refine eq_dataH r1 r2 (shaped_of hd) (shaped_of he) (by have := hA.2.2; omega) ?_
  have q := kqd_eqv 9 d e 9 hd he
  have : PyData.eqv (kqdP d) (kqdP e) = c := by
    cases c with
    | true => exact q.mpr (hc.mp rfl)
    | false => exact Bool.eq_false_iff.mpr fun x => absurd (hc.mpr (q.mp x)) (by simp)
  rw [this]; exact hQ _
theorem cmp_neD {x y : V} {d e : Dat} {c : Bool} (dx : DV σ x d) (dy : DV σ y e) (hd : kqdOk 9 d = true) (he : kqdOk 9 e = true) (hc : c = true ↔ d = e) : CmpG prog w σ .NotEq x y (!c) := fun A k g s ca cb Qc Ec hA R ra rb hQ => by
  obtain ⟨as, r1⟩ := dx.reads R ra
  obtain ⟨bs, r2⟩ := dy.reads R rb
  refine ne_dataH r1 r2 (shaped_of hd) (shaped_of he) (by have := hA.2.2; omega) ?_
  have q := kqd_eqv 9 d e 9 hd he
  have : PyData.eqv (kqdP d) (kqdP e) = c := by
    cases c with
    | true => exact q.mpr (hc.mp rfl)
    | false => exact Bool.eq_false_iff.mpr fun x => absurd (hc.mpr (q.mp x)) (by simp)
  rw [this]; exact hQ _
theorem evb_cmpG {l r : Expr} {op : CmpOp} {pos : Pos} {Q : Bool → St → Prop}
    (h : EvE prog w Bs k env l m σ fun a σ1 => EvE prog w Bs k env r m σ1 fun b σ2 => ∃ c, CmpG prog w σ2 op a b c ∧ Q c σ2) (hm : behindInMarks op r = false := by with_unfolding_all rfl) :
    EvB prog w Bs k env (.Compare l [op] [r] pos) m σ Q := fun A g s Qc Ec hA hB R hQ =>
  wpAny_isTrue_Compare1 (Ev.two (Qc := fun c d s₂ => wpAny (model prog w) A (compareOp op c d) (fun c s₃ => wpAny (model prog w) A (truthy c) Qc Ec s₃) Ec s₂) h (fun t r => r.mono t) hA hB R fun c d a b σ' h' tk ⟨v, hv, hq⟩ R' ra rb t =>
    hv A k _ { s with heap := h', toks := tk } _ _ _ _ hA R'.rh ra rb fun tk' => wpAny_truthy_bool (hQ _ _ σ' h' tk' hq R' rfl t)) hm
theorem ev_cmpG {l r : Expr} {op : CmpOp} {pos : Pos} {Q : V → St → Prop}
    (h : EvE prog w Bs k env l m σ fun a σ1 => EvE prog w Bs k env r m σ1 fun b σ2 => ∃ c, CmpG prog w σ2 op a b c ∧ Q (.bool c) σ2) (hm : behindInMarks op r = false := by with_unfolding_all rfl) :
    EvE prog w Bs k env (.Compare l [op] [r] pos) m σ Q := fun A g s Qc Ec hA hB R hQ =>
  wpAny_Compare1 (Ev.two (Qc := fun c d s₂ => wpAny (model prog w) A (compareOp op c d) Qc Ec s₂) h (fun t r => r.mono t) hA hB R fun c d a b σ' h' tk ⟨v, hv, hq⟩ R' ra rb t =>
    hv A k _ { s with heap := h', toks := tk } _ _ _ _ hA R'.rh ra rb fun tk' => hQ _ _ σ' h' tk' hq R' (.bool _) t) hm

-- the pairs of a dict as data
def kvD (p : Str × Int) : Dat := .tuple [.str p.1, .int p.2]
def kvV (p : Str × Int) : V := .tup [.str p.1, .int p.2]
theorem dvs_kv {S : St} : ∀ (ps : List (Str × Int)), DVs S (ps.map kvV) (ps.map kvD)
  | [] => .nil
  | p :: ps => .cons (.tup (.cons (.str _) (.cons (.int _) .nil))) (dvs_kv ps)
theorem kvD_inj {p q : Str × Int} (h : kvD p = kvD q) : p = q := by
  obtain ⟨a, b⟩ := p; obtain ⟨c, d⟩ := q
  simp [kvD] at h; simp [h]
theorem kvDs_inj : ∀ {ps qs : List (Str × Int)}, ps.map kvD = qs.map kvD → ps = qs
  | [], [], _ => rfl
  | [], _ :: _, h => by simp at h
  | _ :: _, [], h => by simp at h
  | p :: ps, q :: qs, h => by
    simp only [List.map_cons, List.cons.injEq] at h
    rw [kvD_inj h.1, kvDs_inj h.2]

-- type(x)
inductive Ty : V → String → Prop
  | int (i : Int) : Ty (.int i) "int"
  | str (x : Str) : Ty (.str x) "str"
  | bool (b : Bool) : Ty (.bool b) "bool"
  | none : Ty .none "NoneType"
theorem bf_type {v : V} {T : String} {Q : V → St → Prop} (ht : Ty v T) (hq : Q (.raw (.type T)) σ) : EvF prog w Bs k (.type "type") [v] σ Q := by
  intro A g s Qc Ec cvs hA hB R rs hQ
  cases rs with
  | cons r rs =>
    cases rs
    have fin := hQ (.type T) (.raw (.type T)) σ s.heap s.toks hq R (.raw _) (.refl _)
    cases ht <;> cases r <;> exact call_type_of rfl (by decide) fin
theorem bf_abs {i : Int} {Q : V → St → Prop} (hq : Q (.int (if i < 0 then -i else i)) σ) : EvF prog w Bs k (.builtin "abs") [.int i] σ Q := by
  intro A g s Qc Ec cvs hA hB R rs hQ
  cases rs with
  | cons r rs =>
    cases rs; cases r
    exact call_abs_int fun u tk => hQ _ _ σ s.heap tk hq R (.int ..) (.refl _)
theorem bf_max2 {i j : Int} {Q : V → St → Prop} (hq : Q (.int (if j > i then j else i)) σ) : EvF prog w Bs k (.builtin "max") [.int i, .int j] σ Q := by
  intro A g s Qc Ec cvs hA hB R rs hQ
  cases rs with
  | cons r rs =>
    cases r
    cases rs with
    | cons r rs =>
      cases r; cases rs
      refine max_two_ints hA.1 fun h' tk kp => ?_
      refine hQ _ _ σ h' tk hq (R.ext kp) ?_ (.of_keep kp)
      split <;> exact .int ..
theorem bf_max3 {i j l : Int} {Q : V → St → Prop} (hq : Q (.int (if j > i then (if l > j then l else j) else (if l > i then l else i))) σ) : EvF prog w Bs k (.builtin "max") [.int i, .int j, .int l] σ Q := by
  intro A g s Qc Ec cvs hA hB R rs hQ
  cases rs with
  | cons r rs =>
    cases r
    cases rs with
    | cons r rs =>
      cases r
      cases rs with
      | cons r rs =>
        cases r; cases rs
        refine max_three_ints hA.1 fun h' tk kp => ?_
        refine hQ _ _ σ h' tk hq (R.ext kp) ?_ (.of_keep kp)
        split <;> split <;> exact .int ..
end
end Mine

set_option Elab.async false
set_option linter.unusedVariables false
set_option maxRecDepth 100000
namespace Mine
open PySem PyProof.Rows PySem.Calls PySem.W PySem.Spec

/-- the text's world -/
structure Ctx (Bs : Heap) (mg mb : Str → Option Value) : Prop where
  g : Bs.Ns mainGlobals mg
  b : Bs.Ns builtinsNs mb
  lim : Bs.NoLimit
def defAt (p : Program) (i : Nat) : DefRec := match p.main.body[i]? with
  | some (.FunctionDef name params body _ _ _ scope _ _ pos) => ⟨name, params, body, scope, pos⟩
  | _ => ⟨"", ⟨[], [], none, [], [], none, []⟩, [], { kind := .function, names := [], isGenerator := false, isCoroutine := false }, default⟩
/-- a def of the text, as it stands -/
structure FnAt (Bs : Heap) (mg : Str → Option Value) (fn : Str) (d : DefRec) (f : Addr) (pm code doc : Value) : Prop where
  nm : d.name = fn
  name : mg d.name = some (.ref f)
  obj : ∃ o, Bs.get? f = some o ∧ o.data = .func (docDef d.name d.params d.body d.scope pm code doc)
  code : Bs.CodeRec code d.name

theorem if_tt {c : Bool} {A B : Prop} (h : c = true) (a : A) : if c then A else B := by rw [h]; exact a
theorem if_ff {c : Bool} {A B : Prop} (h : c = false) (b : B) : if c then A else B := by rw [h]; exact b
def leE : Env' → Env' → Prop
  | [], _ => True
  | p :: r, m => m.lookup p.1 = some p.2 ∧ leE r m
theorem leE.get : ∀ {m1 m : Env'}, leE m1 m → ∀ x v, m1.lookup x = some v → m.lookup x = some v
  | [], _, _, x, v, e => by simp at e
  | (y, u) :: r, m, h, x, v, e => by
    rw [List.lookup_cons] at e
    cases q : x == y with
    | true => rw [q] at e; cases e; rw [eq_of_beq q]; exact h.1
    | false => rw [q] at e; exact leE.get h.2 x v e

section
variable {prog : Program} {w : World} {Bs : Heap} {k : Nat} {env : Env} {m : Env'} {σ : St} {g h : Heap} {a d : Addr} {ob : O} {mg mb : Str → Option Value} {vs : List V} {kvs : KV}

theorem EvSt.le {L : Addr} {t : Sem Flow} {Q : Fl → Env' → St → Prop} {m' : Env'} (s : leE m' m) (h : EvSt prog w Bs k L t m' σ Q) : EvSt prog w Bs k L t m σ Q := h.weakEnv s.get

theorem evf_def {fn : Str} {D : DefRec} {f : Addr} {pm code doc : Value} {ps : List Str} {Q : V → St → Prop} (C : Ctx Bs mg mb) (F : FnAt Bs mg fn D f pm code doc)
    (hbind : ∀ cvs : List Value, cvs.length = ps.length → bindArgs (docDef D.name D.params D.body D.scope pm code doc) ⟨cvs, []⟩ = pure (ps.zip cvs)) (hlen : vs.length = ps.length)
    (h : ∀ L, EvS prog w Bs k (callEnvC (docDef D.name D.params D.body D.scope pm code doc) L f) D.body (locs (docDef D.name D.params D.body D.scope pm code doc) ps vs) (cellsσ (docDef D.name D.params D.body D.scope pm code doc) L ps vs ++ σ) fun fl _ σ' => ∃ σ'', SubP σ'' σ' ∧ Q (retOf fl) σ'')
    (hnp : ps.Nodup) (hkind : ∀ x ∈ ps, D.scope.names.lookup x = some .local ∨ (D.scope.names.lookup x = some .cell ∧ ∀ n, ((cellsFrom n D.scope.names []).lookup x).isSome = true)) (hnn : (D.scope.names.map (·.1)).Nodup)
    (hco : D.scope.isCoroutine = false) (hgen : D.scope.isGenerator = false) (hk : D.scope.kind = .function) : EvF prog w Bs (k + 1) (.ref f) vs σ Q := by
  obtain ⟨o, ho, hd⟩ := F.obj
  exact evf ho hd C.lim F.code rfl hbind hlen h rfl hnp hkind hnn hco hgen hk
theorem cellsFrom_some : ∀ (names : List (Str × NameKind)) (n : Nat) (acc : List (Str × Addr)) (x : Str), ((acc.lookup x).isSome = true ∨ names.lookup x = some .cell) → ((cellsFrom n names acc).lookup x).isSome = true
  | [], n, acc, x, h => by
    rcases h with h | h
    · simpa [cellsFrom] using h
    · simp at h
  | (y, kd) :: r, n, acc, x, h => by
    unfold cellsFrom
    split
    · refine cellsFrom_some r _ _ x ?_
      cases q : x == y with
      | true => left; rw [List.lookup_cons, q]; rfl
      | false =>
        rcases h with h | h
        · left; rw [List.lookup_cons, q]; exact h
        · right; rw [List.lookup_cons, q] at h; exact h
    · rename_i hc
      refine cellsFrom_some r _ _ x ?_
      rcases h with h | h
      · exact .inl h
      · rw [List.lookup_cons] at h
        cases q : x == y with
        | true =>
          rw [q] at h; cases h
          first | exact absurd rfl hc | (simp at hc)
        | false => rw [q] at h; exact .inr h
theorem cellsFrom_nil : ∀ (names : List (Str × NameKind)) (n : Nat), (names.all fun p => p.2 != .cell) = true → cellsFrom n names [] = []
  | [], n, _ => rfl
  | (y, kd) :: r, n, h => by
    simp only [List.all_cons, Bool.and_eq_true] at h
    unfold cellsFrom
    split
    · rename_i hc
      exfalso
      have h1 := h.1
      first | (rw [hc] at h1; exact absurd h1 (by decide)) | (simp at hc h1; exact h1 hc)
    · exact cellsFrom_nil r n h.2
/-- a def without cells -/
def noCells (sc : Scope) (ps : List Str) : Bool := (ps.all fun x => sc.names.lookup x == some .local) && (sc.names.all fun p => p.2 != .cell)
def lawful (sc : Scope) (ps : List Str) : Bool := decide ps.Nodup && decide (sc.names.map (·.1)).Nodup && (ps.all fun x => sc.names.lookup x == some .local || sc.names.lookup x == some .cell) && !sc.isCoroutine && !sc.isGenerator && decide (sc.kind = .function)
theorem evf_nc {fn : Str} {D : DefRec} {f : Addr} {pm code doc : Value} {ps : List Str} {Q : V → St → Prop} (C : Ctx Bs mg mb) (F : FnAt Bs mg fn D f pm code doc)
    (hbind : ∀ cvs : List Value, cvs.length = ps.length → bindArgs (docDef D.name D.params D.body D.scope pm code doc) ⟨cvs, []⟩ = pure (ps.zip cvs)) (hlen : vs.length = ps.length)
    (hs : lawful D.scope ps = true) (hc : noCells D.scope ps = true)
    (h : ∀ L, EvS prog w Bs k (callEnvC (docDef D.name D.params D.body D.scope pm code doc) L f) D.body (ps.zip vs) σ fun fl _ σ' => ∃ σ'', SubP σ'' σ' ∧ Q (retOf fl) σ'') : EvF prog w Bs (k + 1) (.ref f) vs σ Q := by
  simp only [lawful, Bool.and_eq_true, decide_eq_true_eq, Bool.not_eq_true', List.all_eq_true, Bool.or_eq_true, beq_iff_eq] at hs
  obtain ⟨⟨⟨⟨⟨h1, h2⟩, h3⟩, h4⟩, h5⟩, h6⟩ := hs
  simp only [noCells, Bool.and_eq_true, List.all_eq_true, beq_iff_eq] at hc
  refine evf_def C F hbind hlen (fun L => ?_) h1 (fun x hx => .inl (hc.1 x hx)) h2 h4 h5 h6
  have e1 : cellsσ (docDef D.name D.params D.body D.scope pm code doc) L ps vs = [] := by
    unfold cellsσ
    show List.map _ (cellsFrom (L + 1) D.scope.names []) = []
    rw [cellsFrom_nil _ _ (List.all_eq_true.mpr hc.2)]; rfl
  have e2 : locs (docDef D.name D.params D.body D.scope pm code doc) ps vs = ps.zip vs := by
    unfold locs
    refine List.filter_eq_self.mpr fun p hp => ?_
    have := hc.1 p.1 (zip_map_fst _ _ p hp)
    show (D.scope.names.lookup p.1 == some .local) = true
    rw [this]; rfl
  rw [e1, e2, List.nil_append]
  exact h L
theorem evf_c {fn : Str} {D : DefRec} {f : Addr} {pm code doc : Value} {ps : List Str} {Q : V → St → Prop} (C : Ctx Bs mg mb) (F : FnAt Bs mg fn D f pm code doc)
    (hbind : ∀ cvs : List Value, cvs.length = ps.length → bindArgs (docDef D.name D.params D.body D.scope pm code doc) ⟨cvs, []⟩ = pure (ps.zip cvs)) (hlen : vs.length = ps.length)
    (hs : lawful D.scope ps = true)
    (h : ∀ L, EvS prog w Bs k (callEnvC (docDef D.name D.params D.body D.scope pm code doc) L f) D.body (locs (docDef D.name D.params D.body D.scope pm code doc) ps vs) (cellsσ (docDef D.name D.params D.body D.scope pm code doc) L ps vs ++ σ) fun fl _ σ' => ∃ σ'', SubP σ'' σ' ∧ Q (retOf fl) σ'') : EvF prog w Bs (k + 1) (.ref f) vs σ Q := by
  simp only [lawful, Bool.and_eq_true, decide_eq_true_eq, Bool.not_eq_true', List.all_eq_true, Bool.or_eq_true, beq_iff_eq] at hs
  obtain ⟨⟨⟨⟨⟨h1, h2⟩, h3⟩, h4⟩, h5⟩, h6⟩ := hs
  refine evf_def C F hbind hlen h h1 (fun x hx => (h3 x hx).imp id fun q => ⟨q, fun n => cellsFrom_some _ _ _ _ (.inr q)⟩) h2 h4 h5 h6
theorem evf_cs {fn : Str} {D : DefRec} {f : Addr} {pm code doc : Value} {ps : List Str} {Q : V → St → Prop} (C : Ctx Bs mg mb) (F : FnAt Bs mg fn D f pm code doc)
    (hbind : ∀ cvs : List Value, cvs.length = ps.length → bindArgs (docDef D.name D.params D.body D.scope pm code doc) ⟨cvs, []⟩ = pure (ps.zip cvs)) (hlen : vs.length = ps.length)
    (hs : lawful D.scope ps = true) (ls : Env') (st : Addr → St) (hls : locs (docDef D.name D.params D.body D.scope pm code doc) ps vs = ls) (hst : ∀ L, cellsσ (docDef D.name D.params D.body D.scope pm code doc) L ps vs ++ σ = st L)
    (h : ∀ L, EvS prog w Bs k (callEnvC (docDef D.name D.params D.body D.scope pm code doc) L f) D.body ls (st L) fun fl _ σ' => ∃ σ'', SubP σ'' σ' ∧ Q (retOf fl) σ'') : EvF prog w Bs (k + 1) (.ref f) vs σ Q :=
  evf_c C F hbind hlen hs fun L => by rw [hls, hst]; exact h L
theorem ev_fn {D : DefRec} {f : Addr} {pm code doc : Value} {fn : Str} {p pos : Pos} {e : Expr} {rest : List Expr} {Q : V → St → Prop} (C : Ctx Bs mg mb) (F : FnAt Bs mg fn D f pm code doc)
    (h : EvA prog w Bs k env pos (e :: rest) m σ fun vs σ1 => EvF prog w Bs k (.ref f) vs σ1 Q)
    (hg : env.globals = mainGlobals := by rfl) (hk : env.scope.kind = .function := by rfl) (hx : env.kindOf fn = some .globalImplicit := by rfl) (hd : (fn == ("__debug__" : Str)) = false := by decide)
    (he : starEach (e :: rest) env = (false, eval e env) :: starEach rest env := by rfl) : EvE prog w Bs k env (.Call (.Name fn p) (e :: rest) [] pos) m σ Q := by
  obtain ⟨o, ho, hdd⟩ := F.obj
  have hmg := F.name
  rw [F.nm] at hmg
  exact ev_call ho hdd (ev_global (hg ▸ C.g) hmg (.raw _) ⟨rfl, h⟩ hk hx hd) he
theorem ev_fn0 {D : DefRec} {f : Addr} {pm code doc : Value} {fn : Str} {p pos : Pos} {Q : V → St → Prop} (C : Ctx Bs mg mb) (F : FnAt Bs mg fn D f pm code doc)
    (h : EvF prog w Bs k (.ref f) [] σ Q)
    (hg : env.globals = mainGlobals := by rfl) (hk : env.scope.kind = .function := by rfl) (hx : env.kindOf fn = some .globalImplicit := by rfl) (hd : (fn == ("__debug__" : Str)) = false := by decide) : EvE prog w Bs k env (.Call (.Name fn p) [] [] pos) m σ Q := by
  obtain ⟨o, ho, hdd⟩ := F.obj
  have hmg := F.name
  rw [F.nm] at hmg
  exact ev_call0 ho hdd (ev_global (hg ▸ C.g) hmg (.raw _) ⟨rfl, h⟩ hk hx hd)

variable (Bs mg mb) in
/-- a built-in name, seen from the text -/
structure BIs (x : Str) (v : Value) : Prop where
  ctx : Ctx Bs mg mb
  off : mg x = none
  val : mb x = some v
theorem ev_bfn {id : String} {fn : Str} {p pos : Pos} {e : Expr} {rest : List Expr} {Q : V → St → Prop} (B : BIs Bs mg mb fn (.builtin id))
    (h : EvA prog w Bs k env pos (e :: rest) m σ fun vs σ1 => EvF prog w Bs k (.builtin id) vs σ1 Q)
    (hg : env.globals = mainGlobals := by rfl) (hb : env.builtins = builtinsNs := by rfl) (hk : env.scope.kind = .function := by rfl) (hx : env.kindOf fn = some .globalImplicit := by rfl) (hd : (fn == ("__debug__" : Str)) = false := by decide)
    (he : starEach (e :: rest) env = (false, eval e env) :: starEach rest env := by rfl) (hp : (backTo pos (starEach rest env)).any (·.1) = false := by rfl) : EvE prog w Bs k env (.Call (.Name fn p) (e :: rest) [] pos) m σ Q :=
  ev_callb (ev_builtin (hg ▸ B.ctx.g) B.off (hb ▸ B.ctx.b) B.val ⟨rfl, h⟩ hk hx hd) he hp
theorem ev_tfn {T : String} {fn : Str} {p pos : Pos} {e : Expr} {rest : List Expr} {Q : V → St → Prop} (B : BIs Bs mg mb fn (.type T))
    (h : EvA prog w Bs k env pos (e :: rest) m σ fun vs σ1 => EvF prog w Bs k (.type T) vs σ1 Q)
    (hg : env.globals = mainGlobals := by rfl) (hb : env.builtins = builtinsNs := by rfl) (hk : env.scope.kind = .function := by rfl) (hx : env.kindOf fn = some .globalImplicit := by rfl) (hd : (fn == ("__debug__" : Str)) = false := by decide)
    (he : starEach (e :: rest) env = (false, eval e env) :: starEach rest env := by rfl) (hp : (backTo pos (starEach rest env)).any (·.1) = false := by rfl) : EvE prog w Bs k env (.Call (.Name fn p) (e :: rest) [] pos) m σ Q :=
  ev_callt (ev_builtin (hg ▸ B.ctx.g) B.off (hb ▸ B.ctx.b) B.val ⟨rfl, h⟩ hk hx hd) he hp
theorem ev_tname {T : String} {x : Str} {p : Pos} {Q : V → St → Prop} (B : BIs Bs mg mb x (.type T)) (h : Q (.raw (.type T)) σ)
    (hg : env.globals = mainGlobals := by rfl) (hb : env.builtins = builtinsNs := by rfl) (hk : env.scope.kind = .function := by rfl) (hx : env.kindOf x = some .globalImplicit := by rfl) (hd : (x == ("__debug__" : Str)) = false := by decide) : EvE prog w Bs k env (.Name x p) m σ Q :=
  ev_builtin (hg ▸ B.ctx.g) B.off (hb ▸ B.ctx.b) B.val h hk hx hd

theorem len_ok {n : Nat} (h : n ≤ 10000) : n ≤ sizeLine := by rw [sizeLine_eq]; omega
variable (prog w) in
/-- a sum, by what it does -/
def AddG (S : St) (a b : V) (Q : V → St → Prop) : Prop :=
  ∀ (A : Around) (g : Heap) (L : Addr) (m : Env') (s : Shared) (ca cb : Value) (Qc Ec : Value → Shared → Prop), Rel prog w g L m S s.heap → VR s.heap ca a → VR s.heap cb b →
    (∀ cv v σ' h' tk, Q v σ' → Rel prog w g L m σ' h' → VR h' cv v → TK s.heap h' → Qc cv { s with heap := h', toks := tk }) → wpAny (model prog w) A (binaryOp .Add ca cb) Qc Ec s
theorem addG_int {i j : Int} {Q : V → St → Prop} (h : Q (.int (i + j)) σ) : AddG prog w σ (.int i) (.int j) Q := fun A g L m s ca cb Qc Ec R ra rb hQ => by
  exact bin_any (Bin.add i j) ra rb fun cv tk r => hQ cv _ σ s.heap tk h R r (.refl _)
theorem addG_str {x y : Str} {Q : V → St → Prop} (hz : x.length + y.length ≤ sizeLine) (h : Q (.str (x ++ y)) σ) : AddG prog w σ (.str x) (.str y) Q := fun A g L m s ca cb Qc Ec R ra rb hQ => by
  exact bin_any (Bin.cat x y hz) ra rb fun cv tk r => hQ cv _ σ s.heap tk h R r (.refl _)
theorem addG_list {a b : Addr} {oa ob : O} {va vb : List V} {Q : V → St → Prop} (ma : (a, oa) ∈ σ) (mb : (b, ob) ∈ σ) (la : oa.peel = .list va) (lb : ob.peel = .list vb) (hz : va.length + vb.length ≤ sizeLine) (hq : ∀ c, Q (.ref c) ((c, .list (va ++ vb)) :: σ)) :
    AddG prog w σ (.ref a) (.ref b) Q := fun A g L m s c d Qc Ec R' rx ry hQ => by
  cases rx; cases ry
  obtain ⟨ca, na, hoa, ra⟩ := R'.rh.list_at ma la
  obtain ⟨cb, nb, hob, rb⟩ := R'.rh.list_at mb lb
  have kp := push_keep s.heap (lstO (ca ++ cb) 0)
  refine P.add_list hoa hob ?_ (by simp [ra.length, rb.length]; exact hz)
  have e : ca.toArray ++ cb.toArray = (ca ++ cb).toArray := by simp
  rw [e]
  exact hQ _ _ _ _ s.toks (hq _) (R'.new kp (Nat.le_refl _) (o := lstO (ca ++ cb) 0) (Heap.get?_push_size _ rfl) ⟨_, 0, rfl, (ra.append rb).mono (.of_keep kp)⟩) (.ref _) (.of_keep kp)
theorem ev_addG {l r : Expr} {pos : Pos} {Q : V → St → Prop} (h : EvE prog w Bs k env l m σ fun x σ1 => EvE prog w Bs k env r m σ1 fun y σ2 => AddG prog w σ2 x y Q) :
    EvE prog w Bs k env (.BinOp l .Add r pos) m σ Q := fun A g s Qc Ec hA hB R hQ =>
  wpAny_BinOp (Ev.two (Qc := fun c d s₂ => wpAny (model prog w) A (binaryOp .Add c d) Qc Ec s₂) h (fun t r => r.mono t) hA hB R fun c d x y σ' h' tk hq R' rx ry t =>
    hq A g env.locals m { s with heap := h', toks := tk } c d Qc Ec R' rx ry fun cv v σ2 h2 tk2 q R2 r2 t2 => hQ cv v σ2 h2 tk2 q R2 r2 (t.trans t2))
variable (Bs mg mb) in
/-- a constant of the text -/
structure GIs (x : Str) (v : V) : Prop where
  ctx : Ctx Bs mg mb
  val : ∃ cv, mg x = some cv ∧ VR Bs cv v
theorem ev_gname {v : V} {x : Str} {p : Pos} {Q : V → St → Prop} (B : GIs Bs mg mb x v) (h : Q v σ)
    (hg : env.globals = mainGlobals := by rfl) (hk : env.scope.kind = .function := by rfl) (hx : env.kindOf x = some .globalImplicit := by rfl) (hd : (x == ("__debug__" : Str)) = false := by decide) : EvE prog w Bs k env (.Name x p) m σ Q := by
  obtain ⟨cv, h1, h2⟩ := B.val
  exact ev_global (hg ▸ B.ctx.g) h1 h2 h hk hx hd
/-- ways that meet behind a statement -/
theorem evs_join {α : Type} {st : Stmt} {rest : List Stmt} {Q : Fl → Env' → St → Prop} (P : α → Prop) (mm : α → Env') (ss : α → St)
    (h1 : EvX prog w Bs k env st m σ fun f m' σ' => f = .next ∧ ∃ y, P y ∧ leE (mm y) m' ∧ SubP (ss y) σ') (h2 : ∀ y, P y → EvS prog w Bs k env rest (mm y) (ss y) Q) : EvS prog w Bs k env (st :: rest) m σ Q :=
  evs_cons (h1.mono fun f m' σ' ⟨e, y, hp, hm, hs⟩ => by subst e; exact EvSt.le hm (EvSt.subP hs (h2 y hp)))
theorem mul_ok {a b : Int} (h0 : 0 ≤ a) (h1 : a < 1000000) : IntMulOk a b := .of_left (by
  obtain ⟨n, rfl⟩ : ∃ n : Nat, a = n := ⟨a.toNat, by omega⟩
  unfold Builtin.Int.intBits
  split
  · omega
  · rename_i hn
    have h2 : n ≠ 0 := fun e => hn (by rw [e]; rfl)
    have : (n : Int).natAbs.log2 < 63 := (Nat.log2_lt (by simpa using h2)).mpr (by simp; omega)
    omega)
/-- the loop by an invariant over what was walked -/
theorem forB_inv {bnd : Env' → V → Env'} {body : List Stmt} {need : St → Prop} {Q : Fl → Env' → St → Prop} (Inv : List V → Env' → St → Prop) {vs : List V}
    (step : ∀ pre v post m σ, vs = pre ++ v :: post → Inv pre m σ → EvS prog w Bs k env body (bnd m v) σ fun f m' σ' => match f with
      | .brk => Q .next m' σ'
      | .ret u => Q (.ret u) m' σ'
      | _ => ∃ m1 σ1, leE m1 m' ∧ SubP σ1 σ' ∧ need σ1 ∧ Inv (pre ++ [v]) m1 σ1)
    (done : ∀ m1 σ1 m σ, leE m1 m → SubP σ1 σ → Inv vs m1 σ1 → Q .next m σ)
    {m1 : Env'} {σ1 : St} (hm : leE m1 m) (hs : SubP σ1 σ) (h0 : Inv [] m1 σ1)
    (mono : ∀ v m1 m, (∀ x u, m1.lookup x = some u → m.lookup x = some u) → (∀ x u, (bnd m1 v).lookup x = some u → (bnd m v).lookup x = some u)) (hn : ∀ σ1 σ, SubP σ1 σ → need σ1 → need σ) : ForB prog w Bs k env bnd body need Q vs m σ := by
  have key : ∀ (post pre : List V) (m1 : Env') (σ1 : St) (m : Env') (σ : St), vs = pre ++ post → leE m1 m → SubP σ1 σ → Inv pre m1 σ1 → ForB prog w Bs k env bnd body need Q post m σ := by
    intro post
    induction post with
    | nil =>
      intro pre m1 σ1 m σ e hm hs hi
      rw [List.append_nil] at e; subst e
      exact done m1 σ1 m σ hm hs hi
    | cons v post ih =>
      intro pre m1 σ1 m σ e hm hs hi
      refine EvSt.weakEnv (mono v m1 m hm.get) (EvSt.subP hs ((step pre v post m1 σ1 e hi).mono fun f m' σ' hq => ?_))
      have nx : (∃ m1 σ1, leE m1 m' ∧ SubP σ1 σ' ∧ need σ1 ∧ Inv (pre ++ [v]) m1 σ1) → need σ' ∧ ForB prog w Bs k env bnd body need Q post m' σ' := by
        rintro ⟨m2, σ2, h1, h2, h3, h4⟩
        exact ⟨hn _ _ h2 h3, ih (pre ++ [v]) m2 σ2 m' σ' (by rw [e]; simp) h1 h2 h4⟩
      cases f with
      | next => exact nx hq
      | cont => exact nx hq
      | brk => exact hq
      | ret u => exact hq
  exact key vs [] m1 σ1 m σ rfl hm hs h0
theorem mset_mono {x : Str} (v : V) (m1 m : Env') (h : ∀ y u, m1.lookup y = some u → m.lookup y = some u) : ∀ y u, (mset m1 x v).lookup y = some u → (mset m x v).lookup y = some u := fun y u e => by
  rw [lookup_mset] at e ⊢
  cases q : y == x with
  | true => rw [q] at e; simpa using e
  | false => rw [q] at e; simpa using h y u (by simpa using e)
/-- for x in a list of the ledger -/
theorem evx_for_list {x : Str} {px pos : Pos} {iter : Expr} {body : List Stmt} {Q : Fl → Env' → St → Prop}
    (h : EvE prog w Bs k env iter m σ fun v σ1 => ∃ a ob vs, v = .ref a ∧ (a, ob) ∈ σ1 ∧ ob.peel = .list vs ∧ ∃ (Inv : List V → Env' → St → Prop) (m1 : Env') (σ2 : St), leE m1 m ∧ SubP σ2 σ1 ∧ Inv [] m1 σ2 ∧
      (∀ pre v post m σ, vs = pre ++ v :: post → Inv pre m σ → EvS prog w Bs k env body (mset m x v) σ fun f m' σ' => match f with
        | .brk => Q .next m' σ'
        | .ret u => Q (.ret u) m' σ'
        | _ => ∃ m1 σ1, leE m1 m' ∧ SubP σ1 σ' ∧ (a, ob) ∈ σ1 ∧ Inv (pre ++ [v]) m1 σ1) ∧
      (∀ m1 σ1 m σ, leE m1 m → SubP σ1 σ → Inv vs m1 σ1 → Q .next m σ))
    (hl : env.kindOf x = some .local := by rfl) (hk : env.scope.kind = .function := by rfl) (hs : ∀ x, foldedSetIterable iter env x = pure x := by intro _; rfl) :
    EvX prog w Bs k env (.For (.Name x px) iter body [] pos) m σ Q :=
  evx_for (h.mono fun v σ1 ⟨a, ob, vs, e, hm, hl, Inv, m1, σ2, i1, i2, i3, step, done⟩ => e ▸ its_list hm hl (forB_inv Inv step done i1 i2 i3 mset_mono fun _ _ s h => s.subset h)) hl hk hs
/-- for x in range(n) -/
theorem evx_for_range {x : Str} {px pos : Pos} {iter : Expr} {body : List Stmt} {Q : Fl → Env' → St → Prop}
    (h : EvE prog w Bs k env iter m σ fun v σ1 => ∃ r b t u y σ0 n, v = .ref r ∧ σ1 = (r, .obj (rngO 0 b t u y)) :: σ0 ∧ b = ((n : Nat) : Int) ∧ b < 2 ^ 62 ∧ ∃ (Inv : Nat → Env' → St → Prop) (m1 : Env') (σ2 : St), leE m1 m ∧ SubP σ2 σ0 ∧ Inv 0 m1 σ2 ∧
      (∀ (i : Nat) m σ, i < n → Inv i m σ → EvS prog w Bs k env body (mset m x (.int (i : Int))) σ fun f m' σ' => match f with
        | .brk => Q .next m' σ'
        | .ret u => Q (.ret u) m' σ'
        | _ => ∃ m1 σ1, leE m1 m' ∧ SubP σ1 σ' ∧ Inv (i + 1) m1 σ1) ∧
      (∀ m1 σ1 m σ, leE m1 m → SubP σ1 σ → Inv n m1 σ1 → Q .next m σ))
    (hl : env.kindOf x = some .local := by rfl) (hk : env.scope.kind = .function := by rfl) (hs : ∀ x, foldedSetIterable iter env x = pure x := by intro _; rfl) :
    EvX prog w Bs k env (.For (.Name x px) iter body [] pos) m σ Q :=
  evx_for (h.mono fun v σ1 hh => by
    obtain ⟨r, b, t, u, y, σ0, n, rfl, es, hb, hb2, Inv, m1, σ2, i1, i2, i3, step, done⟩ := hh
    refine its_range n hb hb2 es ?_
    refine forB_inv (fun pre => Inv pre.length) ?_ (fun m1 σ1 m σ h1 h2 h3 => done m1 σ1 m σ h1 h2 (by simpa [rngV_length] using h3)) i1 i2 i3 mset_mono fun _ _ _ _ => trivial
    intro pre v post m σ e hi
    have hv : (rngV 0 n)[pre.length]? = some v := by rw [e]; simp
    obtain ⟨hlt, rfl⟩ := rngV_get hv
    have st := step pre.length m σ hlt hi
    rw [show (0 : Int) + (pre.length : Int) = (pre.length : Int) by omega]
    refine EvSt.mono st fun f m' σ' hq => ?_
    have nx : (∃ m1 σ1, leE m1 m' ∧ SubP σ1 σ' ∧ Inv (pre.length + 1) m1 σ1) → ∃ m1 σ1, leE m1 m' ∧ SubP σ1 σ' ∧ True ∧ Inv (pre ++ [V.int (pre.length : Int)]).length m1 σ1 := by
      rintro ⟨m2, σ2, h1, h2, h3⟩
      exact ⟨m2, σ2, h1, h2, trivial, by simpa using h3⟩
    cases f with
    | next => exact nx hq
    | cont => exact nx hq
    | brk => exact hq
    | ret u => exact hq) hl hk hs
end
end Mine

set_option Elab.async false
set_option linter.unusedVariables false
set_option maxRecDepth 100000
namespace Mine
open PySem PyProof.Rows PySem.Calls PySem.W PySem.Spec

theorem filter_tt {α : Type} (l : List α) : (l.filter fun _ => true) = l := List.filter_eq_self.mpr fun _ _ => rfl
abbrev PS := List (Str × Int)
/-- a dict of str to int -/
def kvI (ps : PS) : KV := ps.map fun p => (p.1, V.int p.2)
def keys (ps : PS) : List Str := ps.map (·.1)
def sans (ps : PS) (x : Str) : PS := ps.filter fun p => decide (p.1 ≠ x)
theorem kvI_length (ps : PS) : (kvI ps).length = ps.length := by simp [kvI]
theorem kvI_lookup : ∀ (ps : PS) (x : Str), (kvI ps).lookup x = (ps.lookup x).map V.int
  | [], x => rfl
  | (y, i) :: r, x => by
    have ih := kvI_lookup r x
    simp only [kvI, List.map_cons, List.lookup_cons] at ih ⊢
    cases x == y with
    | true => rfl
    | false => exact ih
theorem kvI_ddel (ps : PS) (x : Str) : ddel (kvI ps) x = kvI (sans ps x) := by
  simp only [ddel, kvI, sans, List.filter_map]; rfl
theorem kvI_append (ps qs : PS) : kvI (ps ++ qs) = kvI ps ++ kvI qs := by simp [kvI]
theorem kvI_items (ps : PS) : ((kvI ps).map fun p => V.tup [.str p.1, p.2]) = ps.map kvV := by simp [kvI, kvV]
theorem kvI_keys (ps : PS) : ((kvI ps).map fun p => V.str p.1) = (keys ps).map V.str := by simp [kvI, keys]
theorem sans_length_le (ps : PS) (x : Str) : (sans ps x).length ≤ ps.length := List.length_filter_le ..
theorem sans_mem {ps : PS} {x : Str} {p : Str × Int} (h : p ∈ sans ps x) : p ∈ ps ∧ p.1 ≠ x := by
  simpa [sans] using h
theorem lookup_none_iff : ∀ {ps : PS} {x : Str}, ps.lookup x = none ↔ x ∉ keys ps
  | [], x => by simp [keys]
  | (y, i) :: r, x => by
    have ih := lookup_none_iff (ps := r) (x := x)
    rw [List.lookup_cons]
    cases q : x == y with
    | true => have := eq_of_beq q; subst this; simp [keys]
    | false =>
      have : x ≠ y := by simpa using q
      simp only [keys, List.map_cons, List.mem_cons, not_or] at ih ⊢
      rw [ih]
      exact ⟨fun h => ⟨this, h⟩, fun h => h.2⟩
theorem sans_none {ps : PS} {x : Str} (h : ps.lookup x = none) : sans ps x = ps := by
  unfold sans
  refine List.filter_eq_self.mpr fun p hp => decide_eq_true fun e => ?_
  exact lookup_none_iff.mp h (by rw [← e]; exact List.mem_map_of_mem (f := (·.1)) hp)
theorem same_none {ps : PS} {x : Str} (h : ps.lookup x = none) : ps.filter (fun p => decide (p.1 = x)) = [] := by
  refine List.filter_eq_nil_iff.mpr fun p hp => ?_
  simp only [decide_eq_true_eq]
  intro e
  exact lookup_none_iff.mp h (by rw [← e]; exact List.mem_map_of_mem (f := (·.1)) hp)
theorem same_some : ∀ {ps : PS} {x : Str} {v : Int}, (keys ps).Nodup → ps.lookup x = some v → ps.filter (fun p => decide (p.1 = x)) = [(x, v)]
  | (y, i) :: r, x, v, nd, h => by
    rw [List.lookup_cons] at h
    have nd' := List.nodup_cons.mp nd
    cases q : x == y with
    | true =>
      rw [q] at h; cases h
      have := eq_of_beq q; subst this
      have : r.lookup x = none := lookup_none_iff.mpr nd'.1
      rw [List.filter_cons_of_pos (by simp), same_none this]
    | false =>
      rw [q] at h
      have : x ≠ y := by simpa using q
      rw [List.filter_cons_of_neg (by simpa using fun e => this e.symm)]
      exact same_some nd'.2 h
theorem keys_sans {ps : PS} {x : Str} (nd : (keys ps).Nodup) : (keys (sans ps x)).Nodup := nd.sublist ((List.filter_sublist).map _)
theorem keys_sans_off {ps : PS} {x : Str} : x ∉ keys (sans ps x) := fun h => by
  obtain ⟨p, hp, e⟩ := List.mem_map.mp h
  exact (sans_mem hp).2 e
theorem keys_put {ps : PS} {x : Str} {v : Int} (nd : (keys ps).Nodup) : (keys (sans ps x ++ [(x, v)])).Nodup := by
  unfold keys
  rw [List.map_append]
  refine List.nodup_append.mpr ⟨keys_sans nd, by simp, fun a ha b hb e => ?_⟩
  simp at hb
  subst hb e
  exact keys_sans_off ha
theorem dput_new {kvs : KV} {x : Str} {v : V} (h : x ∉ kvs.map (·.1)) : dput kvs x v = kvs ++ [(x, v)] := by
  unfold dput
  rw [if_neg]
  intro ha
  obtain ⟨p, hp, e⟩ := List.any_eq_true.mp ha
  exact h (by rw [← of_decide_eq_true e]; exact List.mem_map_of_mem (f := (·.1)) hp)
theorem kvI_map_fst (ps : PS) : (kvI ps).map (·.1) = keys ps := by simp [kvI, keys]
theorem dmake_go : ∀ (ps acc : PS), (keys (acc ++ ps)).Nodup → (kvI ps).foldl (fun c p => dput c p.1 p.2) (kvI acc) = kvI (acc ++ ps)
  | [], acc, _ => by simp [kvI]
  | (x, i) :: r, acc, nd => by
    have nd2 : (keys (acc ++ [(x, i)] ++ r)).Nodup := by simpa using nd
    have hx : x ∉ keys acc := by
      unfold keys at nd
      rw [List.map_append] at nd
      exact fun h => (List.nodup_append.mp nd).2.2 _ h x (by simp) rfl
    show List.foldl _ (dput (kvI acc) x (.int i)) (kvI r) = _
    rw [dput_new (by rw [kvI_map_fst]; exact hx)]
    have := dmake_go r (acc ++ [(x, i)]) nd2
    rw [kvI_append] at this
    rw [show kvI acc ++ [(x, V.int i)] = kvI acc ++ kvI [(x, i)] from rfl, this]
    simp
theorem dmake_nodup {ps : PS} (nd : (keys ps).Nodup) : dmake (kvI ps) = kvI ps := by
  exact dmake_go ps [] nd
theorem kv_ok {ps : PS} (h : ∀ p ∈ ps, PyData.strOk p.1 = true) : kqdOk 9 (.list (ps.map kvD)) = true := by
  simp only [kqdOk, List.all_eq_true, List.mem_map]
  rintro d ⟨p, hp, rfl⟩
  simp [kvD, kqdOk, h p hp]

/-- what cache_put drops and keeps -/
def putD (ps : PS) (x : Str) (cap : Int) : Str × PS :=
  if (ps.lookup x).isSome then ("", sans ps x) else if cap ≤ (ps.length : Int) then ((keys ps).headD "", ps.tail) else ("", ps)
theorem Up.mid {a : Addr} {o o' : O} (o1 : O) : ∀ {l l' : St}, Up a o o' l l' → ∃ l1, Up a o o1 l l1 ∧ Up a o1 o' l1 l'
  | _, _, .head => ⟨_, .head, .head⟩
  | _, _, .tail u => let ⟨_, x, y⟩ := u.mid o1; ⟨_, .tail x, .tail y⟩
theorem dput_ddel (kvs : KV) (x : Str) (v : V) : dput (ddel kvs x) x v = ddel kvs x ++ [(x, v)] := by
  unfold dput
  rw [if_neg]
  simp [ddel]
theorem SubP.more : ∀ {l' l : St} (p : Addr × O), SubP l' l → SubP l' (p :: l)
  | _, _, _, .nil => .nil
  | _, _, p, .cons t s => .cons (.tail t) (s.more p)
theorem SubP.of_tail {p : Addr × O} (l : St) : SubP l (p :: l) := (SubP.refl l).more p
theorem nodup_map_on {α β : Type} {f : α → β} {l : List α} (h : ∀ x ∈ l, ∀ y ∈ l, f x = f y → x = y) (nd : l.Nodup) : (l.map f).Nodup :=
  List.pairwise_map.mpr (List.Pairwise.imp_of_mem (fun ha hb hne e => hne (h _ ha _ hb e)) nd)
theorem sans_lt {ps : PS} {x : Str} {v : Int} (nd : (keys ps).Nodup) (h : ps.lookup x = some v) : (sans ps x).length + 1 = ps.length := by
  have h1 := same_some nd h
  have h2 : ∀ (l : PS), (sans l x).length + (l.filter fun p => decide (p.1 = x)).length = l.length := by
    intro l
    induction l with
    | nil => rfl
    | cons p l ih =>
      by_cases hp : p.1 = x
      · simp [sans, hp] at ih ⊢; omega
      · simp [sans, hp] at ih ⊢; omega
  have := h2 ps
  rw [h1] at this
  simpa using this
theorem kvV_inj {a b : Str × Int} (h : kvV a = kvV b) : a = b := by
  obtain ⟨a1, a2⟩ := a; obtain ⟨b1, b2⟩ := b
  simp [kvV] at h; simp [h]
theorem kvVs_inj {ps qs : PS} (h : ps.map kvV = qs.map kvV) : ps = qs := by
  induction ps generalizing qs with
  | nil => cases qs with
    | nil => rfl
    | cons _ _ => simp at h
  | cons a l1 ih => cases qs with
    | nil => simp at h
    | cons b qs =>
      simp only [List.map_cons, List.cons.injEq] at h
      rw [ih h.2, kvV_inj h.1]
theorem map_split {ps qs : PS} {v : V} {post : List V} (e : ps.map kvV = qs.map kvV ++ v :: post) : ∃ q qs2, v = kvV q ∧ post = qs2.map kvV ∧ ps = qs ++ q :: qs2 := by
  obtain ⟨l1, l2, rfl, h1, h2⟩ := List.map_eq_append_iff.mp e
  obtain ⟨q, l3, rfl, rfl, rfl⟩ := List.map_eq_cons_iff.mp h2
  exact ⟨q, l3, rfl, rfl, by rw [kvVs_inj h1]⟩

theorem putD_eq {ps : PS} {x : Str} {cap : Int} (nd : (keys ps).Nodup) (hle : (ps.length : Int) ≤ cap) : putD ps x cap = if ((sans ps x).length : Int) = cap then ((keys (sans ps x)).headD "", (sans ps x).tail) else ("", sans ps x) := by
  unfold putD
  cases hv : ps.lookup x with
  | some v =>
    have := sans_lt nd hv
    rw [if_pos (show (some v).isSome = true from rfl), if_neg (by omega)]
  | none =>
    rw [sans_none hv]
    simp only [Option.isSome_none, Bool.false_eq_true, if_false]
    by_cases h : (ps.length : Int) = cap
    · rw [if_pos h, if_pos (by omega)]
    · rw [if_neg h, if_neg (by omega)]
/-- the script's cell, 0 beyond its end -/
def cz (ns : List Int) (i : Nat) : Int := ns.getD i 0
theorem cz_in {ns : List Int} {i : Nat} (h : i < ns.length) : (ns.map V.int)[i]? = some (.int (cz ns i)) := by simp [cz, h]
theorem cz_out {ns : List Int} {i : Nat} (h : ¬ i < ns.length) : cz ns i = 0 := by simp [cz, List.getD, List.getElem?_eq_none (by omega : ns.length ≤ i)]

theorem dput_lookup (kvs : KV) (x : Str) (v : V) (y : Str) : (dput kvs x v).lookup y = if y == x then some v else kvs.lookup y := by
  unfold dput
  cases ha : kvs.any (fun p => decide (p.1 = x)) with
  | true =>
    rw [if_pos rfl]
    induction kvs with
    | nil => simp at ha
    | cons p r ih =>
      obtain ⟨z, u⟩ := p
      simp only [List.map_cons]
      by_cases hz : z = x
      · subst hz
        rw [if_pos rfl, List.lookup_cons]
        cases q : y == z with
        | true => simp
        | false =>
          simp only [Bool.false_eq_true, if_false, List.lookup_cons, q]
          clear ih ha
          induction r with
          | nil => rfl
          | cons p r ih =>
            obtain ⟨z', u'⟩ := p
            simp only [List.map_cons]
            by_cases hz' : z' = z
            · subst hz'
              rw [if_pos rfl, List.lookup_cons, q, List.lookup_cons, q]
              exact ih
            · rw [if_neg hz', List.lookup_cons, List.lookup_cons]
              cases y == z' with
              | true => rfl
              | false => exact ih
      · rw [if_neg hz]
        simp only [List.any_cons, Bool.or_eq_true, decide_eq_true_eq, hz, false_or] at ha
        rw [List.lookup_cons]
        cases q : y == z with
        | true =>
          have hy : y = z := eq_of_beq q
          have : (y == x) = false := by rw [hy]; simpa using hz
          simp [this, List.lookup_cons, q]
        | false =>
          simp only [List.lookup_cons, q]
          exact ih ha
  | false =>
    rw [if_neg (by simp)]
    induction kvs with
    | nil => simp only [List.nil_append, List.lookup_cons, List.lookup_nil]; cases y == x <;> rfl
    | cons p r ih =>
      obtain ⟨z, u⟩ := p
      simp only [List.any_cons, Bool.or_eq_false_iff, decide_eq_false_iff_not] at ha
      simp only [List.cons_append, List.lookup_cons]
      cases q : y == z with
      | true =>
        have hy : y = z := eq_of_beq q
        have : (y == x) = false := by rw [hy]; simpa using ha.1
        simp [this]
      | false => exact ih ha.2
theorem dput_length (kvs : KV) (x : Str) (v : V) : (dput kvs x v).length ≤ kvs.length + 1 := by
  unfold dput
  split <;> simp
theorem keys_sans_eq (ps : PS) (x : Str) : keys (sans ps x) = (keys ps).filter fun y => decide (y ≠ x) := by
  simp only [keys, sans, List.filter_map]; rfl
theorem mem_keys_iff {ps : PS} {x : Str} : x ∈ keys ps ↔ (ps.lookup x).isSome = true := by
  cases h : ps.lookup x with
  | none => simp [lookup_none_iff.mp h]
  | some v =>
    simp only [Option.isSome_some, iff_true]
    exact Classical.byContradiction fun hn => by rw [lookup_none_iff.mpr hn] at h; cases h
theorem lookup_mem : ∀ {ps : PS} {x : Str} {v : Int}, ps.lookup x = some v → (x, v) ∈ ps
  | (y, i) :: r, x, v, h => by
    rw [List.lookup_cons] at h
    cases q : x == y with
    | true => rw [q] at h; cases h; rw [eq_of_beq q]; exact .head _
    | false => rw [q] at h; exact .tail _ (lookup_mem h)

section
variable {prog : Program} {w : World} {Bs : Heap} {k : Nat} {env : Env} {m : Env'} {σ : St} {g h : Heap} {a b d : Addr} {oa ob : O} {ps qs : PS}
theorem cmp_ne_kv (ma : (a, oa) ∈ σ) (la : oa.peel = .list (ps.map kvV)) (mb : (b, ob) ∈ σ) (lb : ob.peel = .list (qs.map kvV)) (ha : ∀ p ∈ ps, PyData.strOk p.1 = true) (hb : ∀ p ∈ qs, PyData.strOk p.1 = true) :
    CmpG prog w σ .NotEq (.ref a) (.ref b) (!decide (ps = qs)) :=
  cmp_neD (.list ma la (dvs_kv _)) (.list mb lb (dvs_kv _)) (kv_ok ha) (kv_ok hb) (by
    rw [decide_eq_true_eq]
    constructor
    · rintro rfl; rfl
    · intro e; injection e with e; exact kvDs_inj e)
theorem cmp_eq_kv (ma : (a, oa) ∈ σ) (la : oa.peel = .list (ps.map kvV)) (mb : (b, ob) ∈ σ) (lb : ob.peel = .list (qs.map kvV)) (ha : ∀ p ∈ ps, PyData.strOk p.1 = true) (hb : ∀ p ∈ qs, PyData.strOk p.1 = true) :
    CmpG prog w σ .Eq (.ref a) (.ref b) (decide (ps = qs)) :=
  cmp_eqD (.list ma la (dvs_kv _)) (.list mb lb (dvs_kv _)) (kv_ok ha) (kv_ok hb) (by
    rw [decide_eq_true_eq]
    constructor
    · rintro rfl; rfl
    · intro e; injection e with e; exact kvDs_inj e)
theorem bf_dict_kv {Q : V → St → Prop} (hm : (a, ob) ∈ σ) (hl : ob.peel = .list (ps.map kvV)) (hz : ps.length ≤ 10000) (nd : (keys ps).Nodup) (hq : ∀ c, Q (.ref c) ((c, .dict (kvI ps)) :: σ)) : EvF prog w Bs k (.type "dict") [.ref a] σ Q :=
  bf_dict_pairs (ps := kvI ps) hm (by rw [hl, kvI_items]) (len_ok (by rw [kvI_length]; exact hz)) (by rw [dmake_nodup nd]; exact hq)
theorem bf_list_items_kv {r : Addr} {σ' : St} {Q : V → St → Prop} (hs : σ = (r, .obj (viewO "dict_items" d)) :: σ') (hm : (d, ob) ∈ σ') (hl : ob.peel = .dict (kvI ps)) (hz : ps.length ≤ 10000) (hq : ∀ c, Q (.ref c) ((c, .list (ps.map kvV)) :: σ')) :
    EvF prog w Bs k (.type "list") [.ref r] σ Q :=
  bf_list_items hs hm hl (len_ok (by rw [kvI_length]; exact hz)) (by rw [kvI_items]; exact hq)
end
end Mine

set_option Elab.async false
set_option linter.unusedVariables false
set_option maxRecDepth 100000
namespace Mine
open PySem PyProof.Rows PySem.Calls PySem.W PySem.Spec

section
variable {prog p : Program} {w : World} {h : Heap} {l : Addr} {cvs : List Value} {n : Nat} {mg mb : Str → Option Value} {loose : List Str} {mean : ExcName → Option Value}
theorem mask_but {b : Addr} {o : Obj} (ho : h.get? l = some (lstO cvs n)) (hb : h.get? b = some o) (hd : ∀ c k, o.data ≠ .seq c k) : (mask h [l]).get? b = some o := by
  rw [mask_out]
  · exact hb
  · intro hm
    rw [List.mem_singleton.mp hm, ho] at hb
    cases hb
    exact hd _ _ rfl
theorem ns_mask {a : Addr} {m : Str → Option Value} (ho : h.get? l = some (lstO cvs n)) (x : h.Ns a m) : (mask h [l]).Ns a m := by
  obtain ⟨o, es, ep, h1, h2, r⟩ := x
  exact ⟨o, es, ep, mask_but ho h1 (fun c k e => by rw [h2] at e; cases e), h2, r⟩
theorem ctx_mask (ho : h.get? l = some (lstO cvs n)) (T : Top p loose mean mg mb h) : Ctx (mask h [l]) mg mb where
  g := ns_mask ho T.g
  b := ns_mask ho T.b
  lim := let ⟨mc, a, b⟩ := T.nolimit; ⟨mc, ns_mask ho a, b⟩
theorem fn_mask (ho : h.get? l = some (lstO cvs n)) (T : Top p loose mean mg mb h) {fn : Str} {d : DefRec} (hd : d ∈ recsOf p) (hn : d.name = fn) : ∃ f pm code doc, FnAt (mask h [l]) mg fn d f pm code doc := by
  obtain ⟨a, o, pm, code, doc, h1, h2, h3, c, co, vs, t, h4, h5, h6, h7⟩ := T.fn d hd
  exact ⟨a, pm, code, doc, hn, h1, ⟨o, mask_but ho h2 (fun c k e => by rw [h3] at e; cases e), h3⟩, c, co, vs, t, h4, mask_but ho h5 (fun c k e => by rw [h6] at e; cases e), h6, h7⟩
theorem bi_mask (ho : h.get? l = some (lstO cvs n)) (T : Top p loose mean mg mb h) {x : Str} {v : Value}
    (hx : x ∉ startupNames ∧ x ∉ loose ∧ x ∉ (recsOf p).map (·.name) ∧ x ∉ (litsOf p).map (·.1) ∧ x ∉ (clssOf p loose).map (·.name)) (hn : x ≠ "__name__") (hv : bootBuiltins x = some v) : BIs (mask h [l]) mg mb x v :=
  ⟨ctx_mask ho T, T.free x hx.1 hx.2.1 hx.2.2.1 hx.2.2.2.1 hx.2.2.2.2, (T.builtins x hn).trans hv⟩
theorem ints_vr : ∀ {vs : List Value} {ns : List Int}, IntsAre vs ns → VRs h vs (ns.map .int)
  | _, _, .nil => .nil
  | _, _, .cons _ _ r => .cons (.int ..) (ints_vr r)
theorem low_of (ho : h.get? l = some (lstO cvs n)) (T : Top p loose mean mg mb h) (hs : (l == sysModules) = false) : cStatics < l := by
  have off : ∀ {a : Addr} {m : Str → Option Value}, h.Ns a m → l ≠ a := fun {a m} x e => by
    obtain ⟨o, es, ep, h1, h2, _⟩ := x
    rw [← e, ho] at h1; cases h1; cases h2
  have h0 : l ≠ 0 := off T.b
  have h2 : l ≠ 2 := let ⟨mc, a, b⟩ := T.nolimit; off a
  have h1 : l ≠ 1 := fun e => by subst e; simp [sysModules] at hs
  show (2 : Nat) < l
  have h0' : (l : Nat) ≠ 0 := h0
  have h1' : (l : Nat) ≠ 1 := h1
  have h2' : (l : Nat) ≠ 2 := h2
  exact Nat.lt_of_le_of_ne (Nat.lt_of_le_of_ne (Nat.lt_of_le_of_ne (Nat.zero_le _) h0'.symm) h1'.symm) h2'.symm
theorem lst_of {P : Params} {xs : List PyData} (hL : h.IsList l cvs.toArray) (w1 : Well P h (.ref l) (ofPy (.list xs))) : h.get? l = some (lstO cvs 0) := by
  obtain ⟨o1, h1, h2, n, h3⟩ := hL
  rw [show ofPy (.list xs) = .list (ofPys xs) from by simp [ofPy]] at w1
  cases w1 with
  | list ho _ =>
    rw [ho] at h1
    cases h1
    have := (Data.seq.inj h3).1
    rw [ho, this]
theorem sys_of {xs : List PyData} {bs cs : List Addr} (r : Reads h (.ref l) (.list xs) bs) (hlo : ∀ a ∈ bs ++ cs, (a == sysModules) = false) : (l == sysModules) = false := by
  cases r
  exact hlo _ (List.mem_append_left _ (.head _))
theorem lit_mask {K : Frag} {lc : List Value} {ln : Nat} (KX : K.In h) (hg : h.Ns mainGlobals mg) (ho : h.get? l = some (lstO lc ln)) {x : Str} {a : Addr} {cvs : List Value} {n : Nat} {vs : List V}
    (e1 : nsIn K mainGlobals x = some (some (.ref a))) (e2 : K.lookup a = some (tupO cvs n)) (r : ∀ h, VRs h cvs vs) : ∃ v, mg x = some v ∧ VR (mask h [l]) v (.tup vs) := by
  refine ⟨.ref a, mg_of KX hg e1, .tup (cvs := cvs) (n := n) ?_ (r _)⟩
  have := KX _ _ e2
  rw [mask_out]
  · exact this
  · intro hm
    rw [List.mem_singleton.mp hm, ho] at this
    exact absurd (Value.type.inj (congrArg Obj.cls (Option.some.inj this))) (by decide)
/-- from the walk to the row's goal -/
theorem law_glue {c : ClaimW} {cl : Str → Option Addr} {mean' : ExcName → Option Value} {args : List WData} {s₁ : Shared} {fa : Addr} {ns : List Int} (ho : s₁.heap.get? l = some (lstO cvs n)) (hI : IntsAre cvs ns) (hg : s₁.gens = #[])
    (T : Top p loose mean mg mb s₁.heap) (hs : (l == sysModules) = false)
    (hr : ∀ cls, c.raises args cls = false) (hp : c.post args (.bool true) args = true)
    (h : EvF prog w (mask s₁.heap [l]) 9 (.ref fa) [.ref l] [(l, .fix (lstO cvs n) (.list (ns.map .int)))] fun v σ' => v = .bool true ∧ σ' = [(l, .fix (lstO cvs n) (.list (ns.map .int)))]) :
    wpAny (model prog w) callerA (call (.ref fa) [.ref l]) (fun v s' => GoodWG c cl mean' args s₁ (.ok (.ret v)) s') (fun e s' => GoodWG c cl mean' args s₁ (.error e) s') s₁ := by
  refine h callerA (mask s₁.heap [l]) s₁ _ _ [.ref l] ⟨rfl, by decide, by decide +kernel⟩ (fun _ _ e => e) ⟨fun b o e => mask_sub e, by simp, fun q hq => ?_, ?_, fun q hq => ?_⟩ (.cons (.ref _) .nil) fun cv v σ' h' tk hq R' r t => ?_
  · rw [List.mem_singleton.mp hq]
    exact ⟨mask_in (.head _), _, ho, rfl, cvs, n, rfl, ints_vr hI⟩
  · obtain ⟨mc, ⟨o, es, ep, h1, h2, _⟩, b⟩ := T.nolimit
    exact ⟨o, mask_but ho h1 (fun c k e => by rw [h2] at e; cases e)⟩
  · rw [List.mem_singleton.mp hq]
    exact low_of ho T hs
  · obtain ⟨rfl, rfl⟩ := hq
    cases r
    refine GoodW.toG ⟨.inl ⟨_, .bool true, [], rfl, hr, .bool true, hp, fun _ => ⟨by simp, fun a ha => by cases ha⟩⟩, fun b o e => ?_, rfl, hg⟩
    by_cases hb : b = l
    · subst hb
      obtain ⟨_, o', ho', e', _⟩ := R'.own _ (.head _)
      rw [ho] at e; cases e
      have e2 : o' = lstO cvs n := e'
      rw [e2] at ho'
      exact ho'
    · exact R'.keep b o (by rw [mask_out (by simpa using hb)]; exact e)
end
end Mine

set_option Elab.async false
set_option linter.unusedVariables false
set_option maxRecDepth 100000
namespace Mine
open PySem PyProof.Rows PySem.Calls PySem.W PySem.Spec

section
variable {prog : Program} {w : World} {Bs : Heap} {k : Nat} {env : Env} {m : Env'} {σ : St} {g g' h h' : Heap} {L a : Addr} {ob : O} {vs : List V}

/-- back into a frame that was laid by -/
theorem Rel.back (R : Rel prog w g L m σ h) {σ' : St} (le : ∀ b o, g.get? b = some o → g'.get? b = some o) (hL : ∀ o, h.get? L = some o → g'.get? L = some o) (R' : RH prog w g' σ' h') (tk : TK h h') : Rel prog w g L m σ' h' := by
  obtain ⟨mc, hn, hv⟩ := R.ns
  refine ⟨R'.less R.rh.st le, ⟨mc, ?_, fun x v e => let ⟨cv, a, b⟩ := hv x v e; ⟨cv, a, b.mono tk⟩⟩, fun p hp e => ?_⟩
  · obtain ⟨o, es, ep, ho, r⟩ := hn
    exact ⟨o, es, ep, R'.keep _ _ (hL o ho), r⟩
  · obtain ⟨o, ho⟩ := R.lt
    have := (R'.own p hp).1
    rw [e, hL o ho] at this; cases this

abbrev testsOf (ifs : List Expr) (env : Env) : Sem Bool := forIn ifs true fun c r => if r = true then do let ok ← isTrue c env (eval c env); pure (ForInStep.yield ok) else pure (ForInStep.yield r)
variable (prog w Bs) in
abbrev EvT (k : Nat) (env : Env) (ifs : List Expr) (m : Env') (σ : St) (Q : Bool → St → Prop) : Prop := Ev prog w Bs EqR k env.locals (testsOf ifs env) m σ Q
theorem evt_nil {Q : Bool → St → Prop} (h : Q true σ) : EvT prog w Bs k env [] m σ Q := fun A g s Qc Ec hA hB R hQ => wpAny_pure (hQ _ _ σ s.heap s.toks h R rfl (.refl _))
theorem evt_one {c : Expr} {Q : Bool → St → Prop} (h : EvB prog w Bs k env c m σ Q) : EvT prog w Bs k env [c] m σ Q := fun A g s Qc Ec hA hB R hQ => by
  unfold testsOf
  rw [List.forIn_cons]
  refine wpAny_bind ?_
  rw [if_pos rfl]
  refine wpAny_bind (h A g s _ _ hA hB R fun cv v σ' h' tk hq R' e t => wpAny_pure (wpAny_pure (hQ cv v σ' h' tk hq R' e t)))

variable (prog w Bs) in
/-- a comprehension's turns -/
def CompB (k : Nat) (env : Env) (x : Str) (ifs : List Expr) (elt : Expr) (need : St → Prop) (Q : List V → St → Prop) : List V → List V → St → Prop
  | [], acc, σ => Q acc σ
  | v :: r, acc, σ => EvT prog w Bs k env ifs [(x, v)] σ fun ok σ1 => if ok then EvE prog w Bs k env elt [(x, v)] σ1 fun u σ2 => ∃ σ3, SubP σ3 σ2 ∧ need σ3 ∧ CompB k env x ifs elt need Q r (acc ++ [u]) σ3
      else ∃ σ3, SubP σ3 σ1 ∧ need σ3 ∧ CompB k env x ifs elt need Q r acc σ3
/-- the frame of a comprehension -/
def compOk (scope : Scope) (x : Str) : Bool := decide (scope.kind = .function) && (scope.names.all fun y => decide (y.2 ≠ .cell)) && (scope.names.all fun y => decide (y.2 = .local → scope.names.lookup y.1 = some .local)) && decide (scope.names.lookup x = some .local)

theorem not_in {S : Nat → Heap → Prop} {I : Addr} {fp wr : List Addr} {need : St → Prop} (W : Iter prog w I fp wr vs need S) {i : Nat} (hst : S i h) (R : RH prog w g' σ h') (gf : ∀ b ∈ fp, ∀ o, h.get? b = some o → g'.get? b = some o) : ∀ b ∈ fp, ∀ p ∈ σ, p.1 ≠ b := fun b hb p hp e => by
  obtain ⟨o, ho⟩ := W.there _ _ hst b hb
  have := (R.own p hp).1
  rw [e, gf b hb o ho] at this; cases this
theorem comp_loop {scope : Scope} {cl : List (Str × Addr)} {x : Str} {px pos : Pos} {ifs : List Expr} {elt iter : Expr} {I C D : Addr} {fp wr : List Addr} {need : St → Prop} {S : Nat → Heap → Prop} {g0 : Heap} (W : Iter prog w I fp wr vs need S) (hsz : vs.length ≤ sizeLine)
    {A : Around} {s : Shared} {Q : List V → St → Prop} {RR : Result → Shared → Prop} (hA : AOk k A) (hB : ∀ b o, Bs.get? b = some o → g0.get? b = some o)
    (hkind : scope.kind = .function) (hx : scope.names.lookup x = some .local)
    (R : Rel prog w g0 C [] σ s.heap) (hC : g0.get? C = none) (hD : g0.get? D = none) (hDC : D ≠ C) (hDσ : ∀ p ∈ σ, p.1 ≠ D) (hDo : s.heap.get? D = some (lstO [] 0)) (hst : S 0 s.heap) (hfp : ∀ b ∈ fp, b ≠ C ∧ b ≠ D ∧ ∀ p ∈ σ, p.1 ≠ b) (hwr : ∀ b ∈ wr, g0.get? b = none) (hn : need σ)
    (h : CompB prog w Bs k (compEnvC scope cl C env) x ifs elt need Q vs [] σ)
    (hRR : ∀ acc σ' h' tk m', Q acc σ' → Rel prog w g0 C m' σ' h' → (∃ cacc n, h'.get? D = some (lstO cacc n) ∧ VRs h' cacc acc) → (∀ p ∈ σ', p.1 ≠ D) → TK s.heap h' → RR (.ok .next) { s with heap := h', toks := tk }) :
    codeAny (model prog w) A (.compLoop (.ListComp elt [⟨.Name x px, iter, ifs, 0⟩] scope pos) 0 (.ref I) (.ref D) (compEnvC scope cl C env)) RR s := by
  have hl : (compEnvC scope cl C env).kindOf x = some .local := lookup_relabel_local hx
  have hk : (compEnvC scope cl C env).scope.kind = .function := by simp [compEnvC, relabel, hkind]
  refine codeAny_compLoop_tests (fun n s' => ∃ i m σ h tk acc cacc cn, s' = { s with heap := h, toks := tk } ∧ i ≤ vs.length ∧ n = vs.length - i ∧ Rel prog w g0 C m σ h ∧ S i h ∧ (∀ b ∈ fp, b ≠ C ∧ b ≠ D ∧ ∀ p ∈ σ, p.1 ≠ b) ∧ need σ ∧
      CompB prog w Bs k (compEnvC scope cl C env) x ifs elt need Q (vs.drop i) acc σ ∧ h.get? D = some (lstO cacc cn) ∧ VRs h cacc acc ∧ acc.length ≤ i ∧ (∀ p ∈ σ, p.1 ≠ D) ∧ TK s.heap h) ?_ vs.length
      ⟨0, [], σ, s.heap, s.toks, [], [], 0, rfl, Nat.zero_le _, rfl, R, hst, hfp, hn, by simpa using h, hDo, .nil, Nat.le_refl _, hDσ, .refl _⟩
  rintro n s' ⟨i, m, σ, hh, tk, acc, cacc, cn, rfl, hi, rfl, R, hst, hfp, hn, hb, hDo, hacc, hal, hDσ, ht⟩
  by_cases hlt : i < vs.length
  · have hv : vs[i]? = some vs[i] := by simp [hlt]
    have hd : vs.drop i = vs[i] :: vs.drop (i + 1) := List.drop_eq_getElem_cons hlt
    rw [hd] at hb
    refine W.item A k g0 σ _ _ _ i _ hA R.rh hn hst hv fun cv h1 tk1 r1 st1 kp1 t1 => ?_
    have R1 := R.but kp1 (fun b hb => ⟨hwr b hb, (hfp b (W.sub b hb)).1, (hfp b (W.sub b hb)).2.2⟩) t1
    have hD1 : h1.get? D = some (lstO cacc cn) := kp1 D _ (fun hm => (hfp D (W.sub D hm)).2.1 rfl) hDo
    refine wpAny_assign_Name ?_
    obtain ⟨mc, hn1, hm1⟩ := R1.ns
    refine wpAny_storeName_local hl hn1 (fun h2 hn2 hs2 => ?_) (by rw [hk]; rfl)
    have R2 : Rel prog w g0 C (mset m x vs[i]) σ h2 := R1.store hC hn1 hm1 hn2 hs2 r1
    have t2 : TK h1 h2 := ns_tk hn1 hs2
    have hD2 : h2.get? D = some (lstO cacc cn) := (hs2.2 D hDC).trans hD1
    have st2 : S (i + 1) h2 := W.frame _ _ _ st1 (fun b hb o e => (hs2.2 b (hfp b hb).1).trans e) t2
    have le := R2.le_mask hC
    have R2e : Rel prog w g0 C [(x, vs[i])] σ h2 := R2.env fun y u e => by
      rw [List.lookup_cons] at e
      rw [lookup_mset]
      cases q : y == x with
      | true => rw [q] at e; simpa using e
      | false => rw [q] at e; simp at e
    have gin : ∀ b, b ≠ C → (∀ p ∈ σ, p.1 ≠ b) → (mask h2 (C :: σ.map (·.1))).get? b = h2.get? b := fun b hb hs => by
      rw [mask_out]
      intro hm
      rcases List.mem_cons.mp hm with e | hm
      · exact hb e
      · obtain ⟨p, hp, q⟩ := List.mem_map.mp hm
        exact hs p hp q
    refine hb A _ _ _ _ hA (fun b o e => le b o (hB b o e)) (R2e.masked hC) fun okc ok σ1 h3 tk3 hq R3 eok t3 => ?_
    subst eok
    have hD3 : h3.get? D = some (lstO cacc cn) := R3.rh.keep _ _ (by rw [gin D hDC hDσ]; exact hD2)
    have offD : ∀ {σ' : St} {h' : Heap}, RH prog w (mask h2 (C :: σ.map (·.1))) σ' h' → ∀ p ∈ σ', p.1 ≠ D := fun {σ' h'} R' p hp e => by
      have := (R'.own p hp).1
      rw [e, gin D hDC hDσ] at this
      have hD2' : h2.get? D = some (lstO cacc cn) := hD2
      rw [hD2'] at this; cases this
    have offF : ∀ {σ' : St} {h' : Heap}, RH prog w (mask h2 (C :: σ.map (·.1))) σ' h' → ∀ b ∈ fp, ∀ p ∈ σ', p.1 ≠ b := fun {σ' h'} R' =>
      not_in W st2 R' fun b hb o e => by rw [gin b (hfp b hb).1 (hfp b hb).2.2]; exact e
    have keepF : ∀ {σ' : St} {h' : Heap}, RH prog w (mask h2 (C :: σ.map (·.1))) σ' h' → ∀ b ∈ fp, ∀ o, h2.get? b = some o → h'.get? b = some o := fun {σ' h'} R' b hb o e =>
      R'.keep b o (by rw [gin b (hfp b hb).1 (hfp b hb).2.2]; exact e)
    cases okc with
    | true =>
      refine hq A _ _ _ _ hA (fun b o e => le b o (hB b o e)) R3 fun cu u σ2 h4 tk4 hq4 R4 ru t4 => ?_
      obtain ⟨σ3, sub, hn3, hb3⟩ := hq4
      have hD4 : h4.get? D = some (lstO cacc cn) := R4.rh.keep _ _ (by rw [gin D hDC hDσ]; exact hD2)
      have hacc4 : VRs h4 cacc acc := hacc.mono (t1.trans (t2.trans (t3.trans t4)))
      refine wpAny_list_append_plain (l := D) (items := cacc.toArray) ⟨cn, hD4⟩ (fun h5 hp5 hs5 => ?_) (by simp [hacc.length]; omega)
      obtain ⟨n', ho5⟩ := hp5
      have t5 : TK h4 h5 := list_tk hD4 hs5
      have R4' : Rel prog w g0 C [(x, vs[i])] σ3 h4 := (R4.less R2.rh.st le).subP sub
      have R5 : Rel prog w g0 C [(x, vs[i])] σ3 h5 := R4'.but (wr := [D]) (fun b o hb e => (hs5.2 b fun q => hb (by rw [q]; exact .head _)).trans e) (fun b hb => by
        rw [List.mem_singleton.mp hb]
        exact ⟨hD, hDC, fun p hp => offD R4.rh p (sub.subset hp)⟩) t5
      refine ⟨_, ?_, i + 1, _, σ3, h5, tk4, acc ++ [u], cacc ++ [cu], n', rfl, hlt, rfl, R5, ?_, ?_, hn3, hb3, by rw [ho5]; simp, (hacc4.append (.cons ru .nil)).mono t5, by simp; omega, fun p hp => offD R4.rh p (sub.subset hp), ht.trans (t1.trans (t2.trans (t3.trans (t4.trans t5))))⟩
      · omega
      · refine W.frame _ _ _ st2 (fun b hb o e => (hs5.2 b (hfp b hb).2.1).trans (keepF R4.rh b hb o e)) (t3.trans (t4.trans t5))
      · exact fun b hb => ⟨(hfp b hb).1, (hfp b hb).2.1, fun p hp => offF R4.rh b hb p (sub.subset hp)⟩
    | false =>
      obtain ⟨σ3, sub, hn3, hb3⟩ := hq
      refine ⟨_, ?_, i + 1, _, σ3, h3, tk3, acc, cacc, cn, rfl, hlt, rfl, (R3.less R2.rh.st le).subP sub, ?_, ?_, hn3, hb3, hD3, hacc.mono (t1.trans (t2.trans t3)), by omega, fun p hp => offD R3.rh p (sub.subset hp), ht.trans (t1.trans (t2.trans t3))⟩
      · omega
      · exact W.frame _ _ _ st2 (keepF R3.rh) t3
      · exact fun b hb => ⟨(hfp b hb).1, (hfp b hb).2.1, fun p hp => offF R3.rh b hb p (sub.subset hp)⟩
  · have e : i = vs.length := by omega
    subst e
    refine W.done A k g0 σ _ _ _ hA R.rh hn hst fun h1 tk1 kp1 t1 => ?_
    have R1 := R.but kp1 (fun b hb => ⟨hwr b hb, (hfp b (W.sub b hb)).1, (hfp b (W.sub b hb)).2.2⟩) t1
    rw [List.drop_length] at hb
    exact hRR acc σ h1 tk1 m hb R1 ⟨cacc, cn, kp1 D _ (fun hm => (hfp D (W.sub D hm)).2.1 rfl) hDo, hacc.mono t1⟩ hDσ (ht.trans t1)
theorem comp_core {scope : Scope} {cl : List (Str × Addr)} {x : Str} {px pos : Pos} {ifs : List Expr} {elt iter : Expr} {I : Addr} {fp wr : List Addr} {need : St → Prop} {S : Nat → Heap → Prop} (W : Iter prog w I fp wr vs need S) (hsz : vs.length ≤ sizeLine)
    {A : Around} {s : Shared} {E : Value → Shared → Prop} {Q : List V → St → Prop} {RR : Value → Addr → Result → Shared → Prop} (hA : AOk k A) (hB : ∀ b o, Bs.get? b = some o → g.get? b = some o)
    (hkind : scope.kind = .function) (hx : scope.names.lookup x = some .local) (hcell : ∀ y ∈ scope.names, y.2 ≠ .cell)
    (R : Rel prog w g L m σ s.heap) (hst : S 0 s.heap) (hfp : ∀ b ∈ fp, b ≠ L ∧ ∀ p ∈ σ, p.1 ≠ b) (hwr : ∀ b ∈ wr, g.get? b = none) (hn : need σ)
    (h : ∀ C, CompB prog w Bs k (compEnvC scope cl C env) x ifs elt need Q vs [] σ)
    (hRR : ∀ D C acc σ' h' tk m', Q acc σ' → Rel prog w g L m ((D, .list acc) :: σ') h' → h'.Ns C m' → g.get? C = none → C ≠ L → C ≠ D → (∀ p ∈ σ', p.1 ≠ C) → TK s.heap h' → RR (.ref D) C (.ok .next) { s with heap := h', toks := tk }) :
    wpAny (model prog w) A (newList []) (fun acc s₃ => wpAny (model prog w) A (newFunctionEnv scope env.globals cl [] env.qual none .none (some env)) (fun cenv s₄ =>
      codeAny (model prog w) A (.compStart (.ListComp elt [⟨.Name x px, iter, ifs, 0⟩] scope pos) 0 (.ref I) acc { cenv with scope := relabel scope env }) (RR acc cenv.locals) s₄) E s₃) E s := by
  refine wpAny_newObj_type (wpAny_newFunctionEnv hcell (by intro y hy; simp at hy) (fun h₁ hns₁ hsb₁ => ?_) hkind)
  dsimp only at hns₁ hsb₁ ⊢
  generalize hH2 : s.heap.push { cls := .type "list", dict := none, data := .seq ([] : List Value).toArray } = H2 at hns₁ hsb₁ ⊢
  have hCz : H2.objs.size = s.heap.objs.size + 1 := by rw [← hH2, Heap.size_push]
  generalize hDz : s.heap.objs.size = D at *
  generalize hCC : H2.objs.size = C at *
  have hDC : D ≠ C := by rw [hCz]; exact Nat.ne_of_lt (Nat.lt_succ_self _)
  have fresh : ∀ a, s.heap.objs.size ≤ a → s.heap.get? a = none := fun a ha => get_none_of_size ha
  have hDn : s.heap.get? D = none := fresh D (by rw [hDz]; exact Nat.le_refl _)
  have hCn : s.heap.get? C = none := fresh C (by rw [hDz, hCz]; exact Nat.le_succ _)
  have hH2C : H2.get? C = none := get_none_of_size (by rw [hCC]; exact Nat.le_refl _)
  have keepH : ∀ b o, H2.get? b = some o → h₁.get? b = some o := fun b o e => (hsb₁.2 b fun q => by rw [q, hH2C] at e; cases e).trans (Heap.get?_push_of_some _ e)
  have old : ∀ b o, s.heap.get? b = some o → h₁.get? b = some o := fun b o e => keepH b o (by rw [← hH2]; exact Heap.get?_push_of_some _ e)
  have hDo : h₁.get? D = some (lstO [] 0) := keepH D _ (by rw [← hH2, ← hDz]; exact Heap.get?_push_size _ rfl)
  -- what is laid by during the loop
  have gout : ∀ b, b ∉ wr ++ σ.map (·.1) → (mask s.heap (wr ++ σ.map (·.1))).get? b = s.heap.get? b := fun b hb => mask_out hb
  have gle : ∀ b o, g.get? b = some o → (mask s.heap (wr ++ σ.map (·.1))).get? b = some o := fun b o e => by
    rw [gout]
    · exact R.rh.keep b o e
    · intro hm
      rcases List.mem_append.mp hm with hm | hm
      · rw [hwr b hm] at e; cases e
      · obtain ⟨p, hp, q⟩ := List.mem_map.mp hm
        have := (R.rh.own p hp).1
        rw [q, e] at this; cases this
  have gL : ∀ o, s.heap.get? L = some o → (mask s.heap (wr ++ σ.map (·.1))).get? L = some o := fun o e => by
    rw [gout]
    · exact e
    · intro hm
      rcases List.mem_append.mp hm with hm | hm
      · exact (hfp L (W.sub L hm)).1 rfl
      · obtain ⟨p, hp, q⟩ := List.mem_map.mp hm
        exact R.offS p hp q
  have gnone : ∀ b, s.heap.get? b = none → (mask s.heap (wr ++ σ.map (·.1))).get? b = none := fun b e => by
    cases q : (mask s.heap (wr ++ σ.map (·.1))).get? b with
    | none => rfl
    | some o => rw [mask_sub q] at e; cases e
  have offD : ∀ p ∈ σ, p.1 ≠ D := fun p hp e => by obtain ⟨_, o, ho, _⟩ := R.rh.own p hp; rw [e, hDn] at ho; cases ho
  have offC : ∀ p ∈ σ, p.1 ≠ C := fun p hp e => by obtain ⟨_, o, ho, _⟩ := R.rh.own p hp; rw [e, hCn] at ho; cases ho
  have R1 : RH prog w (mask s.heap (wr ++ σ.map (·.1))) σ h₁ :=
    ⟨fun b o e => old b o (mask_sub e), R.rh.nd, fun p hp => ⟨mask_in (List.mem_append_right _ (List.mem_map_of_mem hp)), let ⟨_, o, e, r⟩ := R.rh.own p hp; ⟨o, old _ _ e, r.mono _ _ (.of_keep old)⟩⟩,
      let ⟨o, e⟩ := R.rh.st; ⟨o, gle _ _ e⟩, R.rh.low⟩
  have Rc : Rel prog w (mask s.heap (wr ++ σ.map (·.1))) C [] σ h₁ := ⟨R1, ⟨_, hns₁, fun x v e => by simp at e⟩, offC⟩
  have st1 : S 0 h₁ := W.frame _ _ _ hst (fun b _ o e => old b o e) (.of_keep old)
  have loop : ∀ s₃ : Shared, s₃ = { s with heap := h₁, toks := s.toks + ([] : List (Str × Value)).length } →
      codeAny (model prog w) A (.compLoop (.ListComp elt [⟨.Name x px, iter, ifs, 0⟩] scope pos) 0 (.ref I) (.ref D) (compEnvC scope cl C env)) (RR (.ref D) C) s₃ := by
    rintro s₃ rfl
    refine comp_loop W hsz hA (fun b o e => gle b o (hB b o e)) hkind hx Rc (gnone C hCn) (gnone D hDn) hDC offD hDo st1 ?_ (fun b hb => mask_in (List.mem_append_left _ hb)) hn (h C) ?_
    · intro b hb
      obtain ⟨o, ho⟩ := W.there _ _ hst b hb
      refine ⟨fun e => ?_, fun e => ?_, (hfp b hb).2⟩
      · rw [e, hCn] at ho; cases ho
      · rw [e, hDn] at ho; cases ho
    · intro acc σ' h' tk m' hq R' ⟨cacc, n, hD', hacc⟩ hDσ t
      have t' : TK s.heap h' := (TK.of_keep old).trans t
      have Rb : Rel prog w g L m σ' h' := R.back gle gL R'.rh t'
      have gD : g.get? D = none := by
        cases q : g.get? D with
        | none => rfl
        | some o => have := gle _ _ q; rw [gnone D hDn] at this; cases this
      have gC : g.get? C = none := by
        cases q : g.get? C with
        | none => rfl
        | some o => have := gle _ _ q; rw [gnone C hCn] at this; cases this
      have hLo : ∃ o, s.heap.get? L = some o := R.lt
      have hDL : D ≠ L := fun e => by obtain ⟨o, ho⟩ := hLo; rw [← e, hDn] at ho; cases ho
      have hCL : C ≠ L := fun e => by obtain ⟨o, ho⟩ := hLo; rw [← e, hCn] at ho; cases ho
      obtain ⟨mc, hns', _⟩ := R'.ns
      refine hRR D C acc σ' h' tk mc hq ⟨⟨Rb.rh.keep, ?_, fun p hp => ?_, Rb.rh.st, fun p hp => ?_⟩, Rb.ns, fun p hp => ?_⟩ hns' gC hCL (Ne.symm hDC) R'.offS t'
      · refine List.nodup_cons.mpr ⟨fun hm => ?_, Rb.rh.nd⟩
        obtain ⟨p, hp, e⟩ := List.mem_map.mp hm
        exact hDσ p hp e
      · rcases List.mem_cons.mp hp with rfl | hp
        · exact ⟨gD, _, hD', cacc, n, rfl, hacc⟩
        · exact Rb.rh.own p hp
      · rcases List.mem_cons.mp hp with rfl | hp
        · show cStatics < D
          rw [← hDz]; exact R.rh.big
        · exact Rb.rh.low p hp
      · rcases List.mem_cons.mp hp with rfl | hp
        · exact hDL
        · exact Rb.offS p hp
  exact codeAny_compStart_list (loop _ rfl) (W.self A 0 _ _ _ st1 (loop _ rfl))
theorem Rel.offC {C : Addr} (R : Rel prog w g L m σ h) (hs : Heap.SameBut C h h') (gC : g.get? C = none) (hC : C ≠ L) (hσ : ∀ p ∈ σ, p.1 ≠ C) {mc : Str → Option Value} (hn : h.Ns C mc) : Rel prog w g L m σ h' ∧ TK h h' := by
  have t := ns_tk hn hs
  exact ⟨R.but (wr := [C]) (fun b o hb e => (hs.2 b fun q => hb (by rw [q]; exact .head _)).trans e) (fun b hb => by rw [List.mem_singleton.mp hb]; exact ⟨gC, hC, hσ⟩) t, t⟩
theorem ev_comp {scope : Scope} {cl : List (Str × Addr)} {x : Str} {px pos : Pos} {ifs : List Expr} {elt iter : Expr} {Q : V → St → Prop} (hclos : closureFor scope env = pure cl) (hok : compOk scope x = true)
    (h : EvE prog w Bs k env iter m σ fun v σ1 => Its prog w Bs k env.locals v m σ1 fun vs need σ2 => vs.length ≤ sizeLine ∧ ∀ C, CompB prog w Bs k (compEnvC scope cl C env) x ifs elt need (fun acc σ3 => ∀ D, Q (.ref D) ((D, .list acc) :: σ3)) vs [] σ2)
    (hs : ∀ x, foldedSetIterable iter env x = pure x := by intro _; rfl) : EvE prog w Bs k env (.ListComp elt [⟨.Name x px, iter, ifs, 0⟩] scope pos) m σ Q := fun A g s Qc Ec hA hB R hQ => by
  simp only [compOk, Bool.and_eq_true, decide_eq_true_eq, List.all_eq_true] at hok
  obtain ⟨⟨⟨o1, o2⟩, o3⟩, o4⟩ := hok
  rw [eval_ListComp]
  refine wpAny_comprehension_free (use := none) rfl hs hclos o1 (fun y hy => o3 y hy) ?_
  refine h A g s _ _ hA hB R fun cv v σ1 h1 tk1 hi R1 r1 t1 => hi A g _ cv _ _ hA hB R1 r1 fun I fp wr vs need S σ' h' tk hb W st R' t' hfp hwr hn _ => ?_
  refine comp_core (RR := fun acc C => compPost (model prog w) A Ec none Qc acc C) W hb.1 hA hB o1 o4 (fun y hy => o2 y hy) R' st hfp hwr hn hb.2 ?_
  intro D C acc σ3 h3 tk3 m3 hq R3 hns gC hCL hCD hσ t3
  refine ⟨m3, hns, fun h4 hs4 => ?_⟩
  obtain ⟨R4, t4⟩ := R3.offC hs4 gC hCL (fun p hp => by
    rcases List.mem_cons.mp hp with rfl | hp
    · exact Ne.symm hCD
    · exact hσ p hp) hns
  exact hQ _ _ _ h4 tk3 (hq D) R4 (.ref _) (t1.trans (t'.trans (t3.trans t4)))
theorem evx_assign_comp {scope : Scope} {cl : List (Str × Addr)} {x y : Str} {px py pos spos : Pos} {ifs : List Expr} {elt iter : Expr} {Q : Fl → Env' → St → Prop} (hclos : closureFor scope env = pure cl) (hok : compOk scope x = true)
    (h : EvE prog w Bs k env iter m σ fun v σ1 => Its prog w Bs k env.locals v m σ1 fun vs need σ2 => vs.length ≤ sizeLine ∧ ∀ C, CompB prog w Bs k (compEnvC scope cl C env) x ifs elt need (fun acc σ3 => ∀ D, Q .next (mset m y (.ref D)) ((D, .list acc) :: σ3)) vs [] σ2)
    (hsw : swapsWith (.ListComp elt [⟨.Name x px, iter, ifs, 0⟩] scope pos) (some (.Name y py)) spos.line env = pure true := by rfl) (hl : env.kindOf y = some .local := by rfl) (hk : env.scope.kind = .function := by rfl)
    (hs : ∀ x, foldedSetIterable iter env x = pure x := by intro _; rfl) : EvX prog w Bs k env (.Assign [.Name y py] (.ListComp elt [⟨.Name x px, iter, ifs, 0⟩] scope pos) spos) m σ Q := fun A g s Qc Ec hA hB hL R hQ => by
  simp only [compOk, Bool.and_eq_true, decide_eq_true_eq, List.all_eq_true] at hok
  obtain ⟨⟨⟨o1, o2⟩, o3⟩, o4⟩ := hok
  rw [exec_Assign_Name_used _ _ _ _ hsw]
  refine wpAny_bind (wpAny_standAt (wpAny_bind ?_))
  show wpAny _ A (do let _ ← comprehension (.ListComp elt [⟨.Name x px, iter, ifs, 0⟩] scope pos) scope env _ (newList []) false (eval iter env) (some (assign (.Name y py) env))) _ _ s
  refine wpAny_bind (wpAny_mono (wpAny_comprehension_free (use := some (assign (.Name y py) env)) (Q := fun _ s' => Qc .next s') rfl hs hclos o1 (fun y hy => o3 y hy) ?_) (fun _ s' hq => wpAny_pure (wpAny_pure hq)) fun _ _ e => e)
  refine h A g s _ _ hA hB R fun cv v σ1 h1 tk1 hi R1 r1 t1 => hi A g _ cv _ _ hA hB R1 r1 fun I fp wr vs need S σ' h' tk hb W st R' t' hfp hwr hn _ => ?_
  refine comp_core (RR := fun acc C => compPost (model prog w) A Ec (some (assign (.Name y py) env)) (fun _ s' => Qc .next s') acc C) W hb.1 hA hB o1 o4 (fun y hy => o2 y hy) R' st hfp hwr hn hb.2 ?_
  intro D C acc σ3 h3 tk3 m3 hq R3 hns gC hCL hCD hσ t3
  show wpAny _ A (assign (.Name y py) env (.ref D)) _ _ _
  obtain ⟨mc, hnL, hmL⟩ := R3.ns
  refine wpAny_assign_Name (wpAny_storeName_local hl hnL (fun h4 hn4 hs4 => ?_) (by rw [hk]; rfl))
  have R4 := R3.store hL hnL hmL hn4 hs4 (.ref D)
  have t4 := ns_tk hnL hs4
  refine ⟨m3, hns.sameBut hs4 hCL, fun h5 hs5 => ?_⟩
  obtain ⟨R5, t5⟩ := R4.offC hs5 gC hCL (fun p hp => by
    rcases List.mem_cons.mp hp with rfl | hp
    · exact Ne.symm hCD
    · exact hσ p hp) (hns.sameBut hs4 hCL)
  exact hQ .next .next _ _ h5 _ (hq D) R5 .next (t1.trans (t'.trans (t3.trans (t4.trans t5))))
/-- turns that leave the objects alone -/
theorem compB_pure {α : Type} {x : Str} {ifs : List Expr} {elt : Expr} {need : St → Prop} {Q : List V → St → Prop} (f : α → V) (p : α → Bool) (u : α → V) : ∀ (xs : List α) (acc : List V),
    (∀ y ∈ xs, EvT prog w Bs k env ifs [(x, f y)] σ fun ok σ1 => ok = p y ∧ SubP σ σ1) → (∀ y ∈ xs, p y = true → EvE prog w Bs k env elt [(x, f y)] σ fun v σ1 => v = u y ∧ SubP σ σ1) → need σ → Q (acc ++ (xs.filter p).map u) σ →
    CompB prog w Bs k env x ifs elt need Q (xs.map f) acc σ
  | [], acc, _, _, _, hq => by simpa [CompB] using hq
  | y :: xs, acc, h1, h2, hn, hq => by
    simp only [List.map_cons, CompB]
    have e1 := h1 y (.head _)
    refine Ev.mono e1 fun ok σ1 ⟨e, sub⟩ => ?_
    subst e
    cases hp : p y with
    | true =>
      refine if_tt rfl ?_
      have e2 := h2 y (.head _) hp
      intro A g s Qc Ec hA hB R hQ
      refine e2 A g s Qc Ec hA hB (R.subP sub) fun cv v σ2 h' tk ⟨ev, sub2⟩ R' r t => hQ cv v σ2 h' tk ⟨σ, sub2, hn, ?_⟩ R' r t
      subst ev
      exact compB_pure f p u xs _ (fun z hz => h1 z (.tail _ hz)) (fun z hz => h2 z (.tail _ hz)) hn (by simpa [hp] using hq)
    | false =>
      refine if_ff rfl ?_
      exact ⟨σ, sub, hn, compB_pure f p u xs _ (fun z hz => h1 z (.tail _ hz)) (fun z hz => h2 z (.tail _ hz)) hn (by simpa [hp] using hq)⟩
theorem its_comp_list {α : Type} {x : Str} {ifs : List Expr} {elt : Expr} {ce : Addr → Env} {Q : List V → St → Prop} (xs : List α) (f : α → V) (p : α → Bool) (u : α → V) (hm : (a, ob) ∈ σ) (hl : ob.peel = .list (xs.map f)) (hz : xs.length ≤ 10000)
    (h1 : ∀ C, ∀ y ∈ xs, EvT prog w Bs k (ce C) ifs [(x, f y)] σ fun ok σ1 => ok = p y ∧ SubP σ σ1) (h2 : ∀ C, ∀ y ∈ xs, p y = true → EvE prog w Bs k (ce C) elt [(x, f y)] σ fun v σ1 => v = u y ∧ SubP σ σ1) (hq : Q ((xs.filter p).map u) σ) :
    Its prog w Bs k L (.ref a) m σ fun vs need σ2 => vs.length ≤ sizeLine ∧ ∀ C, CompB prog w Bs k (ce C) x ifs elt need Q vs [] σ2 :=
  its_list hm hl ⟨len_ok (by simpa using hz), fun C => compB_pure f p u xs [] (h1 C) (h2 C) hm (by simpa using hq)⟩
theorem its_comp_range {x : Str} {ifs : List Expr} {elt : Expr} {ce : Addr → Env} {Q : List V → St → Prop} {r : Addr} {b : Int} {t t' t'' : Tok} {σ' : St} (n : Nat) (p : Nat → Bool) (u : Nat → V) (hn : b = (n : Int)) (hz : n ≤ 10000) (hs : σ = (r, .obj (rngO 0 b t t' t'')) :: σ')
    (h1 : ∀ C, ∀ y, y < n → EvT prog w Bs k (ce C) ifs [(x, .int (y : Int))] σ' fun ok σ1 => ok = p y ∧ SubP σ' σ1) (h2 : ∀ C, ∀ y, y < n → p y = true → EvE prog w Bs k (ce C) elt [(x, .int (y : Int))] σ' fun v σ1 => v = u y ∧ SubP σ' σ1) (hq : Q (((List.range n).filter p).map u) σ') :
    Its prog w Bs k L (.ref r) m σ fun vs need σ2 => vs.length ≤ sizeLine ∧ ∀ C, CompB prog w Bs k (ce C) x ifs elt need Q vs [] σ2 := by
  refine its_range n hn (by omega) hs ⟨len_ok (by rw [rngV_length]; exact hz), fun C => ?_⟩
  have e : rngV 0 n = (List.range n).map fun i : Nat => V.int (i : Int) := by simp [rngV]
  rw [e]
  exact compB_pure _ p u (List.range n) [] (fun y hy => h1 C y (List.mem_range.mp hy)) (fun y hy => h2 C y (List.mem_range.mp hy)) trivial (by simpa using hq)
end
end Mine

set_option Elab.async false
set_option linter.unusedVariables false
set_option maxRecDepth 100000
namespace Mine
open PySem PyProof.Rows PySem.Calls PySem.W PySem.Spec

/-- the frames below: nobody else's, and dicts -/
def Frs (fs : List Env) (g : Heap) (σ : St) (h : Heap) : Prop := ∀ env ∈ fs, env.scope.kind ≠ .module ∧ ∃ L o es n, env.frame = some L ∧ g.get? L = none ∧ (∀ p ∈ σ, p.1 ≠ L) ∧ h.get? L = some o ∧ o.data = .dict es n
/-- the frames below are as they were, but for their slots -/
def UpS (fs : List Env) (h h' : Heap) : Prop := ∀ env ∈ fs, ∀ L, env.frame = some L → ∀ o, h.get? L = some o → ∃ sl, h'.get? L = some { o with slots := sl }
/-- an exception under way, that nobody else holds -/
def Exc (g : Heap) (σ : St) (e : Addr) (cls : String) (av : V) (h : Heap) : Prop :=
  ∃ oe vs a0, h.get? e = some oe ∧ oe.cls = .type cls ∧ oe.data = .fields vs ∧ vs[0]? = some a0 ∧ VR h a0 av ∧ g.get? e = none ∧ (∀ p ∈ σ, p.1 ≠ e) ∧
    (vs[1]? = some .none ∨ ∃ T oT ts, vs[1]? = some (.ref T) ∧ T ≠ e ∧ h.get? T = some oT ∧ oT.data = .fields ts ∧ ts[3]? = some .none ∧ g.get? T = none ∧ ∀ p ∈ σ, p.1 ≠ T)
def fAdr (fs : List Env) : List Addr := fs.filterMap (·.frame)

section
variable {prog : Program} {w : World} {Bs : Heap} {k : Nat} {env : Env} {m : Env'} {σ σ' : St} {g g' h h' h'' : Heap} {L a d e : Addr} {fs : List Env} {cls : String} {av : V}
theorem UpS.refl : UpS fs h h := fun _ _ _ _ o e => ⟨o.slots, e⟩
theorem UpS.trans (x : UpS fs h h') (y : UpS fs h' h'') : UpS fs h h'' := fun en he L hL o ho => let ⟨_, e1⟩ := x en he L hL o ho; let ⟨sl, e2⟩ := y en he L hL _ e1; ⟨sl, e2⟩
theorem UpS.of_keep (k : ∀ b o, h.get? b = some o → h'.get? b = some o) : UpS fs h h' := fun _ _ L _ o ho => ⟨o.slots, k L o ho⟩
theorem Frs.mem {b : Addr} (F : Frs fs g σ h) (hb : b ∈ fAdr fs) : g.get? b = none ∧ (∀ p ∈ σ, p.1 ≠ b) ∧ ∃ o es n, h.get? b = some o ∧ o.data = .dict es n := by
  obtain ⟨en, hen, hf⟩ := List.mem_filterMap.mp hb
  obtain ⟨_, L, o, es, n, h1, h2, h3, h4, h5⟩ := F en hen
  rw [h1] at hf; cases hf
  exact ⟨h2, h3, o, es, n, h4, h5⟩
theorem Frs.move (F : Frs fs g σ h) (u : UpS fs h h') : Frs fs g σ h' := fun en hen => by
  obtain ⟨k, L, o, es, n, h1, h2, h3, h4, h5⟩ := F en hen
  obtain ⟨sl, e⟩ := u en hen L h1 o h4
  exact ⟨k, L, _, es, n, h1, h2, h3, e, h5⟩
theorem Frs.sub (F : Frs fs g σ h) (s : ∀ p ∈ σ', p ∈ σ) : Frs fs g σ' h := fun en hen => by
  obtain ⟨k, L, o, es, n, h1, h2, h3, h4, h5⟩ := F en hen
  exact ⟨k, L, o, es, n, h1, h2, fun p hp => h3 p (s p hp), h4, h5⟩
/-- objects of a ledger that lies over a heap with the frames -/
theorem Frs.over {σ' : St} (F : Frs fs g σ h) (h0 : ∀ b ∈ fAdr fs, ∀ o, h.get? b = some o → g'.get? b = some o) (R' : RH prog w g' σ' h') : Frs fs g σ' h' := fun en hen => by
  obtain ⟨k, L, o, es, n, h1, h2, h3, h4, h5⟩ := F en hen
  have hg' := h0 L (List.mem_filterMap.mpr ⟨en, hen, h1⟩) o h4
  refine ⟨k, L, o, es, n, h1, h2, fun p hp q => ?_, R'.keep _ _ hg', h5⟩
  have := (R'.own p hp).1
  rw [q, hg'] at this; cases this

/-- what a raise does to the heap: some places S may change, and slots -/
def Moves (S : List Addr) (h h' : Heap) : Prop := (∀ b o, b ∉ S → h.get? b = some o → h'.get? b = some o) ∧ h.UpToSlots h'
theorem Moves.tk {S : List Addr} (M : Moves S h h') (hS : ∀ b ∈ S, ∀ c n, h.get? b ≠ some (tupO c n)) : TK h h' := fun a c n e => M.1 a _ (fun hm => hS a hm c n e) e
theorem RH.moves {S : List Addr} (R : RH prog w g σ h) (M : Moves S h h') (tk : TK h h') (hS : ∀ b ∈ S, g.get? b = none ∧ ∀ p ∈ σ, p.1 ≠ b) : RH prog w g σ h' :=
  ⟨fun b o e => M.1 b o (fun hm => by rw [(hS b hm).1] at e; cases e) (R.keep b o e), R.nd, fun p hp => let ⟨h1, o, h2, h3⟩ := R.own p hp; ⟨h1, o, M.1 _ _ (fun hm => (hS _ hm).2 p hp rfl) h2, h3.mono _ _ tk⟩, R.st, R.low⟩
theorem Rel.moves {S : List Addr} (R : Rel prog w g L m σ h) (M : Moves S h h') (tk : TK h h') (hS : ∀ b ∈ S, g.get? b = none ∧ ∀ p ∈ σ, p.1 ≠ b) : Rel prog w g L m σ h' := by
  obtain ⟨mc, hn, hv⟩ := R.ns
  exact ⟨R.rh.moves M tk hS, ⟨mc, M.2.ns hn, fun x v e => let ⟨cv, a, b⟩ := hv x v e; ⟨cv, a, b.mono tk⟩⟩, R.offS⟩
theorem UpS.moves {S : List Addr} (F : Frs fs g σ h) (M : Moves S h h') : UpS fs h h' := fun en hen L hL o ho => by
  obtain ⟨k, L', o', es, n, h1, h2, h3, h4, h5⟩ := F en hen
  rw [hL] at h1; cases h1
  rw [ho] at h4; cases h4
  exact M.2 L o ho fun vs q => by rw [h5] at q; cases q

/-- own frame and those below -/
theorem Rel.frs (R : Rel prog w g L m σ h) (hL : g.get? L = none) (hf : env.frame = some L) (hk : env.scope.kind = .function) (F : Frs fs g σ h) : Frs (env :: fs) g σ h := fun en hen => by
  rcases List.mem_cons.mp hen with rfl | hen
  · obtain ⟨mc, ⟨o, es, n, ho, hd, _⟩, _⟩ := R.ns
    exact ⟨by rw [hk]; decide, L, o, es, n, hf, hL, R.offS, ho, hd⟩
  · exact F en hen
theorem Frs.fun_ {S : List Addr} (F : Frs fs g σ h) (hS : ∀ b ∈ fAdr fs, b ∈ S) : h.FunFrames (mask h S) fs := by
  induction fs with
  | nil => exact trivial
  | cons en fs ih =>
    obtain ⟨k, L, o, es, n, h1, h2, h3, h4, h5⟩ := F en (.head _)
    refine ⟨k, ⟨L, o, h1, mask_in (hS L (by simp [fAdr, h1])), h4, fun vs q => by rw [h5] at q; cases q⟩, ih (fun e he => F e (.tail _ he)) fun b hb => hS b ?_⟩
    obtain ⟨e', he', hf'⟩ := List.mem_filterMap.mp hb
    exact List.mem_filterMap.mpr ⟨e', .tail _ he', hf'⟩
theorem stays_mask (S : List Addr) : (mask h S).StaysIn h := fun b o e => mask_sub e
theorem not_dict_fields {b : Addr} {o : Obj} {es n vs} (h1 : h.get? b = some o) (h2 : o.data = .dict es n) (h3 : h.get? e = some o') (h4 : o'.data = .fields vs) : b ≠ e := fun q => by
  rw [q, h3] at h1; cases h1; rw [h2] at h4; cases h4

/-- the exception after a step of its flight -/
theorem exc_after {S : List Addr} {T0 : List Addr} (R : RH prog w g σ h) (F : Frs fs g σ h) (hS : S = e :: T0 ++ fAdr fs) (hT0 : ∀ T ∈ T0, g.get? T = none ∧ ∀ p ∈ σ, p.1 ≠ T) (he : g.get? e = none ∧ ∀ p ∈ σ, p.1 ≠ e) {a0 : Value} (ht : h'.TracedW (mask h S) e (.type cls) a0)
    (F' : Frs fs g σ h') (va : VR h' a0 av) : Exc g σ e cls av h' := by
  obtain ⟨oe, vs, T, oT, ts, h1, ⟨h2, h3⟩, h4, h5, h6, h7, h8, h9, h10⟩ := ht
  refine ⟨oe, vs, a0, h1, h2, h4, h3, va, he.1, he.2, .inr ⟨T, oT, ts, h5, h7, h8, h9, h10, ?_⟩⟩
  by_cases hm : T ∈ S
  · rw [hS] at hm
    rcases List.mem_append.mp hm with hm | hm
    · rcases List.mem_cons.mp hm with hm | hm
      · exact absurd hm h7
      · exact hT0 T hm
    · obtain ⟨_, _, o, es, n, q1, q2⟩ := F'.mem hm
      rw [h8] at q1; cases q1; rw [q2] at h9; cases h9
  · rw [mask_out hm] at h6
    refine ⟨?_, fun p hp q => ?_⟩
    · cases q : g.get? T with
      | none => rfl
      | some o => rw [R.keep _ _ q] at h6; cases h6
    · obtain ⟨_, o, ho, _⟩ := R.own p hp
      rw [q, h6] at ho; cases ho
theorem moves_of {S : List Addr} (k : (mask h S).StaysIn h') (u : h.UpToSlots h') : Moves S h h' := ⟨fun b o hb e => k b o (by rw [mask_out hb]; exact e), u⟩
/-- leaving a function by an exception -/
theorem leave_exc {M : Model} {A : Around} {E : Value → Shared → Prop} {s : Shared} {Q : Unit → Shared → Prop} (hfr : A.frames = some (env :: fs)) (hf : env.frame = some L) (R : RH prog w g σ s.heap) (F : Frs (env :: fs) g σ s.heap) (x : Exc g σ e cls av s.heap)
    (hQ : ∀ h', RH prog w g σ h' → Frs fs g σ h' → UpS fs s.heap h' → TK s.heap h' → Exc g σ e cls av h' → Q () { s with heap := h' }) : wpAny M A (leaving env (.ref e)) Q E s := by
  obtain ⟨oe, vs, a0, h1, h2, h3, h4, va, g1, g2, h5⟩ := x
  have Ft : Frs fs g σ s.heap := fun en hen => F en (.tail _ hen)
  -- one way for both
  have fin : ∀ (T0 : List Addr), (∀ T ∈ T0, g.get? T = none ∧ (∀ p ∈ σ, p.1 ≠ T) ∧ ∀ c n, s.heap.get? T ≠ some (tupO c n)) → ∀ h', Heap.LeftW (mask s.heap (e :: T0 ++ fAdr (env :: fs))) (env :: fs) e oe.cls a0 s.heap h' → Q () { s with heap := h' } := by
    rintro T0 hT0 h' ⟨k1, k2, k3, k4⟩
    have M := moves_of k1 k4
    have hSg : ∀ b ∈ e :: T0 ++ fAdr (env :: fs), (g.get? b = none ∧ ∀ p ∈ σ, p.1 ≠ b) ∧ ∀ c n, s.heap.get? b ≠ some (tupO c n) := fun b hb => by
      rcases List.mem_append.mp hb with hb | hb
      · rcases List.mem_cons.mp hb with rfl | hb
        · exact ⟨⟨g1, g2⟩, fun c n q => by rw [h1] at q; cases q; cases h3⟩
        · exact ⟨⟨(hT0 b hb).1, (hT0 b hb).2.1⟩, (hT0 b hb).2.2⟩
      · obtain ⟨q1, q2, o, es, n, q3, q4⟩ := F.mem hb
        exact ⟨⟨q1, q2⟩, fun c n q => by rw [q3] at q; cases q; cases q4⟩
    have tk := M.tk fun b hb => (hSg b hb).2
    have R' := R.moves M tk fun b hb => (hSg b hb).1
    have U : UpS (env :: fs) s.heap h' := UpS.moves F M
    have U' : UpS fs s.heap h' := fun en hen => U en (.tail _ hen)
    have x' : Exc g σ e cls av h' := exc_after (fs := env :: fs) R F rfl (fun T hT => ⟨(hT0 T hT).1, (hT0 T hT).2.1⟩) ⟨g1, g2⟩ (h2 ▸ k3) (F.move U) (va.mono tk)
    exact hQ h' R' (Ft.move U') U' tk x'
  rcases h5 with h5 | ⟨T, oT, ts, t1, t2, t3, t4, t5, t6, t7⟩
  · refine wpAny_leaving_firstW (base := mask s.heap (e :: [] ++ fAdr (env :: fs))) hfr (F.fun_ fun b hb => List.mem_append_right _ hb) hf h1 (stays_mask _) (mask_in (.head _)) h3 h5 h4 (fin [] fun T hT => nomatch hT)
  · refine wpAny_leaving_nextW (base := mask s.heap (e :: [T] ++ fAdr (env :: fs))) hfr (F.fun_ fun b hb => List.mem_append_right _ hb) hf ⟨oe, vs, T, oT, ts, h1, ⟨rfl, h4⟩, h3, t1, mask_in (.tail _ (.head _)), t2, t3, t4, t5⟩ (stays_mask _) (mask_in (.head _)) (fin [T] fun T' hT => ?_)
    rw [List.mem_singleton.mp hT]
    exact ⟨t6, t7, fun c n q => by rw [t3] at q; cases q; cases t4⟩
theorem wpAny_noteFrame_firstW {M : Model} {A : Around} {E : Value → Shared → Prop} {s : Shared} {base : Heap} {outer : List Env} {oe : Obj} {vs : Array Value} {a0 : Value} {Q : Unit → Shared → Prop}
    (hfr : A.frames = some (env :: outer)) (hl : s.heap.FunFrames base (env :: outer)) (hf : env.frame = some L)
    (he : s.heap.get? e = some oe) (hkb : base.StaysIn s.heap) (hen : base.get? e = none) (hd : oe.data = .fields vs) (h1 : vs[1]? = some .none) (h0 : vs[0]? = some a0)
    (h : ∀ h', Heap.NotedW base (env :: outer) e oe.cls a0 (rawInt L) s.heap h' → Q () { s with heap := h' }) : wpAny M A (noteFrame (.ref e) env) Q E s := by
  unfold noteFrame
  simp only [hf]
  refine wpAny_bind (wpAny_field he hd h1 ?_)
  rw [if_neg (by decide)]
  exact wpAny_entryW hfr hl hf he hkb hen hd (Array.getElem?_eq_some_iff.mp h1).1 h0 h
/-- an exception held in its frame: what the handlers begin with -/
def Held (base : Heap) (g : Heap) (fs : List Env) (σ : St) (e : Addr) (cls : String) (av : V) (h : Heap) : Prop :=
  ∃ a0, Heap.FlyingW base fs e (.type cls) a0 h ∧ VR h a0 av
/-- catching: the exception lands -/
theorem land_exc {M : Model} {A : Around} {E : Value → Shared → Prop} {s : Shared} {Q : Unit → Shared → Prop} (hfr : A.frames = some (env :: fs)) (hf : env.frame = some L) (R : Rel prog w g L m σ s.heap) (F : Frs (env :: fs) g σ s.heap) (x : Exc g σ e cls av s.heap)
    (hQ : ∀ h' base, Rel prog w g L m σ h' → Frs (env :: fs) g σ h' → UpS (env :: fs) s.heap h' → TK s.heap h' → Held base g (env :: fs) σ e cls av h' → (∀ b o, g.get? b = some o → base.get? b = some o) → (∀ p ∈ σ, ∀ o, h'.get? p.1 = some o → base.get? p.1 = some o) → Q () { s with heap := h' }) :
    wpAny M A (noteFrame (.ref e) env) (fun _ s₂ => wpAny M A (setFlight (.ref e) none) Q E s₂) E s := by
  obtain ⟨oe, vs, a0, h1, h2, h3, h4, va, g1, g2, h5⟩ := x
  have fin : ∀ (T0 : List Addr), (∀ T ∈ T0, g.get? T = none ∧ (∀ p ∈ σ, p.1 ≠ T) ∧ ∀ c n, s.heap.get? T ≠ some (tupO c n)) → ∀ h', Heap.NotedW (mask s.heap (e :: T0 ++ fAdr (env :: fs))) (env :: fs) e oe.cls a0 (rawInt L) s.heap h' → wpAny M A (setFlight (.ref e) none) Q E { s with heap := h' } := by
    rintro T0 hT0 h' ⟨k1, k2, k3, k4⟩
    have hSg : ∀ b ∈ e :: T0 ++ fAdr (env :: fs), (g.get? b = none ∧ ∀ p ∈ σ, p.1 ≠ b) ∧ ∀ c n, s.heap.get? b ≠ some (tupO c n) := fun b hb => by
      rcases List.mem_append.mp hb with hb | hb
      · rcases List.mem_cons.mp hb with rfl | hb
        · exact ⟨⟨g1, g2⟩, fun c n q => by rw [h1] at q; cases q; cases h3⟩
        · exact ⟨⟨(hT0 b hb).1, (hT0 b hb).2.1⟩, (hT0 b hb).2.2⟩
      · obtain ⟨q1, q2, o, es, n, q3, q4⟩ := F.mem hb
        exact ⟨⟨q1, q2⟩, fun c n q => by rw [q3] at q; cases q; cases q4⟩
    refine wpAny_landsW (s := { s with heap := h' }) ⟨k1, mask_in (.head _), k2, k3⟩ fun h'' hfl u => ?_
    have M2 : Moves (e :: T0 ++ fAdr (env :: fs)) s.heap h'' := moves_of hfl.1 (Heap.UpToSlots.trans k4 u)
    have tk := M2.tk fun b hb => (hSg b hb).2
    have U : UpS (env :: fs) s.heap h'' := UpS.moves F M2
    refine hQ h'' _ (R.moves M2 tk fun b hb => (hSg b hb).1) (F.move U) U tk ⟨a0, h2 ▸ hfl, va.mono tk⟩ (fun b o hb => ?_) (fun p hp o ho => ?_)
    · rw [mask_out fun hm => by rw [(hSg b hm).1.1] at hb; cases hb]
      exact R.rh.keep _ _ hb
    · rw [mask_out fun hm => (hSg _ hm).1.2 p hp rfl]
      obtain ⟨_, o', ho', _⟩ := R.rh.own p hp
      have := M2.1 _ _ (fun hm => (hSg _ hm).1.2 p hp rfl) ho'
      rw [this] at ho; cases ho; exact ho'
  rcases h5 with h5 | ⟨T, oT, ts, t1, t2, t3, t4, t5, t6, t7⟩
  · exact wpAny_noteFrame_firstW (base := mask s.heap (e :: [] ++ fAdr (env :: fs))) hfr (F.fun_ fun b hb => List.mem_append_right _ hb) hf h1 (stays_mask _) (mask_in (.head _)) h3 h5 h4 (fin [] fun T hT => nomatch hT)
  · refine wpAny_noteFrame_onW (base := mask s.heap (e :: [T] ++ fAdr (env :: fs))) hfr (F.fun_ fun b hb => List.mem_append_right _ hb) hf ⟨oe, vs, T, oT, ts, h1, ⟨rfl, h4⟩, h3, t1, mask_in (.tail _ (.head _)), t2, t3, t4, t5⟩ (stays_mask _) (mask_in (.head _)) (fin [T] fun T' hT => ?_)
    rw [List.mem_singleton.mp hT]
    exact ⟨t6, t7, fun c n q => by rw [t3] at q; cases q; cases t4⟩
end
end Mine

set_option Elab.async false
set_option linter.unusedVariables false
set_option maxRecDepth 100000
namespace Mine
open PySem PyProof.Rows PySem.Calls PySem.W PySem.Spec

section
variable (prog : Program) (w : World) (Bs : Heap)
/-- the frame that runs -/
structure Run (A : Around) (env : Env) (fs : List Env) (g : Heap) (σ : St) (h : Heap) : Prop where
  fr : A.frames = some (env :: fs)
  own : env.frame = some env.locals
  kind : env.scope.kind = .function
  none : g.get? env.locals = none
  low : Frs fs g σ h
  apart : ∀ en ∈ fs, en.frame ≠ some env.locals
/-- an expression that may raise -/
def EvTh {α β : Type} (P' : Heap → α → β → Prop) (k : Nat) (env : Env) (t : Sem α) (m : Env') (σ : St) (Q : β → St → Prop) (X : String → V → St → Prop) : Prop :=
  ∀ (A : Around) (g : Heap) (s : Shared) (fs : List Env) (Qc : α → Shared → Prop) (Ec : Value → Shared → Prop), AOk k A → (∀ b o, Bs.get? b = some o → g.get? b = some o) → Run A env fs g σ s.heap → Rel prog w g env.locals m σ s.heap →
    (∀ c v σ' h' tk, Q v σ' → Rel prog w g env.locals m σ' h' → P' h' c v → TK s.heap h' → Frs fs g σ' h' → UpS fs s.heap h' → Qc c { s with heap := h', toks := tk }) →
    (∀ e cls av σ' h' tk, X cls av σ' → Rel prog w g env.locals m σ' h' → Exc g σ' e cls av h' → TK s.heap h' → Frs fs g σ' h' → UpS fs s.heap h' → Ec (.ref e) { s with heap := h', toks := tk }) →
    wpAny (model prog w) A t Qc Ec s
/-- statements that may raise -/
def EvStT (k : Nat) (env : Env) (t : Sem Flow) (m : Env') (σ : St) (Q : Fl → Env' → St → Prop) (X : String → V → Env' → St → Prop) : Prop :=
  ∀ (A : Around) (g : Heap) (s : Shared) (fs : List Env) (Qc : Flow → Shared → Prop) (Ec : Value → Shared → Prop), AOk k A → (∀ b o, Bs.get? b = some o → g.get? b = some o) → Run A env fs g σ s.heap → Rel prog w g env.locals m σ s.heap →
    (∀ c f m' σ' h' tk, Q f m' σ' → Rel prog w g env.locals m' σ' h' → FR h' c f → TK s.heap h' → Frs fs g σ' h' → UpS fs s.heap h' → Qc c { s with heap := h', toks := tk }) →
    (∀ e cls av m' σ' h' tk, X cls av m' σ' → Rel prog w g env.locals m' σ' h' → Exc g σ' e cls av h' → TK s.heap h' → Frs fs g σ' h' → UpS fs s.heap h' → Ec (.ref e) { s with heap := h', toks := tk }) →
    wpAny (model prog w) A t Qc Ec s
/-- functions that may raise -/
def EvFT (k : Nat) (f : Value) (vs : List V) (σ : St) (Q : V → St → Prop) (X : String → V → St → Prop) : Prop :=
  ∀ (A : Around) (g : Heap) (s : Shared) (fs : List Env) (Qc Ec : Value → Shared → Prop) (cvs : List Value), AOk k A → (∀ b o, Bs.get? b = some o → g.get? b = some o) → A.frames = some fs → Frs fs g σ s.heap → RH prog w g σ s.heap → VRs s.heap cvs vs →
    (∀ cv v σ' h' tk, Q v σ' → RH prog w g σ' h' → VR h' cv v → TK s.heap h' → Frs fs g σ' h' → UpS fs s.heap h' → Qc cv { s with heap := h', toks := tk }) →
    (∀ e cls av σ' h' tk, X cls av σ' → RH prog w g σ' h' → Exc g σ' e cls av h' → TK s.heap h' → Frs fs g σ' h' → UpS fs s.heap h' → Ec (.ref e) { s with heap := h', toks := tk }) →
    wpAny (model prog w) A (call f cvs) Qc Ec s
end

section
variable {prog : Program} {w : World} {Bs : Heap} {k : Nat} {env : Env} {m : Env'} {σ σ' : St} {g g' h h' h'' : Heap} {L a d e : Addr} {fs : List Env} {cls : String} {av : V} {vs : List V} {mg mb : Str → Option Value}

theorem Ev.toT {α β : Type} {P' : Heap → α → β → Prop} {t : Sem α} {Q : β → St → Prop} {X : String → V → St → Prop} (h : Ev prog w Bs P' k env.locals t m σ Q) : EvTh prog w Bs P' k env t m σ Q X := by
  intro A g s fs Qc Ec hA hB U R hQ hX
  let S := σ.map (·.1)
  have le : ∀ b o, g.get? b = some o → (mask s.heap S).get? b = some o := R.rh.le_mask
  have RM : Rel prog w (mask s.heap S) env.locals m σ s.heap := ⟨R.rh.masked, R.ns, R.offS⟩
  have h0 : ∀ b ∈ fAdr fs, ∀ o, s.heap.get? b = some o → (mask s.heap S).get? b = some o := fun b hb o ho => by
    rw [mask_out]; exact ho
    intro hm
    obtain ⟨p, hp, q⟩ := List.mem_map.mp hm
    exact (U.low.mem hb).2.1 p hp q
  refine h A (mask s.heap S) s Qc Ec hA (fun b o e => le b o (hB b o e)) RM fun cv v σ' h' tk hq R' p t => ?_
  exact hQ cv v σ' h' tk hq (R'.less R.rh.st le) p t (U.low.over h0 R'.rh) fun en hen L hL o ho => ⟨o.slots, R'.rh.keep _ _ (h0 L (List.mem_filterMap.mpr ⟨en, hen, hL⟩) o ho)⟩
theorem EvF.toT {f : Value} {Q : V → St → Prop} {X : String → V → St → Prop} (h : EvF prog w Bs k f vs σ Q) : EvFT prog w Bs k f vs σ Q X := by
  intro A g s fs Qc Ec cvs hA hB hfr F R rs hQ hX
  have le : ∀ b o, g.get? b = some o → (mask s.heap (σ.map (·.1))).get? b = some o := R.le_mask
  have h0 : ∀ b ∈ fAdr fs, ∀ o, s.heap.get? b = some o → (mask s.heap (σ.map (·.1))).get? b = some o := fun b hb o ho => by
    rw [mask_out]; exact ho
    intro hm
    obtain ⟨p, hp, q⟩ := List.mem_map.mp hm
    exact (F.mem hb).2.1 p hp q
  refine h A (mask s.heap (σ.map (·.1))) s Qc Ec cvs hA (fun b o e => le b o (hB b o e)) R.masked rs fun cv v σ' h' tk hq R' p t => ?_
  exact hQ cv v σ' h' tk hq (R'.less R.st le) p t (F.over h0 R') fun en hen L hL o ho => ⟨o.slots, R'.keep _ _ (h0 L (List.mem_filterMap.mpr ⟨en, hen, hL⟩) o ho)⟩
theorem Run.move {A : Around} (U : Run A env fs g σ h) (F : Frs fs g σ' h') : Run A env fs g σ' h' := ⟨U.fr, U.own, U.kind, U.none, F, U.apart⟩

-- statements
theorem evsT_cons {st : Stmt} {rest : List Stmt} {Q : Fl → Env' → St → Prop} {X : String → V → Env' → St → Prop}
    (h : EvStT prog w Bs k env (exec st env) m σ (fun f m1 σ1 => match f with | .next => EvStT prog w Bs k env (execs rest env) m1 σ1 Q X | f => Q f m1 σ1) X) : EvStT prog w Bs k env (execs (st :: rest) env) m σ Q X :=
  fun A g s fs Qc Ec hA hB U R hQ hX => wpAny_execs_cons (h A g s fs _ _ hA hB U R (fun c f m1 σ1 h1 tk hq R1 e t F1 u1 => by
    cases e with
    | next => exact hq A g _ fs _ _ hA hB (U.move F1) R1 (fun c v m' σ' h' tk hq R' p t' F' u' => hQ c v m' σ' h' tk hq R' p (t.trans t') F' (u1.trans u')) fun e cls av m' σ' h' tk hx R' x t' F' u' => hX e cls av m' σ' h' tk hx R' x (t.trans t') F' (u1.trans u')
    | brk => exact hQ _ _ m1 σ1 h1 tk hq R1 .brk t F1 u1
    | cont => exact hQ _ _ m1 σ1 h1 tk hq R1 .cont t F1 u1
    | ret r => exact hQ _ _ m1 σ1 h1 tk hq R1 (.ret r) t F1 u1) hX)
theorem evsT_nil {Q : Fl → Env' → St → Prop} {X : String → V → Env' → St → Prop} (h : Q .next m σ) : EvStT prog w Bs k env (execs [] env) m σ Q X :=
  fun A g s fs Qc Ec hA hB U R hQ hX => wpAny_execs_nil (hQ _ _ m σ s.heap s.toks h R .next (.refl _) U.low .refl)
theorem evxT_if {test : Expr} {body orelse : List Stmt} {pos : Pos} {Q : Fl → Env' → St → Prop} {X : String → V → Env' → St → Prop}
    (h : EvB prog w Bs k env test m σ fun b σ1 => if b then EvStT prog w Bs k env (execs body env) m σ1 Q X else EvStT prog w Bs k env (execs orelse env) m σ1 Q X) : EvStT prog w Bs k env (exec (.If test body orelse pos) env) m σ Q X :=
  fun A g s fs Qc Ec hA hB U R hQ hX => wpAny_If ((Ev.toT (X := fun _ _ _ => False) h) A g s fs _ _ hA hB U R (fun c b σ1 h1 tk hq R1 e t F1 u1 => by
    subst e
    have fin : EvStT prog w Bs k env (execs (if c then body else orelse) env) m σ1 Q X := by
      cases c with
      | true => exact hq
      | false => exact hq
    have := fin A g { s with heap := h1, toks := tk } fs Qc Ec hA hB (U.move F1) R1 (fun c v m' σ' h' tk hq R' p t' F' u' => hQ c v m' σ' h' tk hq R' p (t.trans t') F' (u1.trans u')) fun e cls av m' σ' h' tk hx R' x t' F' u' => hX e cls av m' σ' h' tk hx R' x (t.trans t') F' (u1.trans u')
    cases c with
    | true => exact this
    | false => exact this) fun _ _ _ _ _ _ x => x.elim)
theorem evxT_ret {e : Expr} {pos : Pos} {Q : Fl → Env' → St → Prop} {X : String → V → Env' → St → Prop} (h : EvTh prog w Bs VR k env (eval e env) m σ (fun v σ1 => Q (.ret v) m σ1) fun c av σ1 => X c av m σ1) : EvStT prog w Bs k env (exec (.Return (some e) pos) env) m σ Q X :=
  fun A g s fs Qc Ec hA hB U R hQ hX => wpAny_Return_some (h A g s fs _ _ hA hB U R (fun c b σ1 h1 tk hq R1 e t F1 u1 => hQ _ _ m σ1 h1 tk hq R1 (.ret e) t F1 u1) fun e cls av σ' h' tk hx R' x t' F' u' => hX e cls av m σ' h' tk hx R' x t' F' u')
theorem Run.store {A : Around} (U : Run A env fs g σ h) (hs : Heap.SameBut env.locals h h') : Frs fs g σ h' ∧ UpS fs h h' := by
  have key : ∀ en ∈ fs, ∀ L, en.frame = some L → h'.get? L = h.get? L := fun en hen L hL => hs.2 L fun q => U.apart en hen (by rw [hL, q])
  refine ⟨fun en hen => ?_, fun en hen L hL o ho => ⟨o.slots, (key en hen L hL).trans ho⟩⟩
  obtain ⟨k, L, o, es, n, h1, h2, h3, h4, h5⟩ := U.low en hen
  exact ⟨k, L, o, es, n, h1, h2, h3, (key en hen L h1).trans h4, h5⟩
theorem evxT_assign {x : Str} {xp pos : Pos} {value : Expr} {Q : Fl → Env' → St → Prop} {X : String → V → Env' → St → Prop} (h : EvTh prog w Bs VR k env (eval value env) m σ (fun v σ1 => Q .next (mset m x v) σ1) fun c av σ1 => X c av m σ1)
    (hs : swapsWith value (some (.Name x xp)) pos.line env = pure false := by rfl) (hl : env.kindOf x = some .local := by rfl) (hk : env.scope.kind = .function := by rfl) :
    EvStT prog w Bs k env (exec (.Assign [.Name x xp] value pos) env) m σ Q X :=
  fun A g s fs Qc Ec hA hB U R hQ hX => wpAny_Assign_Name (h A g s fs _ _ hA hB U R (fun c v σ1 h1 tk hq R1 r t F1 u1 => by
    obtain ⟨mc, hn, hm⟩ := R1.ns
    refine wpAny_storeName_local hl hn (fun h' hn' hs' => ?_) (by rw [hk]; rfl)
    obtain ⟨F2, u2⟩ := (U.move F1).store hs'
    exact hQ _ _ _ σ1 h' _ hq (R1.store U.none hn hm hn' hs' r) .next (t.trans (ns_tk hn hs')) F2 (u1.trans u2)) fun e cls av σ' h' tk hx R' x t' F' u' => hX e cls av m σ' h' tk hx R' x t' F' u') hs
theorem evxT_expr {e : Expr} {pos : Pos} {Q : Fl → Env' → St → Prop} {X : String → V → Env' → St → Prop} (h : EvTh prog w Bs VR k env (eval e env) m σ (fun v σ1 => NoRef v ∧ Q .next m σ1) fun c av σ1 => X c av m σ1)
    (hi : interactive env = false := by rfl) (hs : swapsWith e none pos.line env = pure false := by rfl) : EvStT prog w Bs k env (exec (.Expr e pos) env) m σ Q X :=
  fun A g s fs Qc Ec hA hB U R hQ hX => wpAny_Expr (h A g s fs _ _ hA hB U R (fun c b σ1 h1 tk ⟨hn, hq⟩ R1 r t F1 u1 => by
    have := hQ .next .next m σ1 h1 tk hq R1 .next t F1 u1
    cases hn <;> cases r <;> exact this) fun e cls av σ' h' tk hx R' x t' F' u' => hX e cls av m σ' h' tk hx R' x t' F' u') hi hs
theorem EvSt.toT {t : Sem Flow} {Q : Fl → Env' → St → Prop} {X : String → V → Env' → St → Prop} (h : EvSt prog w Bs k env.locals t m σ Q) : EvStT prog w Bs k env t m σ Q X := by
  intro A g s fs Qc Ec hA hB U R hQ hX
  have le := R.le_mask U.none
  have h0 : ∀ b ∈ fAdr fs, ∀ o, s.heap.get? b = some o → (mask s.heap (env.locals :: σ.map (·.1))).get? b = some o := fun b hb o ho => by
    rw [mask_out]; exact ho
    intro hm
    rcases List.mem_cons.mp hm with q | hm
    · obtain ⟨en, hen, hf⟩ := List.mem_filterMap.mp hb
      exact U.apart en hen (by rw [hf, q])
    · obtain ⟨p, hp, q⟩ := List.mem_map.mp hm
      exact (U.low.mem hb).2.1 p hp q
  refine h A _ s Qc Ec hA (fun b o e => le b o (hB b o e)) (mask_in (.head _)) (R.masked U.none) fun cv f m' σ' h' tk hq R' fr t => ?_
  exact hQ cv f m' σ' h' tk hq (R'.less R.rh.st le) fr t (U.low.over h0 R'.rh) fun en hen L hL o ho => ⟨o.slots, R'.rh.keep _ _ (h0 L (List.mem_filterMap.mpr ⟨en, hen, hL⟩) o ho)⟩
theorem EvStT.weak {t : Sem Flow} {m1 : Env'} {σ1 : St} {Q : Fl → Env' → St → Prop} {X : String → V → Env' → St → Prop} (hm : leE m1 m) (hs : SubP σ1 σ) (h : EvStT prog w Bs k env t m1 σ1 Q X) : EvStT prog w Bs k env t m σ Q X :=
  fun A g s fs Qc Ec hA hB U R hQ hX => h A g s fs Qc Ec hA hB (U.move (U.low.sub fun p hp => hs.subset hp)) ((R.env hm.get).subP hs) hQ hX
theorem evsT_join {α : Type} {st : Stmt} {rest : List Stmt} {Q : Fl → Env' → St → Prop} {X : String → V → Env' → St → Prop} (Pr : α → Prop) (mm : α → Env') (ss : α → St)
    (h1 : EvX prog w Bs k env st m σ fun f m' σ' => f = .next ∧ ∃ y, Pr y ∧ leE (mm y) m' ∧ SubP (ss y) σ') (h2 : ∀ y, Pr y → EvStT prog w Bs k env (execs rest env) (mm y) (ss y) Q X) : EvStT prog w Bs k env (execs (st :: rest) env) m σ Q X :=
  evsT_cons (EvSt.toT (h1.mono fun f m' σ' ⟨e, y, hp, hm, hs⟩ => by subst e; exact EvStT.weak hm hs (h2 y hp)))
theorem evsT_joinT {α : Type} {st : Stmt} {rest : List Stmt} {Q : Fl → Env' → St → Prop} {X : String → V → Env' → St → Prop} (Pr : α → Prop) (mm : α → Env') (ss : α → St)
    (h1 : EvStT prog w Bs k env (exec st env) m σ (fun f m' σ' => f = .next ∧ ∃ y, Pr y ∧ leE (mm y) m' ∧ SubP (ss y) σ') X) (h2 : ∀ y, Pr y → EvStT prog w Bs k env (execs rest env) (mm y) (ss y) Q X) : EvStT prog w Bs k env (execs (st :: rest) env) m σ Q X :=
  evsT_cons fun A g s fs Qc Ec hA hB U R hQ hX => h1 A g s fs Qc Ec hA hB U R (fun c f m' σ' h' tk ⟨e, y, hp, hm, hs⟩ => hQ c f m' σ' h' tk (by subst e; exact EvStT.weak hm hs (h2 y hp))) hX

/-- raise C(…) -/
theorem evxT_raise {N I T : String} {np cpos pos : Pos} {e : Expr} {rest : List Expr} {Q : Fl → Env' → St → Prop} {X : String → V → Env' → St → Prop} (hc : ExcClass T N I) (B : BIs Bs mg mb (Str.ofString T) (.type T))
    (h : EvA prog w Bs k env cpos (e :: rest) m σ fun vs σ1 => vs.length ≤ 10 ∧ ∀ a0, X T (.raw a0) m σ1)
    (hg : env.globals = mainGlobals := by rfl) (hb : env.builtins = builtinsNs := by rfl) (hk : env.scope.kind = .function := by rfl) (hx : env.kindOf (Str.ofString T) = some .globalImplicit := by rfl) (hd : ((Str.ofString T) == ("__debug__" : Str)) = false := by decide)
    (he : starEach (e :: rest) env = (false, eval e env) :: starEach rest env := by rfl) (hp : (backTo cpos (starEach rest env)).any (·.1) = false := by rfl) :
    EvStT prog w Bs k env (exec (.Raise (some (.Call (.Name (Str.ofString T) np) (e :: rest) [] cpos)) none pos) env) m σ Q X := by
  intro A g s fs Qc Ec hA hB U R hQ hX
  refine Raise_new hA.1 (Call_ ?_)
  have hname : EvE prog w Bs k env (.Name (Str.ofString T) np) m σ fun v σ1 => v = .raw (.type T) ∧ σ1 = σ := ev_builtin (hg ▸ B.ctx.g) B.off (hb ▸ B.ctx.b) B.val ⟨rfl, rfl⟩ hk hx hd
  refine (Ev.toT (X := fun _ _ _ => False) hname) A g s fs _ _ hA hB U R (fun cv v σ0 h0 tk0 hv R0 rv t0 F0 u0 => ?_) fun _ _ _ _ _ _ x => x.elim
  obtain ⟨rfl, rfl⟩ := hv
  cases rv
  refine PyProof.Rows.callWith_type1 ((Ev.toT (X := fun _ _ _ => False) h) A g _ fs _ _ hA hB (U.move F0) R0 (fun cvs vs σ1 h1 tk1 hq R1 rs t1 F1 u1 => ?_) fun _ _ _ _ _ _ x => x.elim) he hp
  refine call_exc_raise hc (fun h' ex hn => ?_) (by rw [rs.length]; exact len_ok (by have := hq.1; omega))
  obtain ⟨ob, t, q1, q2, q3⟩ := hn.there
  have kp := hn.keeps
  have R2 := R1.ext kp
  have nw := hn.new
  have g1 : g.get? ex = none := by
    cases q : g.get? ex with
    | none => rfl
    | some o => rw [R1.rh.keep _ _ q] at nw; cases nw
  have g2 : ∀ p ∈ σ1, p.1 ≠ ex := fun p hp q => by
    obtain ⟨_, o, ho, _⟩ := R1.rh.own p hp
    rw [q] at ho
    rw [nw] at ho; cases ho
  exact hX ex T _ m σ1 h' _ (hq.2 t) R2 ⟨ob, _, t, q1, q2, q3, rfl, .raw _, g1, g2, .inl rfl⟩ (t0.trans (t1.trans (.of_keep kp))) (F1.move (.of_keep kp)) (u0.trans (u1.trans (.of_keep kp)))
/-- a call of a function that may raise -/
theorem evT_fn {fn : Str} {D : DefRec} {f : Addr} {pm code doc : Value} {p pos : Pos} {e : Expr} {rest : List Expr} {Q : V → St → Prop} {X : String → V → St → Prop} (C : Ctx Bs mg mb) (F : FnAt Bs mg fn D f pm code doc)
    (h : EvA prog w Bs k env pos (e :: rest) m σ fun vs σ1 => EvFT prog w Bs k (.ref f) vs σ1 Q X)
    (hgl : env.globals = mainGlobals := by rfl) (hk : env.scope.kind = .function := by rfl) (hx : env.kindOf fn = some .globalImplicit := by rfl) (hdb : (fn == ("__debug__" : Str)) = false := by decide)
    (he : starEach (e :: rest) env = (false, eval e env) :: starEach rest env := by rfl) :
    EvTh prog w Bs VR k env (eval (.Call (.Name fn p) (e :: rest) [] pos) env) m σ Q X := fun A g s fs Qc Ec hA hB U R hQ hX => by
  obtain ⟨fo, hf, hd⟩ := F.obj
  have hmg := F.name
  rw [F.nm] at hmg
  have hname : EvE prog w Bs k env (.Name fn p) m σ fun v σ1 => v = .raw (.ref f) ∧ σ1 = σ := ev_global (hgl ▸ C.g) hmg (.raw _) ⟨rfl, rfl⟩ hk hx hdb
  refine Call_ ?_
  refine (Ev.toT (X := fun _ _ _ => False) hname) A g s fs _ _ hA hB U R (fun cv v σ0 h0 tk0 hv R0 rv t0 F0 u0 => ?_) fun _ _ _ _ _ _ x => x.elim
  obtain ⟨rfl, rfl⟩ := hv
  cases rv
  refine callWith_def hd ((Ev.toT (X := fun _ _ _ => False) h) A g _ fs _ _ hA hB (U.move F0) R0 (fun cvs vs σ1 h1 tk1 hq R1 rs t1 F1 u1 => ?_) fun _ _ _ _ _ _ x => x.elim) he
  refine ⟨R1.rh.keep _ _ (hB _ _ hf), ?_⟩
  have FF : Frs (env :: fs) g σ1 h1 := R1.frs U.none U.own U.kind F1
  -- own names, after
  have own : ∀ {σ2 : St} {h2 : Heap}, RH prog w g σ2 h2 → TK h1 h2 → Frs (env :: fs) g σ2 h2 → UpS (env :: fs) h1 h2 → Rel prog w g env.locals m σ2 h2 := fun {σ2 h2} R2 t2 F2 u2 => by
    obtain ⟨mc, ⟨o, es, ep, ho, hdd, r⟩, hv⟩ := R1.ns
    obtain ⟨sl, hs⟩ := u2 env (.head _) env.locals U.own o ho
    exact ⟨R2, ⟨mc, ⟨_, es, ep, hs, hdd, r⟩, fun x v e => let ⟨cv, a, b⟩ := hv x v e; ⟨cv, a, b.mono t2⟩⟩, (F2.mem (b := env.locals) (by simp [fAdr, U.own])).2.1⟩
  refine hq A g _ (env :: fs) _ _ cvs hA hB U.fr FF R1.rh rs (fun cv v σ2 h2 tk2 hq2 R2 rv2 t2 F2 u2 => ?_) fun ex cls av σ2 h2 tk2 hx2 R2 x2 t2 F2 u2 => ?_
  · exact hQ cv v σ2 h2 tk2 hq2 (own R2 t2 F2 u2) rv2 (t0.trans (t1.trans t2)) (fun en hen => F2 en (.tail _ hen)) (u0.trans (u1.trans fun en hen => u2 en (.tail _ hen)))
  · exact hX ex cls av σ2 h2 tk2 hx2 (own R2 t2 F2 u2) x2 (t0.trans (t1.trans t2)) (fun en hen => F2 en (.tail _ hen)) (u0.trans (u1.trans fun en hen => u2 en (.tail _ hen)))
theorem Exc.sub {σ' : St} (x : Exc g σ e cls av h) (s : ∀ p ∈ σ', p ∈ σ) : Exc g σ' e cls av h := by
  obtain ⟨oe, vs, a0, h1, h2, h3, h4, va, g1, g2, h5⟩ := x
  exact ⟨oe, vs, a0, h1, h2, h3, h4, va, g1, fun p hp => g2 p (s p hp), h5.imp id fun ⟨T, oT, ts, t1, t2, t3, t4, t5, t6, t7⟩ => ⟨T, oT, ts, t1, t2, t3, t4, t5, t6, fun p hp => t7 p (s p hp)⟩⟩
/-- a function of the text that may raise -/
theorem evfT_c {fn : Str} {D : DefRec} {f : Addr} {pm code doc : Value} {xs : List Str} {Q : V → St → Prop} {X : String → V → St → Prop} (C : Ctx Bs mg mb) (F : FnAt Bs mg fn D f pm code doc)
    (hbind : ∀ cvs : List Value, cvs.length = xs.length → bindArgs (docDef D.name D.params D.body D.scope pm code doc) ⟨cvs, []⟩ = pure (xs.zip cvs)) (hlen : vs.length = xs.length)
    (hs : lawful D.scope xs = true) (ls : Env') (st : Addr → St) (hls : locs (docDef D.name D.params D.body D.scope pm code doc) xs vs = ls) (hst : ∀ L, cellsσ (docDef D.name D.params D.body D.scope pm code doc) L xs vs ++ σ = st L)
    (h : ∀ L, EvStT prog w Bs k (callEnvC (docDef D.name D.params D.body D.scope pm code doc) L f) (execs D.body (callEnvC (docDef D.name D.params D.body D.scope pm code doc) L f)) ls (st L) (fun fl _ σ' => ∃ σ'', SubP σ'' σ' ∧ Q (retOf fl) σ'') fun c av _ σ' => ∃ σ'', SubP σ'' σ' ∧ X c av σ'') : EvFT prog w Bs (k + 1) (.ref f) vs σ Q X := by
  simp only [lawful, Bool.and_eq_true, decide_eq_true_eq, Bool.not_eq_true', List.all_eq_true, Bool.or_eq_true, beq_iff_eq] at hs
  obtain ⟨⟨⟨⟨⟨h1, h2⟩, h3⟩, h4⟩, h5⟩, h6⟩ := hs
  obtain ⟨o, ho, hd⟩ := F.obj
  intro A g s fs Qc Ec cvs hA hB hfr Fr R rs hQ hX
  refine evf_enterX ho hd C.lim F.code rfl hbind hlen hA hB R rs (fun h₁ tk₁ hk₁ Rc hgL hA' => ?_) rfl h1 (fun x hx => (h3 x hx).imp id fun q => ⟨q, fun n => cellsFrom_some _ _ _ _ (.inr q)⟩) h2 h4 h5 h6
  rw [hls, hst] at Rc
  have hLT : ∀ en ∈ fs, ∀ L, en.frame = some L → L < s.heap.objs.size := fun en hen L hL => by
    obtain ⟨_, L', o', es, n, q1, q2, q3, q4, q5⟩ := Fr en hen
    rw [hL] at q1; cases q1
    exact Heap.lt_size q4
  have off1 : Frs fs g (st s.heap.objs.size) h₁ := fun en hen => by
    obtain ⟨kk, L', o', es, n, q1, q2, q3, q4, q5⟩ := Fr en hen
    refine ⟨kk, L', o', es, n, q1, q2, fun p hp e => ?_, hk₁ _ _ q4, q5⟩
    have hPs := hLT en hen L' q1
    rw [← hst] at hp
    rcases List.mem_append.mp hp with hp | hp
    · obtain ⟨nc, hn, rfl⟩ := List.mem_map.mp hp
      have : ∀ (names : List (Str × NameKind)) (n : Nat) (acc : List (Str × Addr)), (∀ y ∈ acc, s.heap.objs.size < y.2) → s.heap.objs.size < n → ∀ y ∈ cellsFrom n names acc, s.heap.objs.size < y.2 := by
        intro names
        induction names with
        | nil => intro n acc ha _ y hy; exact ha y hy
        | cons p r ih =>
          intro n acc ha hn y hy
          unfold cellsFrom at hy
          split at hy
          · exact ih _ _ (fun z hz => by
              rcases List.mem_cons.mp hz with rfl | hz
              · exact hn
              · exact ha z hz) (Nat.lt_succ_of_lt hn) y hy
          · exact ih _ _ ha hn y hy
      have h9 := this _ _ [] (by simp) (Nat.lt_succ_self _) nc hn
      have e' : nc.2 = L' := e
      rw [e'] at h9
      exact Nat.lt_irrefl _ (Nat.lt_trans hPs h9)
    · exact q3 p hp e
  have hfr' : (A.deeper (callEnvC (docDef D.name D.params D.body D.scope pm code doc) s.heap.objs.size f)).frames = some (callEnvC (docDef D.name D.params D.body D.scope pm code doc) s.heap.objs.size f :: fs) := Around.frames_deeper hfr
  have U : Run (A.deeper (callEnvC (docDef D.name D.params D.body D.scope pm code doc) s.heap.objs.size f)) (callEnvC (docDef D.name D.params D.body D.scope pm code doc) s.heap.objs.size f) fs g (st s.heap.objs.size) h₁ :=
    ⟨hfr', rfl, h6, hgL, off1, fun en hen e => Nat.lt_irrefl _ (hLT en hen _ e)⟩
  refine h s.heap.objs.size _ g _ fs _ _ hA' hB U Rc (fun c fl m' σ' h' tk' hh R' fr t F' u' => ?_) fun ex cls av m' σ' h' tk' hh R' x' t F' u' => ?_
  · obtain ⟨σ'', sub, hq⟩ := hh
    have t' : TK s.heap h' := (TK.of_keep hk₁).trans t
    have R'' : RH prog w g σ'' h' := R'.rh.subP sub
    have F'' : Frs fs g σ'' h' := F'.sub fun p hp => sub.subset hp
    have u'' : UpS fs s.heap h' := (UpS.of_keep hk₁).trans u'
    cases fr with
    | next => exact hQ _ _ σ'' h' tk' hq R'' .none t' F'' u''
    | brk => exact hQ _ _ σ'' h' tk' hq R'' .none t' F'' u''
    | cont => exact hQ _ _ σ'' h' tk' hq R'' .none t' F'' u''
    | ret r => exact hQ _ _ σ'' h' tk' hq R'' r t' F'' u''
  · obtain ⟨σ'', sub, hx⟩ := hh
    have t' : TK s.heap h' := (TK.of_keep hk₁).trans t
    have R'' : Rel prog w g s.heap.objs.size m' σ'' h' := Rel.subP R' sub
    have F'' : Frs fs g σ'' h' := F'.sub fun p hp => sub.subset hp
    have u'' : UpS fs s.heap h' := (UpS.of_keep hk₁).trans u'
    refine leave_exc (s := { s with heap := h', toks := tk' }) hfr' rfl R''.rh (R''.frs hgL rfl h6 F'') (x'.sub fun p hp => sub.subset hp) fun h2 R2 F2 u2 t2 x2 => ?_
    exact hX ex cls av σ'' h2 tk' hx R2 x2 (t'.trans t2) F2 (u''.trans u2)

-- try
/-- the first clause that takes cls assigns a constant -/
inductive Catches (Bs : Heap) (mg mb : Str → Option Value) (env : Env) : List ExceptHandler → String → Str → V → Prop
  | hit {T cls : String} {np xp cp ap pos : Pos} {x : Str} {c : Const} {kk : Nat} {v : V} {rest : List ExceptHandler} (B : BIs Bs mg mb (Str.ofString T) (.type T)) (hexc : isSubtype (.type T) (.type "BaseException") = pure true) (hnt : isSubtype (.type ((Manifest.find? T).elim "type" fun x => x.metatype)) (.type "tuple") = pure false)
      (hsub : isSubtype (.type cls) (.type T) = pure true) (hx : env.kindOf (Str.ofString T) = some .globalImplicit) (hd : ((Str.ofString T) == ("__debug__" : Str)) = false) (hl : env.kindOf x = some .local)
      (hc : (∃ b, c = .bool b ∧ v = .bool b) ∨ ∃ y, c = .str y ∧ v = .str y) (hs : swapsWith (.Constant c kk cp) (some (.Name x xp)) ap.line env = pure false) : Catches Bs mg mb env (.ExceptHandler (some (.Name (Str.ofString T) np)) none [.Assign [.Name x xp] (.Constant c kk cp) ap] pos :: rest) cls x v
  | miss {T cls : String} {np pos : Pos} {x : Str} {v : V} {b₀ : Stmt} {suite : List Stmt} {rest : List ExceptHandler} (B : BIs Bs mg mb (Str.ofString T) (.type T)) (hexc : isSubtype (.type T) (.type "BaseException") = pure true) (hnt : isSubtype (.type ((Manifest.find? T).elim "type" fun x => x.metatype)) (.type "tuple") = pure false)
      (hsub : isSubtype (.type cls) (.type T) = pure false) (hx : env.kindOf (Str.ofString T) = some .globalImplicit) (hd : ((Str.ofString T) == ("__debug__" : Str)) = false) (hr : Catches Bs mg mb env rest cls x v) : Catches Bs mg mb env (.ExceptHandler (some (.Name (Str.ofString T) np)) none (b₀ :: suite) pos :: rest) cls x v
theorem const_any {A : Around} {E : Value → Shared → Prop} {s : Shared} {c : Const} {kk : Nat} {cp : Pos} {v : V} {Q : Value → Shared → Prop} (hc : (∃ b, c = .bool b ∧ v = .bool b) ∨ ∃ y, c = .str y ∧ v = .str y)
    (hQ : ∀ cv tk, VR s.heap cv v → Q cv { s with toks := tk }) : wpAny (model prog w) A (eval (.Constant c kk cp) env) Q E s := by
  rcases hc with ⟨b, rfl, rfl⟩ | ⟨y, rfl, rfl⟩
  · exact wpAny_Constant_bool (hQ _ s.toks (.bool _))
  · exact wpAny_Constant_str (hQ _ _ (.str ..))
/-- the handlers at work -/
theorem catch_any {hs : List ExceptHandler} {x : Str} {v : V} (hc : Catches Bs mg mb env hs cls x v) (C : Ctx Bs mg mb) (hg : env.globals = mainGlobals) (hb : env.builtins = builtinsNs) (hk : env.scope.kind = .function) {A : Around} {E : Value → Shared → Prop} {s : Shared} {base : Heap} {Q : Flow → Shared → Prop} (hB : ∀ b o, Bs.get? b = some o → g.get? b = some o)
    (U : Run A env fs g σ s.heap) (R : Rel prog w g env.locals m σ s.heap) (H : Held base g (env :: fs) σ e cls av s.heap) (b1 : ∀ b o, g.get? b = some o → base.get? b = some o) (b2 : ∀ p ∈ σ, ∀ o, s.heap.get? p.1 = some o → base.get? p.1 = some o)
    (hQ : ∀ h' tk, Rel prog w g env.locals (mset m x v) σ h' → Frs fs g σ h' → UpS fs s.heap h' → TK s.heap h' → Q .next { s with heap := h', toks := tk }) : wpAny (model prog w) A (handleBy (.ref e) env hs) Q E s := by
  have kp : ∀ b o, Bs.get? b = some o → s.heap.get? b = some o := fun b o e => R.rh.keep b o (hB b o e)
  obtain ⟨a0, hfl, va⟩ := H
  obtain ⟨ob, he, hcls⟩ := hfl.there
  have name : ∀ {T : String} {np : Pos} {A' : Around} {E' : Value → Shared → Prop} {Q' : Value → Shared → Prop}, BIs Bs mg mb (Str.ofString T) (.type T) → env.kindOf (Str.ofString T) = some .globalImplicit → ((Str.ofString T) == ("__debug__" : Str)) = false → Q' (.type T) s → wpAny (model prog w) A' (eval (.Name (Str.ofString T) np) env) Q' E' s :=
    fun {T np A' E' Q'} B hx hd hq => Calls.Name_function_global hk hx (Calls.loadGlobal_builtin ((hg ▸ B.ctx.g : Bs.Ns env.globals mg).keeps kp) B.off ((hb ▸ B.ctx.b : Bs.Ns env.builtins mb).keeps kp) B.val hq) hd
  induction hc with
  | hit B hexc hnt hsub hx hd hl hcc hsw =>
    refine wpAny_handleBy_builtin hexc hnt hsub (name B hx hd ⟨rfl, ⟨ob, he, hcls⟩, ?_⟩)
    rw [if_pos rfl]
    obtain ⟨f1, f2, f3, f4⟩ := hfl
    refine wpAny_setFlight_noneW f1 f3 f4.at fun h' k1 k2 k3 k4 => ?_
    have tk : TK s.heap h' := fun a c n e => k4 a _ e fun vs q => by cases q
    have R1 : Rel prog w g env.locals m σ h' := by
      obtain ⟨mc, ⟨o, es, ep, ho, hdd, r⟩, hv⟩ := R.ns
      refine ⟨⟨fun b o e => k1 b o (b1 b o e), R.rh.nd, fun p hp => ?_, R.rh.st, R.rh.low⟩, ⟨mc, ⟨o, es, ep, k4 _ _ ho (fun vs q => by rw [hdd] at q; cases q), hdd, r⟩, fun x v e => let ⟨cv, a, b⟩ := hv x v e; ⟨cv, a, b.mono tk⟩⟩, R.offS⟩
      obtain ⟨h1, o, h2, h3⟩ := R.rh.own p hp
      exact ⟨h1, o, k1 _ _ (b2 p hp o h2), h3.mono _ _ tk⟩
    have u1 : UpS fs s.heap h' := fun en hen L hL o ho => by
      obtain ⟨kk, L', o', es, n, q1, q2, q3, q4, q5⟩ := U.low en hen
      rw [hL] at q1; cases q1
      rw [ho] at q4; cases q4
      exact ⟨o.slots, k4 _ _ ho fun vs q => by rw [q5] at q; cases q⟩
    have F1 : Frs fs g σ h' := U.low.move u1
    refine wpAny_execs_cons (wpAny_Assign_Name (const_any hcc fun cv tk' rv => ?_) hsw)
    obtain ⟨mc, hn, hm⟩ := R1.ns
    refine wpAny_storeName_local hl hn (fun h2 hn' hs' => ?_) (by rw [hk]; rfl)
    obtain ⟨F2, u2⟩ := (U.move F1).store hs'
    exact wpAny_execs_nil (hQ h2 _ (R1.store U.none hn hm hn' hs' rv) F2 (u1.trans u2) (tk.trans (ns_tk hn hs')))
  | miss B hexc hnt hsub hx hd hr ih =>
    refine wpAny_handleBy_builtin hexc hnt hsub (name B hx hd ⟨rfl, ⟨ob, he, hcls⟩, ?_⟩)
    rw [if_neg (by decide)]
    exact ih hQ hfl hcls
/-- try: … except: one constant each -/
theorem evxT_try {body : List Stmt} {h₀ : ExceptHandler} {hs : List ExceptHandler} {pos : Pos} {Q : Fl → Env' → St → Prop} {X : String → V → Env' → St → Prop} (C : Ctx Bs mg mb)
    (h : EvStT prog w Bs k env (execs body env) m σ Q fun c av m1 σ1 => ∃ x v, Catches Bs mg mb env (h₀ :: hs) c x v ∧ Q .next (mset m1 x v) σ1)
    (hg : env.globals = mainGlobals := by rfl) (hb : env.builtins = builtinsNs := by rfl) (hk : env.scope.kind = .function := by rfl) : EvStT prog w Bs k env (exec (.Try body (h₀ :: hs) [] [] pos) env) m σ Q X := by
  intro A g s fs Qc Ec hA hB U R hQ hX
  refine wpAny_Try_except (h A g s fs _ _ hA hB U R (fun c f m1 σ1 h1 tk hq R1 fr t F1 u1 => ?_) fun ex cls av m1 σ1 h1 tk hx R1 x t F1 u1 => ?_)
  · cases fr with
    | next => exact wpAny_execs_nil (hQ _ _ m1 σ1 h1 tk hq R1 .next t F1 u1)
    | brk => exact hQ _ _ m1 σ1 h1 tk hq R1 .brk t F1 u1
    | cont => exact hQ _ _ m1 σ1 h1 tk hq R1 .cont t F1 u1
    | ret r => exact hQ _ _ m1 σ1 h1 tk hq R1 (.ret r) t F1 u1
  · obtain ⟨y, v, hc, hq⟩ := hx
    refine land_exc (s := { s with heap := h1, toks := tk }) U.fr U.own R1 (R1.frs U.none U.own U.kind F1) x fun h2 base R2 F2 u2 t2 H b1 b2 => ?_
    have F3 : Frs fs g σ1 h2 := fun en hen => F2 en (.tail _ hen)
    have u3 : UpS fs h1 h2 := fun en hen => u2 en (.tail _ hen)
    exact catch_any hc C hg hb hk hB (U.move F3) R2 H b1 b2 fun h4 tk4 R4 F4 u4 t4 => hQ _ _ _ σ1 h4 tk4 hq R4 .next (t.trans (t2.trans t4)) F4 (u1.trans (u3.trans u4))
end
-- the glue
section
variable {prog p : Program} {w : World} {h : Heap} {l : Addr} {cvs : List Value} {n : Nat} {mg mb : Str → Option Value} {loose : List Str} {mean : ExcName → Option Value}
theorem law_glueT {c : ClaimW} {cl : Str → Option Addr} {mean' : ExcName → Option Value} {args : List WData} {s₁ : Shared} {fa : Addr} {ns : List Int} (ho : s₁.heap.get? l = some (lstO cvs n)) (hI : IntsAre cvs ns) (hg : s₁.gens = #[])
    (T : Top p loose mean mg mb s₁.heap) (hs : (l == sysModules) = false)
    (hr : ∀ cls, c.raises args cls = false) (hp : c.post args (.bool true) args = true)
    (h : EvFT prog w (mask s₁.heap [l]) 9 (.ref fa) [.ref l] [(l, .fix (lstO cvs n) (.list (ns.map .int)))] (fun v σ' => v = .bool true ∧ σ' = [(l, .fix (lstO cvs n) (.list (ns.map .int)))]) fun _ _ _ => False) :
    wpAny (model prog w) callerA (call (.ref fa) [.ref l]) (fun v s' => GoodWG c cl mean' args s₁ (.ok (.ret v)) s') (fun e s' => GoodWG c cl mean' args s₁ (.error e) s') s₁ := by
  refine h callerA (mask s₁.heap [l]) s₁ [] _ _ [.ref l] ⟨rfl, by decide, by decide +kernel⟩ (fun _ _ e => e) rfl (fun _ hen => nomatch hen) ⟨fun b o e => mask_sub e, by simp, fun q hq => ?_, ?_, fun q hq => ?_⟩ (.cons (.ref _) .nil) (fun cv v σ' h' tk hq R' r t _ _ => ?_) fun _ _ _ _ _ _ x => x.elim
  · rw [List.mem_singleton.mp hq]
    exact ⟨mask_in (.head _), _, ho, rfl, cvs, n, rfl, ints_vr hI⟩
  · obtain ⟨mc, ⟨o, es, ep, h1, h2, _⟩, b⟩ := T.nolimit
    exact ⟨o, mask_but ho h1 (fun c k e => by rw [h2] at e; cases e)⟩
  · rw [List.mem_singleton.mp hq]
    exact low_of ho T hs
  · obtain ⟨rfl, rfl⟩ := hq
    cases r
    refine GoodW.toG ⟨.inl ⟨_, .bool true, [], rfl, hr, .bool true, hp, fun _ => ⟨by simp, fun a ha => by cases ha⟩⟩, fun b o e => ?_, rfl, hg⟩
    by_cases hb : b = l
    · subst hb
      obtain ⟨_, o', ho', e', _⟩ := R'.own _ (.head _)
      rw [ho] at e; cases e
      have e2 : o' = lstO cvs n := e'
      rw [e2] at ho'
      exact ho'
    · exact R'.keep b o (by rw [mask_out (by simpa using hb)]; exact e)
end
end Mine

set_option Elab.async false
set_option linter.unusedVariables false
set_option maxRecDepth 100000
namespace Mine
open PySem PySem.NumText Builtin Builtin.Str PySem.StrLaws

theorem str_ext {x y : Str} (h : x.cps.toList = y.cps.toList) : x = y := by
  obtain ⟨⟨a⟩⟩ := x; obtain ⟨⟨b⟩⟩ := y
  simp at h; rw [h]
theorem sub_one (x : Str) (c : Nat) : subAt x ⟨#[c]⟩ 0 = decide (x.cps.toList.head? = some c) := by
  obtain ⟨⟨l⟩⟩ := x
  unfold subAt
  cases l with
  | nil => rfl
  | cons a r =>
    show ((Array.mk (a :: r)).extract 0 (0 + 1) == #[c]) = _
    rw [Bool.eq_iff_iff]
    simp
theorem starts_minus (x : Str) : Txt.startswith x "-" = decide (x.cps.toList.head? = some 45) := by
  unfold Txt.startswith
  have h := sub_one x 45
  have e : (("-" : Str)) = ⟨#[45]⟩ := rfl
  rw [e, h]
  obtain ⟨⟨l⟩⟩ := x
  cases l with
  | nil => rfl
  | cons a r => simp [Str.length]
theorem remove_minus (x : Str) : (Txt.removeprefix x "-").cps.toList = if x.cps.toList.head? = some 45 then x.cps.toList.drop 1 else x.cps.toList := by
  rw [removeprefix_eq]
  have h := starts_minus x
  unfold Txt.startswith at h
  rw [h]
  by_cases h0 : x.cps.toList.head? = some 45
  · rw [if_pos (decide_eq_true h0), if_pos h0]
    show ((x.cps.toList.drop 1).take (x.length - 1)) = _
    exact List.take_of_length_le (by simp [Str.length])
  · rw [if_neg (by rw [decide_eq_false h0]; simp), if_neg h0]
theorem filterMap_range (l : List Nat) : ∀ (n s : Nat), ((List.range n).map (s + ·)).filterMap (l[·]?) = (l.drop s).take n := by
  intro n
  induction n with
  | zero => intro s; simp
  | succ n ih =>
    intro s
    rw [List.range_succ, List.map_append, List.filterMap_append, ih s]
    rw [List.take_add_one]
    congr 1
    simp only [List.map_cons, List.map_nil, List.filterMap_cons, List.filterMap_nil, List.getElem?_drop]
    cases l[s + n]? <;> rfl
theorem slice_list (x : Str) (lo hi : Option Int) {a b : Nat} (hab : strSliceIndices lo hi 1 x.length = (List.range (b - a)).map (a + ·)) (hb : b ≤ x.length) : (Txt.slice x lo hi).cps.toList = (x.cps.toList.drop a).take (b - a) := by
  unfold Txt.slice
  rw [hab]
  split
  · rename_i h
    have hlen : b - a = x.length := by simpa using h
    have ha : a = 0 ∨ x.length = 0 := by omega
    have hl : x.cps.toList.length = x.length := by simp [Str.length]
    rcases ha with rfl | h0
    · rw [List.drop_zero, List.take_of_length_le (by omega)]
    · have : x.cps.toList = [] := List.length_eq_zero_iff.mp (by omega)
      rw [this]; simp
  · show (List.filterMap _ _).toArray.toList = _
    have := filterMap_range x.cps.toList (b - a) a
    simpa using this
theorem ind_take (n : Nat) (j : Nat) : strSliceIndices none (some (j : Int)) 1 n = (List.range (min j n - 0)).map (0 + ·) := by
  unfold strSliceIndices
  have e : (if (j : Int) < 0 then (j : Int) + n else (j : Int)) = j := if_neg (by omega)
  simp only [show (1 : Int) > 0 by decide, if_true, e]
  rw [show max 0 (min (j : Int) (n : Int)) = ((min j n : Nat) : Int) by omega]
  have := sliceRange_one 0 (min j n)
  simpa using this
theorem ind_drop (n : Nat) (j : Nat) : strSliceIndices (some (j : Int)) none 1 n = (List.range (n - min j n)).map (min j n + ·) := by
  unfold strSliceIndices
  have e : (if (j : Int) < 0 then (j : Int) + n else (j : Int)) = j := if_neg (by omega)
  simp only [show (1 : Int) > 0 by decide, if_true, e]
  rw [show max 0 (min (j : Int) (n : Int)) = ((min j n : Nat) : Int) by omega]
  exact sliceRange_one (min j n) n
theorem slice_take (x : Str) (j : Nat) : (Txt.slice x none (some (j : Int))).cps.toList = x.cps.toList.take j := by
  rw [slice_list x none (some (j : Int)) (ind_take x.length j) (by omega)]
  have hl : x.cps.toList.length = x.length := by simp [Str.length]
  rw [List.drop_zero, Nat.sub_zero, ← hl]
  rw [List.take_eq_take_iff]
  omega
theorem slice_drop (x : Str) (j : Nat) : (Txt.slice x (some (j : Int)) none).cps.toList = x.cps.toList.drop j := by
  rw [slice_list x (some (j : Int)) none (ind_drop x.length j) (by omega)]
  have hl : x.cps.toList.length = x.length := by simp [Str.length]
  rw [List.take_of_length_le (by rw [List.length_drop, hl]; omega)]
  by_cases h : j ≤ x.length
  · rw [Nat.min_eq_left h]
  · rw [Nat.min_eq_right (by omega), List.drop_eq_nil_of_le (by omega), List.drop_eq_nil_of_le (by omega)]
theorem digit_small : ∀ c : Fin 128, Unicode.isDigit c.1 = decide (48 ≤ c.1 ∧ c.1 ≤ 57) := by decide +kernel
theorem ascii_digits (x : Str) : (Txt.isascii x && Txt.isdigit x) = true ↔ x.cps.toList ≠ [] ∧ AllDigits x.cps.toList := by
  unfold Txt.isascii Txt.isdigit AllDigits
  rw [Bool.and_eq_true, Bool.and_eq_true, ← Array.all_toList, ← Array.all_toList, List.all_eq_true, List.all_eq_true, decide_eq_true_eq]
  have hl : x.cps.toList.length = x.length := by simp [Str.length]
  constructor
  · rintro ⟨h1, h2, h3⟩
    refine ⟨fun e => by rw [e] at hl; simp at hl; omega, fun c hc => ?_⟩
    have hc1 : c < 128 := of_decide_eq_true (h1 c hc)
    have := h3 c hc
    rw [digit_small ⟨c, hc1⟩] at this
    exact of_decide_eq_true this
  · rintro ⟨h1, h2⟩
    refine ⟨fun c hc => decide_eq_true (by have := h2 c hc; omega), ?_, fun c hc => ?_⟩
    · cases h : x.cps.toList with
      | nil => exact absurd h h1
      | cons a r => rw [h] at hl; simp at hl; omega
    · have := h2 c hc
      rw [digit_small ⟨c, by omega⟩]
      exact decide_eq_true this
theorem lstrip_zero (x : Str) : (Txt.lstripChars x "0").cps.toList = x.cps.toList.dropWhile (fun c => c == 48) := by
  have hl : x.cps.toList.length = x.length := by simp [Str.length]
  have hg : (("0" : Str).cps.contains : Nat → Bool) = fun c => c == 48 := by
    funext c
    show (#[48] : Array Nat).contains c = _
    rw [Bool.eq_iff_iff]; simp
  unfold Txt.lstripChars Txt.stripBy stripSame stripped stripLo stripHi
  rw [hg]
  simp only [if_true, Bool.false_eq_true, if_false, beq_self_eq_true, Bool.and_true]
  have key : x.cps.toList.drop (x.cps.toList.takeWhile (fun c => c == 48)).length = x.cps.toList.dropWhile (fun c => c == 48) := by
    have := List.takeWhile_append_dropWhile (p := fun c => c == 48) (l := x.cps.toList)
    have h2 := congrArg (List.drop (x.cps.toList.takeWhile (fun c => c == 48)).length) this
    rw [List.drop_left] at h2
    exact h2.symm
  split
  · rename_i h
    have h' : (x.cps.toList.takeWhile (fun c => c == 48)).length = 0 := by simpa using h
    rw [← key, h', List.drop_zero]
  · rw [strSub_toList, key]
    exact List.take_of_length_le (by rw [← key, List.length_drop]; omega)
theorem digitsVal_zeros : ∀ (l : List Nat), digitsVal (l.dropWhile (fun c => c == 48)) = digitsVal l
  | [] => rfl
  | c :: l => by
    rw [List.dropWhile_cons]
    split
    · rename_i h
      have : c = 48 := by simpa using h
      rw [digitsVal_zeros l, this]; rfl
    · rfl
theorem digitsVal_snoc (l : List Nat) (c : Nat) : digitsVal (l ++ [c]) = digitsVal l * 10 + (c - 48) := by simp [digitsVal]
theorem foldl_ge : ∀ (l : List Nat) (a : Nat), a * 10 ^ l.length ≤ l.foldl (fun acc c => acc * 10 + (c - 48)) a
  | [], a => by simp
  | c :: l, a => by
    have := foldl_ge l (a * 10 + (c - 48))
    rw [List.foldl_cons, List.length_cons, Nat.pow_succ]
    refine Nat.le_trans ?_ this
    rw [Nat.mul_comm (10 ^ l.length) 10, ← Nat.mul_assoc]
    exact Nat.mul_le_mul_right _ (by omega)
theorem digitsVal_big {l : List Nat} (h : AllDigits l) (hl : 19 < (l.dropWhile (fun c => c == 48)).length) : 10 ^ 19 ≤ digitsVal l := by
  rw [← digitsVal_zeros]
  have hm : ∀ c ∈ l.dropWhile (fun c => c == 48), 48 ≤ c ∧ c ≤ 57 := fun c hc => h c ((List.dropWhile_suffix _).subset hc)
  have hh : ∀ c r, l.dropWhile (fun c => c == 48) = c :: r → c ≠ 48 := fun c r e => by
    have := List.head?_dropWhile_not (fun c => c == 48) l
    rw [e] at this
    simpa using this
  cases e : l.dropWhile (fun c => c == 48) with
  | nil => rw [e] at hl; simp at hl
  | cons c r =>
    rw [e] at hl hm
    have h1 := hm c (.head _)
    have h2 := hh c r e
    have := foldl_ge r (0 * 10 + (c - 48))
    show 10 ^ 19 ≤ r.foldl _ (0 * 10 + (c - 48))
    refine Nat.le_trans ?_ this
    have h3 : 10 ^ 19 ≤ 10 ^ r.length := Nat.pow_le_pow_right (by decide) (by simp at hl; omega)
    have h4 : 1 * 10 ^ r.length ≤ (0 * 10 + (c - 48)) * 10 ^ r.length := Nat.mul_le_mul_right _ (by omega)
    omega
theorem dig_occ : ∀ c : Fin 10, occurrences "0123456789" ⟨#[c.1 + 48]⟩ 0 10 1 = [c.1] := by decide +kernel
theorem dig_index {c : Nat} (h : 48 ≤ c ∧ c ≤ 57) : occurrences "0123456789" ⟨#[c]⟩ 0 ("0123456789" : Str).length 1 = [c - 48] := by
  have := dig_occ ⟨c - 48, by omega⟩
  simp only [Nat.sub_add_cancel h.1] at this
  exact this
theorem dig_in (c : Nat) : Txt.contains "0123456789" ⟨#[c]⟩ = decide (48 ≤ c ∧ c ≤ 57) := by
  unfold Txt.contains
  rw [found_one, decide_eq_decide]
  have e : ("0123456789" : Str).cps.toList = [48, 49, 50, 51, 52, 53, 54, 55, 56, 57] := rfl
  rw [e]
  constructor
  · intro h
    simp only [List.mem_cons, List.not_mem_nil, or_false] at h
    omega
  · intro h
    simp only [List.mem_cons, List.not_mem_nil, or_false]
    omega
/-- behind the sign -/
def bodyOf (cs : List Nat) : List Nat := if cs.head? = some 45 then cs.drop 1 else cs
def signOf (cs : List Nat) : Int := if cs.head? = some 45 then -1 else 1
theorem ad_pos {α : Type} {l : List Nat} {a b : α} (h : AllDigits l) : (if ∀ c ∈ l, 48 ≤ c ∧ c ≤ 57 then a else b) = a := if_pos h
theorem ad_neg {α : Type} {l : List Nat} {a b : α} (h : ¬ AllDigits l) : (if ∀ c ∈ l, 48 ≤ c ∧ c ≤ 57 then a else b) = b := if_neg h
/-- what a text is worth, or none -/
def dueO (cs : List Nat) : Option Int := if bodyOf cs = [] then none else if ∀ c ∈ bodyOf cs, 48 ≤ c ∧ c ≤ 57 then (if 10 ^ 18 < digitsVal (bodyOf cs) then none else some (signOf cs * (digitsVal (bodyOf cs) : Nat))) else none
end Mine

set_option Elab.async false
set_option linter.unusedVariables false
set_option maxRecDepth 100000
namespace Mine
open PySem Builtin Builtin.Str

-- ascii(text), by a copy of the model's own escape that is the same by unfolding
def hexD (n width : Nat) : List Nat :=
  let ds := (Nat.toDigits 16 n).map Char.toNat
  List.replicate (width - ds.length) 48 ++ ds
def aEsc (c : Nat) : List Nat :=
  if c < 128 then [c]
  else if c < 256 then [92, 120] ++ hexD c 2
  else if c < 65536 then [92, 117] ++ hexD c 4
  else [92, 85] ++ hexD c 8
theorem aEsc_len (c : Nat) (hc : c < 16 ^ 8) : (aEsc c).length ≤ 10 := by
  have h8 := StrLaws.hex_len (w := 8) (by decide) hc
  have h4 (h : c < 16 ^ 4) := StrLaws.hex_len (w := 4) (by decide) h
  have h2 (h : c < 16 ^ 2) := StrLaws.hex_len (w := 2) (by decide) h
  unfold aEsc
  split
  · simp
  split
  · rename_i h
    have := h2 (by simpa using h)
    unfold hexD
    simp only [List.length_append, List.length_cons, List.length_nil] at this ⊢
    omega
  split
  · rename_i h
    have := h4 (by simpa using h)
    unfold hexD
    simp only [List.length_append, List.length_cons, List.length_nil] at this ⊢
    omega
  · unfold hexD
    simp only [List.length_append, List.length_cons, List.length_nil] at h8 ⊢
    omega
theorem kind_ascii : builtinKind "ascii" = none := by decide +kernel
theorem plain_ascii : plainId "ascii" = true := by decide +kernel
theorem entry_ascii : entryFor table "ascii" = some Builtin.«ascii» := entryFor_of_fast (by kernel_rfl)
theorem args_ascii (a : Value) : argsOk "ascii" ⟨[a], []⟩ := by unfold argsOk; kernel_rfl
theorem flat_len {f : Nat → List Nat} : ∀ (l : List Nat), (∀ c ∈ l, (f c).length ≤ 10) → (l.flatMap f).length ≤ 10 * l.length
  | [], _ => by simp
  | c :: l, h => by
    have := flat_len l fun d hd => h d (.tail _ hd)
    have h1 := h c (.head _)
    simp only [List.flatMap_cons, List.length_append, List.length_cons]
    omega
/-- the code points of a text's repr -/
theorem repr_small (x : Str) (hx : ∀ c ∈ x.cps.toList, c < 16 ^ 8) : ∀ c ∈ (reprText x).cps.toList, c < 16 ^ 8 := by
  have hq : reprQuote x < 16 ^ 8 := by unfold reprQuote; split <;> decide
  have hd : ∀ (k fuel n : Nat) (ds : List Char), (∀ ch ∈ ds, ch.toNat < 128) → ∀ ch ∈ Nat.toDigitsCore 16 fuel n ds, ch.toNat < 128 := by
    intro k fuel
    induction fuel with
    | zero => intro n ds h ch hch; exact h ch (by simpa [Nat.toDigitsCore] using hch)
    | succ fuel ih =>
      intro n ds h ch hch
      have h16 : ∀ r : Fin 16, (Nat.digitChar r.1).toNat < 128 := by decide
      have h2 : ∀ ch ∈ Nat.digitChar (n % 16) :: ds, ch.toNat < 128 := fun ch hch => by
        rcases List.mem_cons.mp hch with rfl | hch
        · exact h16 ⟨n % 16, Nat.mod_lt _ (by decide)⟩
        · exact h ch hch
      unfold Nat.toDigitsCore at hch
      dsimp only at hch
      split at hch
      · exact h2 ch hch
      · exact ih _ _ h2 ch hch
  have hhex : ∀ c w d, d ∈ (List.replicate (w - ((Nat.toDigits 16 c).map Char.toNat).length) 48 ++ (Nat.toDigits 16 c).map Char.toNat) → d < 128 := by
    intro c w d h
    rcases List.mem_append.mp h with h | h
    · rw [List.eq_of_mem_replicate h]; decide
    · obtain ⟨ch, hch, rfl⟩ := List.mem_map.mp h
      exact hd 0 _ _ [] (by simp) ch hch
  have hr : ∀ q c, q < 16 ^ 8 → c < 16 ^ 8 → ∀ d ∈ reprChar q c, d < 16 ^ 8 := by
    intro q c hq hc d hd
    have b128 : ∀ d, d < 128 → d < 16 ^ 8 := fun d h => Nat.lt_trans h (by decide)
    unfold reprChar at hd
    dsimp only at hd
    repeat' split at hd
    all_goals first
      | (simp only [List.mem_cons, List.not_mem_nil, or_false] at hd; rcases hd with rfl | rfl <;> first | exact hc | decide)
      | (simp only [List.mem_cons, List.not_mem_nil, or_false] at hd; subst hd; exact hc)
      | (rcases List.mem_append.mp hd with hd | hd
         · simp only [List.mem_cons, List.not_mem_nil, or_false] at hd; rcases hd with rfl | rfl <;> decide
         · exact b128 _ (hhex _ _ _ hd))
  have hf : ∀ (l : List Nat) (acc : Array Nat), (∀ c ∈ l, c < 16 ^ 8) → (∀ c ∈ acc.toList, c < 16 ^ 8) → ∀ c ∈ (l.foldl (fun out c => out ++ (reprChar (reprQuote x) c).toArray) acc).toList, c < 16 ^ 8 := by
    intro l
    induction l with
    | nil => intro acc _ h; exact h
    | cons c l ih =>
      intro acc h1 h2
      refine ih _ (fun d hd => h1 d (.tail _ hd)) fun d hd => ?_
      rw [Array.toList_append] at hd
      rcases List.mem_append.mp hd with hd | hd
      · exact h2 d hd
      · exact hr _ _ hq (h1 c (.head _)) d (by simpa using hd)
  intro c hc
  unfold reprText at hc
  have hc' : c ∈ ((x.cps.foldl (fun out c => out ++ (reprChar (reprQuote x) c).toArray) #[reprQuote x]).push (reprQuote x)).toList := hc
  rw [Array.toList_push, ← Array.foldl_toList] at hc'
  rcases List.mem_append.mp hc' with hc' | hc'
  · exact hf _ _ hx (by intro d hd; simp at hd; rw [hd]; exact hq) c hc'
  · simp at hc'; rw [hc']; exact hq
section
variable {prog : Program} {w : World} {A : Around} {E : Value → Shared → Prop} {s : Shared} {x : Str} {t : Tok} {Q : Value → Shared → Prop}
theorem call_ascii (hx : x.length ≤ 100) (hc : ∀ c ∈ x.cps.toList, c < 16 ^ 8) (h : ∀ y t' k, y.length ≤ 20000 → Q (.str y t') { s with toks := k }) : wpAny (model prog w) A (call (.builtin "ascii") [.str x t]) Q E s := by
  have hl := StrLaws.reprText_len x hc
  have hs := repr_small x hc
  refine call_function_tree kind_ascii plain_ascii entry_ascii (args_ascii _) ?_
  unfold Builtin.«ascii»
  refine wpAny_bind (m := oneArg "ascii" _) (wpAny_pure ?_)
  have hv : [Value.str x t].any Value.onHeap = false := rfl
  simp only [cRoomFor, hv, Bool.false_eq_true, if_false, pure_bind]
  refine wpAny_bind (m := callSpecialIfBound? (.str x t) (Str.ofString "__repr__")) (wpAny_callSpecialIfBound?_slot (name := Str.ofString "__repr__") (typeIs_str s x t) F.slot_str_repr (call_gives F.slot_str_repr (typeIs_str _ _ _) F.entry_str_repr (F.args_str_repr_1 _) (gives_str_repr x t) ⟨by rw [sizeLine_eq]; omega, ?_⟩))
  refine wpAny_bind (wpAny_pure ?_)
  dsimp only
  cases ha : (reprText x).cps.all (· < 128)
  · simp only [Bool.false_eq_true, if_false]
    refine wpAny_bind (wpAny_letGo ?_)
    have h10 : decide (10 * (reprText x).length > sizeLine) = false := decide_eq_false (by rw [sizeLine_eq]; omega)
    rw [h10, Bool.false_and]
    simp only [Bool.false_eq_true, if_false]
    have hlen : ∀ f : Nat → Array Nat, (∀ c, f c = (aEsc c).toArray) → (Array.flatMap f (reprText x).cps).size ≤ 10 * (reprText x).length := by
      intro f hf
      have e : f = fun c => (aEsc c).toArray := funext hf
      subst e
      have h1 := flat_len (f := aEsc) (reprText x).cps.toList fun c hc' => aEsc_len c (hs c hc')
      have e2 : (Array.flatMap (fun c => (aEsc c).toArray) (reprText x).cps).toList = (reprText x).cps.toList.flatMap aEsc := by
        rw [Array.toList_flatMap]
      have e3 : (Array.flatMap (fun c => (aEsc c).toArray) (reprText x).cps).size = ((reprText x).cps.toList.flatMap aEsc).length := by
        rw [← e2, Array.length_toList]
      rw [e3]
      simpa [Str.length] using h1
    unfold retStr
    have key := hlen _ (fun c => by with_unfolding_all exact rfl)
    refine wpAny_bind (wpAny_mkStr ?_ ?_)
    · exact wpAny_pure (h _ _ _ (Nat.le_trans key (by omega)))
    · exact Nat.le_trans key (by rw [sizeLine_eq]; omega)
  · simp only [if_true]
    refine wpAny_bind (wpAny_rule (wpAny_pure (h _ _ _ (by omega))))
end
end Mine

set_option Elab.async false
set_option linter.unusedVariables false
set_option maxRecDepth 100000
namespace Mine
open PySem PyProof.Rows PySem.Calls PySem.W PySem.Spec Builtin Builtin.Str

section
variable {prog : Program} {w : World} {Bs : Heap} {k : Nat} {env : Env} {m : Env'} {σ : St} {g h h' : Heap} {L a : Addr} {ob : O} {x y : Str} {mg mb : Str → Option Value}

theorem bf_s1 {f : Value} {v : V} {Q : V → St → Prop} (h : ∀ (A : Around) (s : Shared) (t : Tok) (Qc Ec : Value → Shared → Prop), (∀ cv tk, VR s.heap cv v → Qc cv { s with toks := tk }) → wpAny (model prog w) A (call f [.str x t]) Qc Ec s) (hq : Q v σ) : EvF prog w Bs k f [.str x] σ Q := by
  intro A g s Qc Ec cvs hA hB R rs hQ
  cases rs with
  | cons r rs =>
    cases r; cases rs
    exact h A s _ Qc Ec fun cv tk rv => hQ cv v σ s.heap tk hq R rv (.refl _)
theorem bf_s2 {f : Value} {v : V} {Q : V → St → Prop} (h : ∀ (A : Around) (s : Shared) (t u : Tok) (Qc Ec : Value → Shared → Prop), (∀ cv tk, VR s.heap cv v → Qc cv { s with toks := tk }) → wpAny (model prog w) A (call f [.str x t, .str y u]) Qc Ec s) (hq : Q v σ) : EvF prog w Bs k f [.str x, .str y] σ Q := by
  intro A g s Qc Ec cvs hA hB R rs hQ
  cases rs with
  | cons r rs =>
    cases r
    cases rs with
    | cons r rs =>
      cases r; cases rs
      exact h A s _ _ Qc Ec fun cv tk rv => hQ cv v σ s.heap tk hq R rv (.refl _)
theorem bf_i1 {f : Value} {i : Int} {v : V} {Q : V → St → Prop} (h : ∀ (A : Around) (s : Shared) (t : Tok) (Qc Ec : Value → Shared → Prop), (∀ cv tk, VR s.heap cv v → Qc cv { s with toks := tk }) → wpAny (model prog w) A (call f [.int i t]) Qc Ec s) (hq : Q v σ) : EvF prog w Bs k f [.int i] σ Q := by
  intro A g s Qc Ec cvs hA hB R rs hQ
  cases rs with
  | cons r rs =>
    cases r; cases rs
    exact h A s _ Qc Ec fun cv tk rv => hQ cv v σ s.heap tk hq R rv (.refl _)
theorem bf_isascii {Q : V → St → Prop} (hq : Q (.bool (Txt.isascii x)) σ) : EvF prog w Bs k (.builtin "str.isascii") [.str x] σ Q := bf_s1 (fun A s t Qc Ec hQ => SC.isascii (hQ _ s.toks (.bool _))) hq
theorem bf_isdigit {Q : V → St → Prop} (hq : Q (.bool (Txt.isdigit x)) σ) : EvF prog w Bs k (.builtin "str.isdigit") [.str x] σ Q := bf_s1 (fun A s t Qc Ec hQ => SC.isdigit (hQ _ s.toks (.bool _))) hq
theorem bf_removeprefix {Q : V → St → Prop} (hz : x.length ≤ sizeLine) (hq : Q (.str (Txt.removeprefix x y)) σ) : EvF prog w Bs k (.builtin "str.removeprefix") [.str x, .str y] σ Q := bf_s2 (fun A s t u Qc Ec hQ => SC.removeprefix (fun t' k => hQ _ k (.str ..)) hz) hq
theorem bf_lstripc {Q : V → St → Prop} (hz : x.length ≤ sizeLine) (hq : Q (.str (Txt.lstripChars x y)) σ) : EvF prog w Bs k (.builtin "str.lstrip") [.str x, .str y] σ Q := bf_s2 (fun A s t u Qc Ec hQ => SC.lstripChars (fun t' k => hQ _ k (.str ..)) hz) hq
theorem bf_startswith {Q : V → St → Prop} (hq : Q (.bool (Txt.startswith x y)) σ) : EvF prog w Bs k (.builtin "str.startswith") [.str x, .str y] σ Q := bf_s2 (fun A s t u Qc Ec hQ => SC.startswith (hQ _ s.toks (.bool _))) hq
theorem bf_index {i : Nat} {rest : List Nat} {Q : V → St → Prop} (ho : Builtin.Str.occurrences x y 0 x.length 1 = i :: rest) (hq : Q (.int i) σ) : EvF prog w Bs k (.builtin "str.index") [.str x, .str y] σ Q := bf_s2 (fun A s t u Qc Ec hQ => SC.index ho (hQ _ _ (.int ..))) hq
theorem len_fit (hz : x.length ≤ sizeLine) : ¬ (x.length : Int) ≥ 2 ^ 63 := by rw [sizeLine_eq] at hz; omega
theorem bf_len_str {Q : V → St → Prop} (hz : x.length ≤ sizeLine) (hq : Q (.int x.length) σ) : EvF prog w Bs k (.builtin "len") [.str x] σ Q := bf_s1 (fun A s t Qc Ec hQ => PyProof.Rows.len_str (len_fit hz) (hQ _ _ (.int ..))) hq
theorem bf_str_int {i : Int} {Q : V → St → Prop} (hi : i.natAbs.log2 < 1920) (hq : Q (.str (Str.ofString (toString i))) σ) : EvF prog w Bs k (.type "str") [.int i] σ Q := bf_i1 (fun A s t Qc Ec hQ => P.str_of_int hi (hQ _ _ (.str ..))) hq
theorem bf_int_str {i : Int} {Q : V → St → Prop} (hn : PySem.intText? x = some i) (hl : x.length ≤ 640) (hq : Q (.int i) σ) : EvF prog w Bs k (.type "int") [.str x] σ Q := bf_s1 (fun A s t Qc Ec hQ => KIN.call_text hn hl (hQ _ _ (.int ..))) hq
theorem bf_isint {i : Int} {Q : V → St → Prop} (hq : Q (.bool true) σ) : EvF prog w Bs k (.builtin "isinstance") [.int i, .raw (.type "int")] σ Q := by
  intro A g s Qc Ec cvs hA hB R rs hQ
  cases rs with
  | cons r rs =>
    cases r
    cases rs with
    | cons r rs =>
      cases rs; cases r
      exact PySem.IsiPair.int_int (hQ _ _ σ s.heap _ hq R (.bool _) (.refl _))
theorem bf_isint_bool {i : Int} {Q : V → St → Prop} (hq : Q (.bool false) σ) : EvF prog w Bs k (.builtin "isinstance") [.int i, .raw (.type "bool")] σ Q := by
  intro A g s Qc Ec cvs hA hB R rs hQ
  cases rs with
  | cons r rs =>
    cases r
    cases rs with
    | cons r rs =>
      cases rs; cases r
      exact PySem.IsiPair.int_bool (hQ _ _ σ s.heap _ hq R (.bool _) (.refl _))
/-- sep.join(a list of strs): some text -/
theorem bf_join {ss : List Str} {Q : V → St → Prop} (hm : (a, ob) ∈ σ) (hl : ob.peel = .list (ss.map .str)) (hz : tooLong (ss.toArray.foldl (· + ·.length + x.length) 0) = false) (h1 : ∀ z ∈ ss, z.length ≤ sizeLine) (h2 : (glued x ss).length ≤ sizeLine)
    (hq : Q (.str (match ss with | [z] => z | ss => glued x ss)) σ) : EvF prog w Bs k (.builtin "str.join") [.str x, .ref a] σ Q := by
  intro A g s Qc Ec cvs hA hB R rs hQ
  cases rs with
  | cons r rs =>
    cases r
    cases rs with
    | cons r rs =>
      cases r; cases rs
      rename_i tk
      obtain ⟨cl, n, ho, rl⟩ := R.list_at hm hl
      obtain ⟨l, e1, e2⟩ : ∃ l : List (Str × Tok), cl = strValues l ∧ l.map (·.1) = ss := by
        clear hz h1 h2 hq hl ho
        induction ss generalizing cl with
        | nil => cases rl; exact ⟨[], rfl, rfl⟩
        | cons z ss ih =>
          cases rl with
          | cons r rl =>
            cases r
            obtain ⟨l, e1, e2⟩ := ih _ rl
            exact ⟨(z, _) :: l, by rw [e1]; rfl, by rw [← e2]; rfl⟩
      subst e1 e2
      refine call_meets F.slot_str_join (typeIs_str _ _ _) F.entry_str_join (F.args_str_join_2 _ _) (meets_str_join_list x tk a l hz) ⟨⟨_, ho, rfl, n, rfl⟩, ?_⟩
      match l, hq, h1, h2 with
      | [], hq, h1, h2 => exact ⟨h2, hQ _ _ σ s.heap _ hq R (.str ..) (.refl _)⟩
      | [p], hq, h1, h2 => exact hQ _ _ σ s.heap s.toks hq R (.str ..) (.refl _)
      | p :: q :: l, hq, h1, h2 => exact ⟨h2, hQ _ _ σ s.heap _ hq R (.str ..) (.refl _)⟩
/-- x in y, x not in y -/
theorem cmp_inT : CmpG prog w σ .In (.str y) (.str x) (Txt.contains x y) := fun A k g s ca cb Qc Ec hA R ra rb hQ => by cases ra; cases rb; exact P.in_str (hQ s.toks)
theorem cmp_notInT : CmpG prog w σ .NotIn (.str y) (.str x) (!Txt.contains x y) := fun A k g s ca cb Qc Ec hA R ra rb hQ => by cases ra; cases rb; exact P.notIn_str (hQ s.toks)
/-- text * n -/
theorem ev_mulT {l r : Expr} {pos : Pos} {Q : V → St → Prop} (h : EvE prog w Bs k env l m σ fun a σ1 => EvE prog w Bs k env r m σ1 fun b σ2 => ∃ x n, a = .str x ∧ b = .int n ∧ MulOk x n ∧ Q (.str (Txt.mul x n)) σ2) :
    EvE prog w Bs k env (.BinOp l .Mult r pos) m σ Q := fun A g s Qc Ec hA hB R hQ =>
  wpAny_BinOp (Ev.two (Qc := fun c d s₂ => wpAny (model prog w) A (binaryOp .Mult c d) Qc Ec s₂) h (fun t r => r.mono t) hA hB R fun c d a b σ' h' tk ⟨x, n, ea, eb, hok, hq⟩ R' ra rb t => by
    subst ea eb
    cases ra; cases rb
    exact SB.mul hok fun t' k' => hQ _ _ σ' h' k' hq R' (.str ..) t)
/-- a ** n -/
theorem ev_pow {l r : Expr} {pos : Pos} {Q : V → St → Prop} (h : EvE prog w Bs k env l m σ fun a σ1 => EvE prog w Bs k env r m σ1 fun b σ2 => ∃ i n, a = .int i ∧ b = .int n ∧ 0 ≤ n ∧ n ≤ 1000000 ∧ i.natAbs < 2 ^ 64 ∧ Q (.int (i ^ n.toNat)) σ2) :
    EvE prog w Bs k env (.BinOp l .Pow r pos) m σ Q := fun A g s Qc Ec hA hB R hQ =>
  wpAny_BinOp (Ev.two (Qc := fun c d s₂ => wpAny (model prog w) A (binaryOp .Pow c d) Qc Ec s₂) h (fun t r => r.mono t) hA hB R fun c d a b σ' h' tk ⟨i, n, ea, eb, h0, h1, h2, hq⟩ R' ra rb t => by
    subst ea eb
    cases ra; cases rb
    exact pow_int_small h0 h1 h2 (hQ _ _ σ' h' _ hq R' (.int ..) t))
/-- x or y, of texts -/
theorem ev_orT {e1 e2 : Expr} {pos : Pos} {Q : V → St → Prop} (h : EvE prog w Bs k env e1 m σ fun v σ1 => ∃ x, v = .str x ∧ x.length ≤ sizeLine ∧ if x.length = 0 then EvE prog w Bs k env e2 m σ1 Q else Q (.str x) σ1) : EvE prog w Bs k env (.BoolOp .Or [e1, e2] pos) m σ Q := fun A g s Qc Ec hA hB R hQ => by
  show wpAny _ A (eval e1 env >>= fun v => standAt pos >>= fun _ => holding [v] (truthy v) >>= fun t => _) _ _ _
  refine wpAny_bind (h A g s _ _ hA hB R fun cv v σ1 h1 tk ⟨x, e, hz, hq⟩ R1 r t => ?_)
  subst e
  cases r
  refine wpAny_bind (wpAny_standAt (wpAny_bind (wpAny_holding (P.truthy_str (len_fit hz) ?_))))
  by_cases h0 : x.length = 0
  · rw [if_pos h0] at hq
    rw [show ((x.length : Int) != 0) = false by simp [h0]]
    exact hq A g _ _ _ hA hB R1 fun c v σ' h' tk hq R' p t' => hQ c v σ' h' tk hq R' p (t.trans t')
  · rw [if_neg h0] at hq
    rw [show ((x.length : Int) != 0) = true by simp; omega]
    exact wpAny_pure (hQ _ _ σ1 h1 _ hq R1 (.str ..) t)
/-- a <= b <= c, as a test -/
theorem evb_cmp2 {l r1 r2 : Expr} {op1 op2 : CmpOp} {pos : Pos} {Q : Bool → St → Prop}
    (h : EvE prog w Bs k env l m σ fun a σ1 => EvE prog w Bs k env r1 m σ1 fun b σ2 => ∃ t, CmpG prog w σ2 op1 a b t ∧ if t then EvE prog w Bs k env r2 m σ2 fun c σ3 => (∃ u, CmpG prog w σ3 op2 b c u ∧ Q u σ3) else Q false σ2)
    (hm : lastMarks [op1, op2] [r1, r2] = false := by with_unfolding_all rfl) :
    EvB prog w Bs k env (.Compare l [op1, op2] [r1, r2] pos) m σ Q := fun A g s Qc Ec hA hB R hQ => by
  refine isTrue_chain (h A g s _ _ hA hB R fun ca a σ1 h1 tk1 hh R1 ra t1 => ?_) hm
  refine test_link (hh A g _ _ _ hA hB R1 fun cb b σ2 h2 tk2 ⟨t, hc, hq⟩ R2 rb t2 => ?_)
  refine hc A k _ { s with heap := h2, toks := tk2 } _ _ _ _ hA R2.rh (ra.mono t2) rb fun tk3 => wpAny_truthy_bool ?_
  cases t with
  | false => exact hQ _ _ σ2 h2 tk3 hq R2 rfl (t1.trans t2)
  | true =>
    have hq' : EvE prog w Bs k env r2 m σ2 fun c σ3 => (∃ u, CmpG prog w σ3 op2 b c u ∧ Q u σ3) := hq
    refine test_last (hq' A g _ _ _ hA hB R2 fun cc c σ3 h3 tk4 ⟨u, hc2, hq2⟩ R3 rc t3 => ?_)
    exact hc2 A k _ { s with heap := h3, toks := tk4 } _ _ _ _ hA R3.rh (rb.mono t3) rc fun tk5 => wpAny_truthy_bool (hQ _ _ σ3 h3 tk5 hq2 R3 rfl (t1.trans (t2.trans t3)))
inductive PartV : V → Option Int → Prop
  | none : PartV .none none
  | int (i : Int) : PartV (.int i) (some i)
/-- an item of a text -/
theorem ev_itemT {value slice : Expr} {pos : Pos} {Q : V → St → Prop} (h : EvE prog w Bs k env value m σ fun o σ1 => EvE prog w Bs k env slice m σ1 fun i σ2 => ∃ x j c, o = .str x ∧ i = .int j ∧ 0 ≤ j ∧ j < 1000000 ∧ x.cps[j.toNat]? = some c ∧ Q (.str ⟨#[c]⟩) σ2)
    (hs : ∀ o i, subscripted slice false o i = operate [o, i] (getItem o i) := by intro _ _; rfl) : EvE prog w Bs k env (.Subscript value slice pos) m σ Q := fun A g s Qc Ec hA hB R hQ =>
  Subscript_ (Ev.two (Qc := fun c d s₂ => wpAny (model prog w) A (subscriptTail value slice c d) Qc Ec s₂) h (fun t r => r.mono t) hA hB R fun c d o i σ' h' tk ⟨x, j, cc, eo, ei, h0, h1, hx, hq⟩ R' ro ri t => by
    subst eo ei
    cases ro; cases ri
    have hlt : j.toNat < x.cps.size := (Array.getElem?_eq_some_iff.mp hx).1
    refine tail_any (T := "str") (s := { s with heap := h', toks := tk }) (typeIs_str _ _ _) F.slot_str_getitem.lookup (PyProof.Rows.getItem_str ?_ ?_ (hQ _ _ σ' h' _ hq R' (.str ..) t)) (hs _ _)
    · rw [decide_eq_false (by omega), decide_eq_false (by omega)]; rfl
    · have hlen : x.length = x.cps.size := rfl
      have e : seqIndex? j x.length = some j.toNat := by
        unfold seqIndex?
        have e1 : (if j < 0 then j + (x.length : Int) else j) = j := if_neg (by omega)
        simp only [e1]
        rw [if_pos (by rw [Bool.and_eq_true, decide_eq_true_eq, decide_eq_true_eq]; omega)]
      rw [e]
      exact hx)
/-- a slice of a text -/
theorem ev_sliceT {value : Expr} {lower upper : Option Expr} {p pos : Pos} {Q : V → St → Prop}
    (h : EvE prog w Bs k env value m σ fun o σ1 => EvP prog w Bs k env lower m σ1 fun l σ2 => EvP prog w Bs k env upper m σ2 fun u σ3 =>
      ∃ x lo hi, o = .str x ∧ PartV l lo ∧ PartV u hi ∧ x.length ≤ sizeLine ∧ Q (.str (Txt.slice x lo hi)) σ3)
    (ht : ∀ o r, letTemporaryGo value o r = pure () := by intro _ _; rfl) : EvE prog w Bs k env (.Subscript value (.Slice lower upper none p) pos) m σ Q := fun A g s Qc Ec hA hB R hQ => by
  refine wpAny_Subscript_Slice (T := "str") F.slot_str_getitem.lookup (h A g s _ _ hA hB R fun co o σ1 h1 tk1 hl R1 ro t1 => wpAny_Slice (hl A g _ _ _ hA hB R1 fun cl l σ2 h2 tk2 hu R2 rl t2 => hu A g _ _ _ hA hB R2 fun cu u σ3 h3 tk3 hq R3 ru t3 => ?_)) ht
  obtain ⟨x, lo, hi, rfl, pl, pu, hz, hq⟩ := hq
  cases ro
  rw [evalPart_none]
  have e1 : ∃ q : Option (Int × Tok), cl = partValue q ∧ q.map (·.1) = lo := by
    cases pl with
    | none => cases rl; exact ⟨none, rfl, rfl⟩
    | int i => cases rl; exact ⟨some (i, _), rfl, rfl⟩
  have e2 : ∃ q : Option (Int × Tok), cu = partValue q ∧ q.map (·.1) = hi := by
    cases pu with
    | none => cases ru; exact ⟨none, rfl, rfl⟩
    | int i => cases ru; exact ⟨some (i, _), rfl, rfl⟩
  obtain ⟨q1, rfl, rfl⟩ := e1
  obtain ⟨q2, rfl, rfl⟩ := e2
  have kp := push_keep h3 { cls := .type "slice", data := .fields #[partValue q1, partValue q2, .none] }
  refine wpAny_pure ⟨typeIs_str _ _ _, wpAny_getItem_str_slice (l := q1) (u := q2) (st := none) ⟨_, Heap.get?_push_size _ rfl, rfl, rfl⟩ rfl
    (post_val_or_str ⟨Nat.le_trans (Txt.slice_le x _ _) hz, fun t' k' => hQ _ _ σ3 _ k' hq (R3.ext kp) (.str ..) (t1.trans (t2.trans (t3.trans (.of_keep kp))))⟩)⟩
-- for c in text
theorem iter_str {I : Addr} {T : String} {t : Tok} (hT : T ≠ "tuple") (hw : ∀ A' : Around, A'.handled = none → Walks prog w A' I [I] [I] x.cps.size (SignAt x) (fun i h => h.IsStrIter I T x t i)) (hself : ∀ (A : Around) (i : Nat) (s : Shared) (Qc : Value → Shared → Prop) (Ec : Value → Shared → Prop), s.heap.IsStrIter I T x t i → Qc (.ref I) s → wpAny (model prog w) A (pyIter (.ref I)) Qc Ec s) :
    Iter prog w I [I] [I] (x.cps.toList.map fun c => .str ⟨#[c]⟩) (fun _ => True) (fun i h => h.IsStrIter I T x t i) where
  sub := fun _ hb => hb
  there := fun i h st b hb => by
    obtain ⟨o, ho, _⟩ := st
    rw [List.mem_singleton.mp hb]; exact ⟨o, ho⟩
  frame := fun i h h' st kp _ => let ⟨o, ho, r⟩ := st; ⟨o, kp I (.head _) o ho, r⟩
  item := fun A k g σ s Qc Ec i v hA R hn st hv hQ => by
    rw [List.getElem?_map] at hv
    obtain ⟨c, hc, rfl⟩ := Option.map_eq_some_iff.mp hv
    have hlt : i < x.cps.size := by
      have := (List.getElem?_eq_some_iff.mp hc).1
      simpa using this
    refine (hw A hA.1).item i s _ _ hlt st fun v h' tk hP st' kp => ?_
    obtain ⟨c', u, e1, rfl⟩ := hP
    have : c' = c := by
      rw [Array.getElem?_toList] at hc
      rw [e1] at hc; exact Option.some.inj hc
    subst this
    have tk : TK s.heap h' := by
      obtain ⟨o, hoI, hcI, _⟩ := st
      exact tk_but kp fun b hb => by
        rw [List.mem_singleton.mp hb]; exact not_tup hoI hcI hT
    exact hQ _ h' _ (.str ..) st' kp tk
  done := fun A k g σ s Qc Ec hA R hn st hQ => by
    refine (hw A hA.1).done s _ _ (by simpa using st) fun h' tk kp => ?_
    have tk' : TK s.heap h' := by
      obtain ⟨o, hoI, hcI, _⟩ := st
      exact tk_but kp fun b hb => by
        rw [List.mem_singleton.mp hb]; exact not_tup hoI hcI hT
    exact hQ h' tk kp tk'
  self := hself
theorem its_str {K : ∀ (vs : List V) (need : St → Prop), St → Prop} (h : K (x.cps.toList.map fun c => .str ⟨#[c]⟩) (fun _ => True) σ) : Its prog w Bs k L (.str x) m σ K := by
  intro A g s cv Qc Ec hA hB R r hQ
  cases r
  rename_i t
  obtain ⟨o1, o2⟩ := push_off R
  have tail : ∀ (I : Addr) (T : String) (i : Nat) (v : V), (x.cps.toList.map fun c => V.str ⟨#[c]⟩)[i]? = some v → ∀ elts x1 pos cv (s : Shared) (Qc : Unit → Shared → Prop) (Ec : Value → Shared → Prop), VR s.heap cv v → s.heap.IsStrIter I T x t (i + 1) → Qc () s → wpAny (model prog w) A (letOwnedTupleGo (.Tuple elts x1 pos) (.ref I) cv) Qc Ec s := by
    intro I T i v hv elts x1 pos cv s' Qc' Ec' rv st hq
    rw [List.getElem?_map] at hv
    obtain ⟨c, _, rfl⟩ := Option.map_eq_some_iff.mp hv
    cases rv
    exact wpAny_pure hq
  cases ha : x.cps.all (· < 128)
  · have kp := push_keep s.heap { cls := .type "str_iterator", data := .fields #[.str x t, .int 0 0] }
    refine wpAny_pyIter_wide ha (hQ _ _ _ _ _ _ σ _ s.toks h (iter_str (T := "str_iterator") (t := t) (by decide) (fun A' hA => Walks.strWide hA _ x t) fun A i s Qc Ec st hQ => wpAny_pyIter_striter_wide st hQ) ⟨_, Heap.get?_push_size _ rfl, rfl, rfl⟩ (R.ext kp) (.of_keep kp) o1 o2 trivial (tail _ _))
  · have kp := push_keep s.heap { cls := .type "str_ascii_iterator", data := .fields #[.str x t, .int 0 0] }
    refine wpAny_pyIter_ascii ha (hQ _ _ _ _ _ _ σ _ s.toks h (iter_str (T := "str_ascii_iterator") (t := t) (by decide) (fun A' hA => Walks.strAscii hA _ x t) fun A i s Qc Ec st hQ => wpAny_pyIter_striter_ascii st hQ) ⟨_, Heap.get?_push_size _ rfl, rfl, rfl⟩ (R.ext kp) (.of_keep kp) o1 o2 trivial (tail _ _))
/-- for c in a text, by an invariant -/
theorem evx_for_str {z : Str} {px pos : Pos} {iter : Expr} {body : List Stmt} {Q : Fl → Env' → St → Prop}
    (h : EvE prog w Bs k env iter m σ fun v σ1 => ∃ x, v = .str x ∧ ∃ (Inv : List Nat → Env' → St → Prop) (m1 : Env') (σ2 : St), leE m1 m ∧ SubP σ2 σ1 ∧ Inv [] m1 σ2 ∧
      (∀ pre c post m σ, x.cps.toList = pre ++ c :: post → Inv pre m σ → EvS prog w Bs k env body (mset m z (.str ⟨#[c]⟩)) σ fun f m' σ' => match f with
        | .brk => Q .next m' σ'
        | .ret u => Q (.ret u) m' σ'
        | _ => ∃ m1 σ1, leE m1 m' ∧ SubP σ1 σ' ∧ Inv (pre ++ [c]) m1 σ1) ∧
      (∀ m1 σ1 m σ, leE m1 m → SubP σ1 σ → Inv x.cps.toList m1 σ1 → Q .next m σ))
    (hl : env.kindOf z = some .local := by rfl) (hk : env.scope.kind = .function := by rfl) (hs : ∀ x, foldedSetIterable iter env x = pure x := by intro _; rfl) :
    EvX prog w Bs k env (.For (.Name z px) iter body [] pos) m σ Q :=
  evx_for (h.mono fun v σ1 hh => by
    obtain ⟨x, rfl, Inv, m1, σ2, i1, i2, i3, step, done⟩ := hh
    have inj : ∀ {a b : List Nat}, (a.map fun c => V.str ⟨#[c]⟩) = (b.map fun c => V.str ⟨#[c]⟩) → a = b := by
      intro a
      induction a with
      | nil => intro b h; cases b with
        | nil => rfl
        | cons _ _ => simp at h
      | cons p a ih => intro b h; cases b with
        | nil => simp at h
        | cons q b =>
          simp only [List.map_cons, List.cons.injEq, V.str.injEq, Str.mk.injEq, Array.mk.injEq] at h
          rw [h.1.1, ih h.2]
    refine its_str ?_
    refine forB_inv (fun pre m s => ∃ ps, pre = (ps.map fun c => V.str ⟨#[c]⟩) ∧ Inv ps m s) ?_ (fun m1 σ1 m σ h1 h2 ⟨ps, e, h3⟩ => done m1 σ1 m σ h1 h2 (by rw [inj e]; exact h3)) i1 i2 ⟨[], rfl, i3⟩ mset_mono fun _ _ _ _ => trivial
    rintro pre v post m σ e ⟨ps, rfl, hi⟩
    obtain ⟨l1, l2, e1, e2, e3⟩ := List.map_eq_append_iff.mp e
    obtain ⟨c, l3, rfl, rfl, rfl⟩ := List.map_eq_cons_iff.mp e3
    obtain rfl := inj e2
    refine EvSt.mono (step l1 c l3 m σ e1 hi) fun f m' σ' hq => ?_
    have nx : (∃ m1 σ1, leE m1 m' ∧ SubP σ1 σ' ∧ Inv (l1 ++ [c]) m1 σ1) → ∃ m1 σ1, leE m1 m' ∧ SubP σ1 σ' ∧ True ∧ ∃ ps, (l1.map fun c => V.str ⟨#[c]⟩) ++ [V.str ⟨#[c]⟩] = (ps.map fun c => V.str ⟨#[c]⟩) ∧ Inv ps m1 σ1 := by
      rintro ⟨m2, σ2, h1, h2, h3⟩
      exact ⟨m2, σ2, h1, h2, trivial, l1 ++ [c], by simp, h3⟩
    cases f with
    | next => exact nx hq
    | cont => exact nx hq
    | brk => exact hq
    | ret u => exact hq) hl hk hs
end
end Mine

set_option Elab.async false
set_option linter.unusedVariables false
set_option maxRecDepth 100000
namespace Mine
open PySem PyProof.Rows PySem.Calls PySem.W PySem.Spec

section
variable {prog : Program} {w : World} {Bs : Heap} {k : Nat} {env : Env} {m : Env'} {σ : St} {g h h' : Heap} {L a : Addr} {ob : O} {x y : Str} {mg mb : Str → Option Value}
variable (prog w Bs) in
/-- the parts of an f-string, one behind the other -/
def EvJ (k : Nat) (env : Env) (m : Env') : List Expr → Nat → St → (St → Prop) → Prop
  | [], n, σ, Q => Q σ
  | e :: es, n, σ, Q => EvE prog w Bs k env e m σ fun v σ1 => ∃ y, v = .str y ∧ n + y.length ≤ sizeLine ∧ EvJ k env m es (n + y.length) σ1 Q
theorem evj_nil {n : Nat} {Q : St → Prop} (h : Q σ) : EvJ prog w Bs k env m [] n σ Q := h
theorem evj_cons {e : Expr} {es : List Expr} {n : Nat} {Q : St → Prop} (h : EvE prog w Bs k env e m σ fun v σ1 => ∃ y, v = .str y ∧ n + y.length ≤ sizeLine ∧ EvJ prog w Bs k env m es (n + y.length) σ1 Q) : EvJ prog w Bs k env m (e :: es) n σ Q := h
theorem joins_of {A : Around} {Ec : Value → Shared → Prop} (hA : AOk k A) (hB : ∀ b o, Bs.get? b = some o → g.get? b = some o) : ∀ (es : List Expr) (acc : Str) (σ : St) (s : Shared) (Qs : St → Prop) (Qc : Str → Shared → Prop), acc.length ≤ sizeLine → Rel prog w g env.locals m σ s.heap → EvJ prog w Bs k env m es acc.length σ Qs →
    (∀ out σ' h' tk, out.length ≤ sizeLine → Qs σ' → Rel prog w g env.locals m σ' h' → TK s.heap h' → Qc out { s with heap := h', toks := tk }) → Joins (model prog w) A Ec (evalEach es env) acc Qc s
  | [], acc, σ, s, Qs, Qc, hz, R, hj, hQ => hQ acc σ s.heap s.toks hz hj R (.refl _)
  | e :: es, acc, σ, s, Qs, Qc, hz, R, hj, hQ => by
    show wpAny _ A (eval e env) _ _ _
    refine hj A g s _ _ hA hB R fun cv v σ1 h1 tk1 ⟨y, ev, hy, hj'⟩ R1 rv t1 => ?_
    subst ev
    cases rv
    have hl : (acc ++ y).length = acc.length + y.length := strLen_append ..
    refine ⟨y, _, rfl, by rw [hl]; exact hy, joins_of hA hB es (acc ++ y) σ1 _ Qs Qc (by rw [hl]; exact hy) R1 (by rw [hl]; exact hj') fun out σ' h' tk ho hs R' t' => hQ out σ' h' tk ho hs R' (t1.trans t')⟩
theorem ev_joined {v₁ v₂ : Expr} {rest : List Expr} {pos : Pos} {Q : V → St → Prop} (h : EvJ prog w Bs k env m (v₁ :: v₂ :: rest) 0 σ fun σ1 => ∀ text, Q (.str text) σ1) : EvE prog w Bs k env (.JoinedStr (v₁ :: v₂ :: rest) pos) m σ Q := fun A g s Qc Ec hA hB R hQ =>
  wpAny_JoinedStr (joins_of hA hB _ Str.empty σ s _ _ (by decide) R h fun out σ' h' tk ho hs R' t' => ⟨ho, hQ _ _ σ' h' _ (hs out) R' (.str ..) t'⟩)
theorem ev_fmt {value : Expr} {pos : Pos} {Q : V → St → Prop} (h : EvE prog w Bs k env value m σ fun v σ1 => ∃ i, v = .int i ∧ i.natAbs.log2 < 1920 ∧ Q (.str (Str.ofString (toString i))) σ1) : EvE prog w Bs k env (.FormattedValue value (-1) none pos) m σ Q := fun A g s Qc Ec hA hB R hQ =>
  wpAny_FormattedValue_plain (h A g s _ _ hA hB R fun cv v σ1 h1 tk1 ⟨i, ev, hi, hq⟩ R1 rv t1 => by
    subst ev
    cases rv
    exact wpAny_formatField_int hi (hQ _ _ σ1 h1 _ hq R1 (.str ..) t1))
theorem ev_fmt_a {value : Expr} {pos : Pos} {Q : V → St → Prop} (h : EvE prog w Bs k env value m σ fun v σ1 => ∃ x, v = .str x ∧ x.length ≤ 100 ∧ (∀ c ∈ x.cps.toList, c < 16 ^ 8) ∧ ∀ y, y.length ≤ 20000 → Q (.str y) σ1) : EvE prog w Bs k env (.FormattedValue value 97 none pos) m σ Q := fun A g s Qc Ec hA hB R hQ => by
  rw [arm_eval_FormattedValue]
  refine wpAny_bind (h A g s _ _ hA hB R fun cv v σ1 h1 tk1 ⟨x, ev, hx, hc, hq⟩ R1 rv t1 => ?_)
  subst ev
  cases rv
  refine wpAny_bind (wpAny_standAt ?_)
  show wpAny _ _ (do let v' ← holding [.str x _] (call (.builtin "ascii") [.str x _]); formatField v' Str.empty) Qc Ec _
  refine wpAny_bind (wpAny_holding (call_ascii hx hc fun y t' k' hy => ?_))
  have hz : y.length ≤ sizeLine := by rw [sizeLine_eq]; omega
  exact wpAny_formatField_str (hQ _ _ σ1 h1 _ (hq y hy) R1 (.str ..) t1) (hQ _ _ σ1 h1 _ (hq y hy) R1 (.str ..) t1) hz
theorem len_of_int {i : Int} (h : i.natAbs.log2 < 1920) : (Str.ofString (toString i)).length ≤ sizeLine := int_text_fits h
end
end Mine

set_option Elab.async false
set_option linter.unusedVariables false
set_option linter.unusedSimpArgs false
set_option maxRecDepth 100000
set_option maxHeartbeats 8000000
set_option pp.deepTerms.threshold 6
namespace Mine
open PySem PyProof.Rows PySem.Calls PySem.Spec PySem.Challenge

local macro_rules | `(tactic| walk_at "mv_mem") => `(tactic| first | assumption | exact List.Mem.head _ | (refine List.Mem.tail _ ?_; walk_at "mv_mem"))
local macro_rules | `(tactic| walk_at "mv_up") => `(tactic| first | assumption | exact Up.head | (apply Up.tail; walk_at "mv_up"))
local macro_rules | `(tactic| walk_at "mv_take") => `(tactic| first | exact Take.head | (apply Take.tail; walk_at "mv_take"))
local macro_rules | `(tactic| walk_at "mv_sub") => `(tactic| first | exact SubP.refl _ | exact SubP.nil | (apply SubP.cons; (walk_at "mv_take"); (walk_at "mv_sub")) | (apply SubP.more; walk_at "mv_sub"))
local macro_rules | `(tactic| walk_at "mv_le") => `(tactic| first | exact trivial | (refine ⟨rfl, ?_⟩; walk_at "mv_le"))
local macro_rules | `(tactic| walk_at "dpop") => `(tactic| refine ev_meth PySem.F.plainAttrs_dict PySem.F.slot_dict_pop PySem.F.type_dict_pop ?_)
local macro_rules | `(tactic| walk_at "lpop") => `(tactic| refine ev_meth PySem.F.plainAttrs_list PySem.F.slot_list_pop PySem.F.type_list_pop ?_)
local macro_rules | `(tactic| walk_at "lsort") => `(tactic| refine ev_meth0 PySem.F.plainAttrs_list PyProof.Rows.slot_list_sort (by show builtinType _ = _; rw [builtinType_eq_fast]; kernel_rfl) ?_)
local macro_rules | `(tactic| walk_at "mv1") => `(tactic| first
  | ((with_reducible show EvE _ _ _ _ _ (.Call (.Attribute _ "count" _) _ _ _) _ _ _); refine ev_meth PySem.F.plainAttrs_list PySem.F.slot_list_count PySem.F.type_list_count ?_)
  | ((with_reducible show EvE _ _ _ _ _ (.BoolOp .And _ _) _ _ _); refine ev_and ?_)
  | ((with_reducible show Ev _ _ _ _ _ _ (boolOp _ .And (evalEach [_] _)) _ _ _); refine ev_and1 ?_)
  | ((with_reducible show Ev _ _ _ _ _ _ (boolOp _ .And (evalEach (_ :: _ :: _) _)) _ _ _); refine ev_andc ?_)
  | ((with_reducible show ∃ b, V.bool _ = V.bool b ∧ _); refine ⟨_, rfl, ?_⟩)
  | ((with_reducible show ite _ _ _); first | refine if_tt (by rfl) ?_ | refine if_ff (by rfl) ?_)
  | ((with_reducible show EvS _ _ _ _ _ [] _ _ _); refine evs_nil ?_)
  | ((with_reducible show EvX _ _ _ _ _ (.If _ _ _ _) _ _ _); refine evx_if ?_)
  | ((with_reducible show EvX _ _ _ _ _ (.Return (some _) _) _ _ _); refine evx_ret ?_)
  | ((with_reducible show EvX _ _ _ _ _ (.Assign [.Name _ _] (.ListComp _ _ _ _) _) _ _ _); first | refine evx_assign_comp (by rfl) (by decide) ?_ | refine evx_assign_cell (by rfl) ?_)
  | ((with_reducible show EvX _ _ _ _ _ (.Assign [.Name _ _] _ _) _ _ _); first | refine evx_assign ?_ | refine evx_assign_cell (by rfl) ?_)
  | ((with_reducible show ∃ ov σ2, Up _ (.cell ov) (.cell (some _)) _ σ2 ∧ _); refine ⟨_, _, by walk_at "mv_up", ?_⟩)
  | ((with_reducible show EvX _ _ _ _ _ (.Assign [.Subscript _ _ _] _ _) _ _ _); refine evx_setitem ?_)
  | ((with_reducible show EvX _ _ _ _ _ (.Delete [.Subscript _ _ _] _) _ _ _); refine evx_delitem ?_)
  | ((with_reducible show EvX _ _ _ _ _ (.Expr _ _) _ _ _); refine evx_expr ?_)
  | ((with_reducible show EvX _ _ _ _ _ (.Break _) _ _ _); refine evx_break ?_)
  | ((with_reducible show EvX _ _ _ _ _ (.Continue _) _ _ _); refine evx_continue ?_)
  | ((with_reducible show EvE _ _ _ _ _ (.Constant (.int _) _ _) _ _ _); refine ev_int ?_)
  | ((with_reducible show EvE _ _ _ _ _ (.Constant (.str _) _ _) _ _ _); refine ev_str ?_)
  | ((with_reducible show EvE _ _ _ _ _ (.Constant .none _ _) _ _ _); refine ev_none ?_)
  | ((with_reducible show EvE _ _ _ _ _ (.Constant (.bool _) _ _) _ _ _); refine ev_bool ?_)
  | ((with_reducible show EvE _ _ _ _ _ (.Name _ _) _ _ _); refine ev_local (by rfl) ?_)
  | ((with_reducible show EvE _ _ _ _ _ (.Name _ _) _ _ _); refine ev_cell (by rfl) (by walk_at "mv_mem") ?_)
  | ((with_reducible show EvE _ _ _ _ _ (.Name _ _) _ _ _); first | refine ev_tname (by assumption) ?_ | refine ev_gname (by assumption) ?_)
  | ((with_reducible show EvE _ _ _ _ _ (.ListComp _ _ _ _) _ _ _); refine ev_comp (by rfl) (by decide) ?_)
  | ((with_reducible show EvT _ _ _ _ _ [] _ _ _); refine evt_nil ?_)
  | ((with_reducible show EvT _ _ _ _ _ [_] _ _ _); refine evt_one ?_)
  | ((with_reducible show EvE _ _ _ _ _ (.Subscript _ (.Slice _ _ _ _) _) _ _ _); refine ev_slice ?_)
  | ((with_reducible show EvE _ _ _ _ _ (.Subscript _ _ _) _ _ _); refine ev_item ?_)
  | ((with_reducible show EvE _ _ _ _ _ (.BinOp _ .Mod _ _) _ _ _); refine ev_binop ?_)
  | ((with_reducible show EvE _ _ _ _ _ (.BinOp _ .Sub _ _) _ _ _); refine ev_binop ?_)
  | ((with_reducible show EvE _ _ _ _ _ (.BinOp _ .FloorDiv _ _) _ _ _); refine ev_binop ?_)
  | ((with_reducible show EvE _ _ _ _ _ (.BinOp _ .Mult _ _) _ _ _); refine ev_binop ?_)
  | ((with_reducible show EvE _ _ _ _ _ (.BinOp _ .Add _ _) _ _ _); refine ev_addG ?_)
  | ((with_reducible show AddG _ _ _ (.int _) (.int _) _); refine addG_int ?_)
  | ((with_reducible show ∃ c, Bin .Mod _ _ c ∧ _); refine ⟨_, Bin.mod _ _ (by first | decide | omega), ?_⟩)
  | ((with_reducible show ∃ c, Bin .FloorDiv _ _ c ∧ _); refine ⟨_, Bin.div _ _ (by first | decide | omega) (by first | decide | omega), ?_⟩)
  | ((with_reducible show ∃ c, Bin .Sub _ _ c ∧ _); refine ⟨_, Bin.sub _ _, ?_⟩)
  | ((with_reducible show ∃ c, CmpG _ _ _ _ _ _ c ∧ _); refine ⟨_, Cmp.gen (by constructor), ?_⟩)
  | ((with_reducible show NoRef _ ∧ _); refine ⟨by constructor, ?_⟩)
  | ((with_reducible show List.length _ ≤ sizeLine ∧ _); refine ⟨len_ok (by simp), ?_⟩)
  | ((with_reducible show ∃ v, Item _ _ (.int _) v ∧ _); refine ⟨_, Item.tup (by decide) (by decide) (by rfl), ?_⟩)
  | ((with_reducible show Kd _ _ _ ∧ _); first | refine ⟨Kd.list (by walk_at "mv_mem") (by rfl), ?_⟩ | refine ⟨Kd.dict (by walk_at "mv_mem") (by rfl), ?_⟩ | refine ⟨Kd.str _, ?_⟩)
  | ((with_reducible show EvE _ _ _ _ _ (.Tuple _ _ _) _ _ _); refine ev_tuple ?_)
  | ((with_reducible show EvE _ _ _ _ _ (.List _ _) _ _ _); refine ev_list ?_)
  | ((with_reducible show EvE _ _ _ _ _ (.Dict [] [] _) _ _ _); refine ev_dict0 ?_)
  | ((with_reducible show EvE _ _ _ _ _ (.Compare _ _ _ _) _ _ _); refine ev_cmpG ?_)
  | ((with_reducible show EvE _ _ _ _ _ (.Call (.Attribute _ "append" _) _ _ _) _ _ _); refine ev_meth PySem.F.plainAttrs_list PySem.F.slot_list_append PySem.F.type_list_append ?_)
  | ((with_reducible show EvE _ _ _ _ _ (.Call (.Attribute _ "get" _) _ _ _) _ _ _); refine ev_meth PySem.F.plainAttrs_dict PySem.F.slot_dict_get PySem.F.type_dict_get ?_)
  | ((with_reducible show EvE _ _ _ _ _ (.Call (.Attribute _ "items" _) [] _ _) _ _ _); refine ev_meth0 PySem.F.plainAttrs_dict PySem.F.slot_dict_items PySem.F.type_dict_items ?_)
  | ((with_reducible show EvE _ _ _ _ _ (.Call (.Attribute _ "keys" _) [] _ _) _ _ _); refine ev_meth0 PySem.F.plainAttrs_dict PySem.F.slot_dict_keys PySem.F.type_dict_keys ?_)
  | ((with_reducible show EvE _ _ _ _ _ (.Call (.Attribute _ "values" _) [] _ _) _ _ _); refine ev_meth0 PySem.F.plainAttrs_dict PySem.F.slot_dict_values PySem.F.type_dict_values ?_)
  | ((with_reducible show EvE _ _ _ _ _ (.Call (.Attribute _ "update" _) _ _ _) _ _ _); refine ev_meth PySem.F.plainAttrs_dict PySem.F.slot_dict_update PySem.F.type_dict_update ?_)
  | ((with_reducible show EvE _ _ _ _ _ (.Call (.Attribute _ "copy" _) [] _ _) _ _ _); refine ev_meth0 PySem.F.plainAttrs_dict PySem.F.slot_dict_copy PySem.F.type_dict_copy ?_)
  | ((with_reducible show EvE _ _ _ _ _ (.Call (.Name _ _) (_ :: _) [] _) _ _ _); first | refine ev_bfn (by assumption) ?_ | refine ev_tfn (by assumption) ?_ | refine ev_fn (by assumption) (by assumption) ?_)
  | ((with_reducible show EvE _ _ _ _ _ (.Call (.Name _ _) [] [] _) _ _ _); refine ev_fn0 (by assumption) (by assumption) ?_)
  | ((with_reducible show EvA _ _ _ _ _ _ [] _ _ _); refine eva_nil ?_)
  | ((with_reducible show EvA _ _ _ _ _ _ (_ :: _) _ _ _); refine eva_cons ?_)
  | ((with_reducible show EvP _ _ _ _ _ none _ _ _); refine evp_none ?_)
  | ((with_reducible show EvP _ _ _ _ _ (some _) _ _ _); refine evp_some ?_)
  | ((with_reducible show EvB _ _ _ _ _ (.Compare _ _ _ _) _ _ _); refine evb_cmpG ?_)
  | ((with_reducible show Ev _ _ _ _ _ _ (allTrue .And [] _) _ _ _); refine all_and_nil ?_)
  | ((with_reducible show Ev _ _ _ _ _ _ (allTrue .Or [] _) _ _ _); refine all_or_nil ?_)
  | ((with_reducible show Ev _ _ _ _ _ _ (allTrue .And (_ :: _) _) _ _ _); refine all_and_cons ?_)
  | ((with_reducible show Ev _ _ _ _ _ _ (allTrue .Or (_ :: _) _) _ _ _); refine all_or_cons ?_)
  | ((with_reducible show EvB _ _ _ _ _ (.BoolOp .And _ _) _ _ _); refine evb_and ?_)
  | ((with_reducible show EvB _ _ _ _ _ (.BoolOp .Or _ _) _ _ _); refine evb_or ?_)
  | ((with_reducible show EvB _ _ _ _ _ (.UnaryOp .Not _ _) _ _ _); refine evb_not ?_))
local macro_rules | `(tactic| walk_at "mv") => `(tactic| first | walk_at "mv1" | ((with_reducible show EvS _ _ _ _ _ _ _ _ _); refine evs_cons ?_))
local macro_rules | `(tactic| walk_at "mw") => `(tactic| first | walk_at "mv1" | ((with_reducible show EvS _ _ _ _ _ (.Assign _ _ _ :: _) _ _ _); refine evs_cons ?_) | ((with_reducible show EvS _ _ _ _ _ (.Expr _ _ :: _) _ _ _); refine evs_cons ?_) | ((with_reducible show EvS _ _ _ _ _ (.Return _ _ :: _) _ _ _); refine evs_cons ?_) | ((with_reducible show EvS _ _ _ _ _ (.For _ _ _ _ _ :: _) _ _ _); refine evs_cons ?_))
local macro_rules | `(tactic| walk_at "mg") => `(tactic| first | walk_at "mv1" | ((with_reducible show EvStG _ _ _ _ _ _ _ (execs (.Assign _ _ _ :: _) _) _ _ _); refine evsG_cons (EvSt.toG ?_)) | ((with_reducible show EvStG _ _ _ _ _ _ _ (execs (.Return _ _ :: _) _) _ _ _); refine evsG_cons (EvSt.toG ?_)) | ((with_reducible show EvStG _ _ _ _ _ _ _ (execs (.For _ _ _ _ _ :: _) _) _ _ _); refine evsG_cons (EvSt.toG ?_)))
local macro_rules | `(tactic| walk_at "mgs") => `(tactic| repeat (walk_at "mg"))
local macro_rules | `(tactic| walk_at "mws") => `(tactic| repeat (walk_at "mw"))
local macro_rules | `(tactic| walk_at "mvs") => `(tactic| repeat (walk_at "mv"))
local macro_rules | `(tactic| walk_at "mv1") => `(tactic| first
  | ((with_reducible show EvE _ _ _ _ _ (.Call (.Attribute _ "removeprefix" _) _ _ _) _ _ _); refine ev_meth PySem.F.plainAttrs_str PySem.F.slot_str_removeprefix PySem.F.type_str_removeprefix ?_)
  | ((with_reducible show EvE _ _ _ _ _ (.Call (.Attribute _ "lstrip" _) _ _ _) _ _ _); refine ev_meth PySem.F.plainAttrs_str PySem.F.slot_str_lstrip PySem.F.type_str_lstrip ?_)
  | ((with_reducible show EvE _ _ _ _ _ (.Call (.Attribute _ "startswith" _) _ _ _) _ _ _); refine ev_meth PySem.F.plainAttrs_str PySem.F.slot_str_startswith PySem.F.type_str_startswith ?_)
  | ((with_reducible show EvE _ _ _ _ _ (.Call (.Attribute _ "index" _) _ _ _) _ _ _); refine ev_meth PySem.F.plainAttrs_str PySem.F.slot_str_index PySem.F.type_str_index ?_)
  | ((with_reducible show EvE _ _ _ _ _ (.Call (.Attribute _ "join" _) _ _ _) _ _ _); refine ev_meth PySem.F.plainAttrs_str PySem.F.slot_str_join PySem.F.type_str_join ?_)
  | ((with_reducible show EvE _ _ _ _ _ (.Call (.Attribute _ "isascii" _) [] _ _) _ _ _); refine ev_meth0 PySem.F.plainAttrs_str PySem.F.slot_str_isascii PySem.F.type_str_isascii ?_)
  | ((with_reducible show EvE _ _ _ _ _ (.Call (.Attribute _ "isdigit" _) [] _ _) _ _ _); refine ev_meth0 PySem.F.plainAttrs_str PySem.F.slot_str_isdigit PySem.F.type_str_isdigit ?_)
  | ((with_reducible show EvB _ _ _ _ _ (.Call _ _ _ _) _ _ _); refine evb_val ?_)
  | ((with_reducible show ∃ b, Tru (.bool _) b ∧ _); refine ⟨_, Tru.bool _, ?_⟩)
  | ((with_reducible show EvE _ _ _ _ _ (.IfExp _ _ _ _) _ _ _); refine ev_ifexp ?_)
  | ((with_reducible show EvE _ _ _ _ _ (.UnaryOp .USub _ _) _ _ _); refine ev_neg ?_)
  | ((with_reducible show ∃ i, V.int _ = V.int i ∧ _); refine ⟨_, rfl, ?_⟩)
  | ((with_reducible show EvE _ _ _ _ _ (.BinOp _ .Pow _ _) _ _ _); refine ev_pow ?_)
  | ((with_reducible show ∃ i n, V.int _ = V.int i ∧ V.int _ = V.int n ∧ _); refine ⟨_, _, rfl, rfl, by decide, by decide, by decide, ?_⟩)
  | ((with_reducible show EvE _ _ _ _ _ (.BoolOp .Or [_, _] _) _ _ _); refine ev_orT ?_)
  | ((with_reducible show EvE _ _ _ _ _ (.FormattedValue _ 97 none _) _ _ _); refine ev_fmt_a ?_)
  | ((with_reducible show EvE _ _ _ _ _ (.FormattedValue _ _ none _) _ _ _); refine ev_fmt ?_)
  | ((with_reducible show EvE _ _ _ _ _ (.JoinedStr _ _) _ _ _); refine ev_joined ?_)
  | ((with_reducible show EvJ _ _ _ _ _ _ (_ :: _) _ _ _); refine evj_cons ?_)
  | ((with_reducible show EvJ _ _ _ _ _ _ [] _ _ _); refine evj_nil ?_)
  | ((with_reducible show EvE _ _ _ _ _ (.Subscript (.Name "text" _) (.Slice _ _ _ _) _) _ _ _); refine ev_sliceT ?_)
  | ((with_reducible show EvE _ _ _ _ _ (.Subscript (.Name "plain" _) (.Slice _ _ _ _) _) _ _ _); refine ev_sliceT ?_)
  | ((with_reducible show EvE _ _ _ _ _ (.Subscript (.Name "_law_odd" _) _ _) _ _ _); refine ev_itemT ?_)
  | ((with_reducible show EvE _ _ _ _ _ (.Subscript (.Name "_law_mixed" _) _ _) _ _ _); refine ev_itemT ?_)
  | ((with_reducible show EvE _ _ _ _ _ (.BinOp (.Constant (.str _) _ _) .Mult _ _) _ _ _); refine ev_mulT ?_)
  | ((with_reducible show EvB _ _ _ _ _ (.Compare _ [_, _] _ _) _ _ _); refine evb_cmp2 ?_))
local macro_rules | `(tactic| walk_at "mt") => `(tactic| first | walk_at "mv1" | ((with_reducible show EvStT _ _ _ _ _ (execs (.Assign _ _ _ :: _) _) _ _ _ _); refine evsT_cons (EvSt.toT ?_)) | ((with_reducible show EvStT _ _ _ _ _ (execs (.Return _ _ :: _) _) _ _ _ _); refine evsT_cons (EvSt.toT ?_)) | ((with_reducible show EvStT _ _ _ _ _ (execs (.For _ _ _ _ _ :: _) _) _ _ _ _); refine evsT_cons (EvSt.toT ?_)) | ((with_reducible show EvStT _ _ _ _ _ (execs [] _) _ _ _ _); refine evsT_nil ?_))
local macro_rules | `(tactic| walk_at "mts") => `(tactic| repeat (walk_at "mt"))
section
variable {prog : Program} {w : World} {Bs : Heap} {k : Nat} {σ : St} {mg mb : Str → Option Value}

theorem bind_cell {pm code doc : Value} : ∀ cvs : List Value, cvs.length = 2 → bindArgs (docDef (defAt pw_k6_0104 10).name (defAt pw_k6_0104 10).params (defAt pw_k6_0104 10).body (defAt pw_k6_0104 10).scope pm code doc) ⟨cvs, []⟩ = pure ((["script", "i"] : List Str).zip cvs)
  | [a, b], _ => rfl
theorem cell_spec {l : Addr} {ob : O} {ns : List Int} {i : Int} {j : Nat} {f : Addr} {pm code doc : Value} {Q : V → St → Prop} (C : Ctx Bs mg mb) (F : FnAt Bs mg "_law_cell" (defAt pw_k6_0104 10) f pm code doc) (BL : BIs Bs mg mb "len" (.builtin "len"))
    (hm : (l, ob) ∈ σ) (hl : ob.peel = .list (ns.map .int)) (hz : ns.length ≤ 63) (hj : i = (j : Int)) (hi : i < 1000000) (hq : Q (.int (cz ns j)) σ) : EvF prog w Bs (k + 1) (.ref f) [.ref l, .int i] σ Q := by
  subst hj
  refine evf_nc (ps := ["script", "i"]) C F bind_cell rfl (by decide) (by decide) fun L => ?_
  have hz2 : (ns.map V.int).length ≤ sizeLine := by rw [sizeLine_eq]; simp; omega
  walk_at "mvs"
  refine bf_len_list (ob := ob) hm hl hz2 ?_
  walk_at "mvs"
  split
  · rename_i hc
    have hc' : j < ns.length := by simpa using hc
    walk_at "mvs"
    exact ⟨_, Item.list (j := j) hm hl (by omega) (by omega) (v := .int (cz ns j)) (by rw [Int.toNat_natCast]; exact cz_in hc'), ⟨_, SubP.refl _, hq⟩⟩
  · rename_i hc
    have hc' : ¬ j < ns.length := by simpa using hc
    rw [cz_out hc'] at hq
    walk_at "mvs"
    exact ⟨_, SubP.refl _, hq⟩


def MXN : Int := 1000000000000000000
theorem mx_log : MXN.natAbs.log2 < 1920 := by decide +kernel
theorem mxn_log : (-MXN).natAbs.log2 < 1920 := by decide +kernel
theorem mx_len : (Str.ofString (toString MXN)).length = 19 := by decide +kernel
theorem mxn_len : (Str.ofString (toString (-MXN))).length = 20 := by decide +kernel
theorem size_le {n : Nat} (h : n ≤ 100000) : n ≤ sizeLine := by rw [sizeLine_eq]; omega

theorem bind_check {pm code doc : Value} : ∀ cvs : List Value, cvs.length = 2 → bindArgs (docDef (defAt pw_k6_0104 2).name (defAt pw_k6_0104 2).params (defAt pw_k6_0104 2).body (defAt pw_k6_0104 2).scope pm code doc) ⟨cvs, []⟩ = pure ((["value", "lowest"] : List Str).zip cvs)
  | [a, b], _ => rfl
theorem check_spec {v : Int} {f : Addr} {pm code doc : Value} {Q : V → St → Prop} {X : String → V → St → Prop} (C : Ctx Bs mg mb) (F : FnAt Bs mg "check_number" (defAt pw_k6_0104 2) f pm code doc)
    (BI : BIs Bs mg mb "isinstance" (.builtin "isinstance")) (Bi : BIs Bs mg mb "int" (.type "int")) (Bb : BIs Bs mg mb "bool" (.type "bool")) (BV : BIs Bs mg mb "ValueError" (.type "ValueError")) (GM : GIs Bs mg mb "MAX_NUMBER" (.int MXN))
    (hq : -MXN ≤ v → v ≤ MXN → Q (.int v) σ) (hx : ¬ (-MXN ≤ v ∧ v ≤ MXN) → ∀ a0, X "ValueError" (.raw a0) σ) : EvFT prog w Bs (k + 1) (.ref f) [.int v, .int (-MXN)] σ Q X := by
  refine evfT_c (xs := ["value", "lowest"]) C F bind_check rfl (by decide) [("value", .int v), ("lowest", .int (-MXN))] (fun L => σ) rfl (fun L => rfl) fun L => ?_
  refine evsT_cons (EvSt.toT ?_)
  walk_at "mvs"
  refine bf_isint ?_
  walk_at "mvs"
  refine bf_isint_bool ?_
  walk_at "mvs"
  refine evsT_cons (evxT_if ?_)
  walk_at "mvs"
  have bad : ∀ {Qn : Fl → Env' → St → Prop}, ¬ (-MXN ≤ v ∧ v ≤ MXN) → EvStT prog w Bs k (callEnvC (docDef (defAt pw_k6_0104 2).name (defAt pw_k6_0104 2).params (defAt pw_k6_0104 2).body (defAt pw_k6_0104 2).scope pm code doc) L f)
      (execs (match (defAt pw_k6_0104 2).body with | [_, .If _ b _ _, _] => b | _ => []) (callEnvC (docDef (defAt pw_k6_0104 2).name (defAt pw_k6_0104 2).params (defAt pw_k6_0104 2).body (defAt pw_k6_0104 2).scope pm code doc) L f)) [("value", .int v), ("lowest", .int (-MXN))] σ Qn fun c av _ σ' => ∃ σ'', SubP σ'' σ' ∧ X c av σ'' := by
    intro Qn hb
    refine evsT_cons (evxT_raise (T := "ValueError") excClass_ValueError BV ?_)
    walk_at "mvs"
    refine ⟨_, rfl, size_le (by decide), ?_⟩
    walk_at "mvs"
    refine ⟨mxn_log, ?_⟩
    refine ⟨_, rfl, size_le (by rw [mxn_len]; decide), ?_⟩
    walk_at "mvs"
    refine ⟨_, rfl, size_le (by rw [mxn_len]; decide), ?_⟩
    walk_at "mvs"
    refine ⟨mx_log, ?_⟩
    refine ⟨_, rfl, size_le (by rw [mxn_len, mx_len]; decide), ?_⟩
    intro text
    walk_at "mvs"
    exact ⟨by simp, fun a0 => ⟨σ, SubP.refl _, hx hb a0⟩⟩
  by_cases h1 : -MXN ≤ v
  · refine if_tt (decide_eq_true h1) ?_
    walk_at "mvs"
    by_cases h2 : v ≤ MXN
    · rw [decide_eq_true h2]
      refine if_ff rfl ?_
      refine evsT_nil ?_
      refine evsT_cons (EvSt.toT ?_)
      walk_at "mvs"
      exact ⟨_, SubP.refl _, hq h1 h2⟩
    · rw [decide_eq_false h2]
      refine if_tt rfl ?_
      exact bad fun h => h2 h.2
  · refine if_ff (decide_eq_false h1) ?_
    refine if_tt rfl ?_
    exact bad fun h => h1 h.1

theorem lstrip_len (d : Str) : (Txt.lstripChars d "0").length = (d.cps.toList.dropWhile (fun c => c == 48)).length := by
  rw [← lstrip_zero]; simp [Str.length]
theorem int_body {d : Str} (h : NumText.AllDigits d.cps.toList) (hz : (Txt.lstripChars d "0").length ≠ 0) (hl : (Txt.lstripChars d "0").length ≤ 19) : PySem.intText? (Txt.lstripChars d "0") = some ((NumText.digitsVal d.cps.toList : Nat) : Int) := by
  have e := lstrip_zero d
  rw [intText_digits (x := Txt.lstripChars d "0") (by rw [e]; exact fun c hc => h c ((List.dropWhile_suffix _).subset hc)) ?_ (by omega), e, digitsVal_zeros]
  intro q
  rw [lstrip_len, ← e, q] at hz
  exact hz rfl
theorem int_zero {d : Str} (hz : (Txt.lstripChars d "0").length = 0) : NumText.digitsVal d.cps.toList = 0 := by
  rw [lstrip_len] at hz
  rw [← digitsVal_zeros, List.length_eq_zero_iff.mp hz]; rfl
theorem zero_text : PySem.intText? "0" = some 0 := by decide +kernel
theorem bind_pnum {pm code doc : Value} : ∀ cvs : List Value, cvs.length = 2 → bindArgs (docDef (defAt pw_k6_0104 3).name (defAt pw_k6_0104 3).params (defAt pw_k6_0104 3).body (defAt pw_k6_0104 3).scope pm code doc) ⟨cvs, []⟩ = pure ((["text", "lowest"] : List Str).zip cvs)
  | [a, b], _ => rfl
theorem pnum_spec {x : Str} {f : Addr} {pm code doc : Value} {fk : Addr} {pmk codek dock : Value} {Q : V → St → Prop} {X : String → V → St → Prop} (C : Ctx Bs mg mb) (F : FnAt Bs mg "parse_number" (defAt pw_k6_0104 3) f pm code doc) (hK : FnAt Bs mg "check_number" (defAt pw_k6_0104 2) fk pmk codek dock)
    (BI : BIs Bs mg mb "isinstance" (.builtin "isinstance")) (Bi : BIs Bs mg mb "int" (.type "int")) (Bb : BIs Bs mg mb "bool" (.type "bool")) (Bs' : BIs Bs mg mb "str" (.type "str")) (BL : BIs Bs mg mb "len" (.builtin "len")) (BV : BIs Bs mg mb "ValueError" (.type "ValueError")) (GM : GIs Bs mg mb "MAX_NUMBER" (.int MXN))
    (hz : x.length ≤ 1000) (hc : ∀ c ∈ x.cps.toList, c < 16 ^ 8) (hq : ∀ i, dueO x.cps.toList = some i → Q (.int i) σ) (hx : dueO x.cps.toList = none → ∀ a0, X "ValueError" (.raw a0) σ) : EvFT prog w Bs (k + 2) (.ref f) [.str x, .int (-MXN)] σ Q X := by
  refine evfT_c (xs := ["text", "lowest"]) C F bind_pnum rfl (by decide) [("text", .str x), ("lowest", .int (-MXN))] (fun L => σ) rfl (fun L => rfl) fun L => ?_
  have hd := remove_minus x
  have hdl : (Txt.removeprefix x "-").length ≤ x.length := by
    have e1 : (Txt.removeprefix x "-").cps.toList.length = (Txt.removeprefix x "-").length := by simp [Str.length]
    have e2 : x.cps.toList.length = x.length := by simp [Str.length]
    rw [← e1, hd, ← e2]
    split <;> simp
  replace hd : (Txt.removeprefix x "-").cps.toList = bodyOf x.cps.toList := hd
  refine evsT_cons (EvSt.toT ?_)
  walk_at "mvs"
  refine bf_removeprefix (size_le (by omega)) ?_
  have hasc := ascii_digits (Txt.removeprefix x "-")
  have hstr := lstrip_len (Txt.removeprefix x "-")
  have hib := @int_body (Txt.removeprefix x "-")
  have hiz := @int_zero (Txt.removeprefix x "-")
  rw [hd] at hasc hstr hib hiz
  generalize Txt.removeprefix x "-" = d at *
  walk_at "mvs"
  refine evsT_cons (evxT_if ?_)
  walk_at "mvs"
  have bad : ∀ {Qn : Fl → Env' → St → Prop}, ¬ (bodyOf x.cps.toList ≠ [] ∧ NumText.AllDigits (bodyOf x.cps.toList)) → EvStT prog w Bs (k + 1) (callEnvC (docDef (defAt pw_k6_0104 3).name (defAt pw_k6_0104 3).params (defAt pw_k6_0104 3).body (defAt pw_k6_0104 3).scope pm code doc) L f)
      (execs (match (defAt pw_k6_0104 3).body with | _ :: .If _ b _ _ :: _ => b | _ => []) (callEnvC (docDef (defAt pw_k6_0104 3).name (defAt pw_k6_0104 3).params (defAt pw_k6_0104 3).body (defAt pw_k6_0104 3).scope pm code doc) L f)) [("text", .str x), ("lowest", .int (-MXN)), ("digits", .str d)] σ Qn fun c av _ σ' => ∃ σ'', SubP σ'' σ' ∧ X c av σ'' := by
    intro Qn hb
    have hnone : dueO x.cps.toList = none := by
      unfold dueO
      split
      · rfl
      · rename_i h1
        rw [ad_neg fun h2 => hb ⟨h1, h2⟩]
    refine evsT_cons (evxT_raise (T := "ValueError") excClass_ValueError BV ?_)
    walk_at "mvs"
    refine ⟨_, rfl, size_le (by decide), ?_⟩
    walk_at "mvs"
    refine ⟨x, none, some 40, rfl, .none, .int _, size_le (by omega), ?_⟩
    have hs40 := slice_take x 40
    refine ⟨_, rfl, ?_, ?_, ?_⟩
    · have e1 : (Txt.slice x none (some 40)).cps.toList.length = (Txt.slice x none (some 40)).length := by simp [Str.length]
      rw [← e1]
      have := congrArg List.length hs40
      rw [List.length_take] at this
      show (Txt.slice x none (some ((40 : Nat) : Int))).cps.toList.length ≤ _
      omega
    · intro c hcc
      have hcc' : c ∈ (Txt.slice x none (some ((40 : Nat) : Int))).cps.toList := hcc
      rw [hs40] at hcc'
      exact hc c (List.mem_of_mem_take hcc')
    intro y hy
    refine ⟨_, rfl, size_le ?_, ?_⟩
    · have : (Str.ofString "not a whole number: ").length = 20 := by decide
      show 0 + (Str.ofString "not a whole number: ").length + y.length ≤ _
      omega
    intro text
    walk_at "mvs"
    exact ⟨by simp, fun a0 => ⟨σ, SubP.refl _, hx hnone a0⟩⟩
  refine bf_isascii ?_
  walk_at "mvs"
  cases ha : Txt.isascii d
  · refine if_ff rfl ?_
    refine if_tt rfl ?_
    refine bad fun h => ?_
    have := hasc.mpr h
    rw [ha] at this; cases this
  refine if_tt rfl ?_
  walk_at "mvs"
  refine bf_isdigit ?_
  walk_at "mvs"
  cases hdg : Txt.isdigit d
  · refine if_ff rfl ?_
    refine if_tt rfl ?_
    refine bad fun h => ?_
    have := hasc.mpr h
    rw [ha, hdg] at this; cases this
  refine if_tt rfl ?_
  walk_at "mvs"
  obtain ⟨hne, hall⟩ := hasc.mp (by rw [ha, hdg]; rfl)
  refine evsT_nil ?_
  refine evsT_cons (evxT_if ?_)
  walk_at "mvs"
  have hzl : (Txt.lstripChars d "0").length ≤ 1000 := by
    have e2 : d.cps.toList.length = d.length := by simp [Str.length]
    have := (List.dropWhile_suffix (fun c => c == 48) (l := bodyOf x.cps.toList)).length_le
    rw [hstr, ← hd] at *
    omega
  refine bf_lstripc (size_le (by omega)) ?_
  walk_at "mvs"
  refine bf_len_str (size_le (by omega)) ?_
  walk_at "mvs"
  refine bf_str_int mx_log ?_
  walk_at "mvs"
  refine bf_len_str (size_le (by rw [mx_len]; decide)) ?_
  walk_at "mvs"
  rw [mx_len]
  have hval : dueO x.cps.toList = if 10 ^ 18 < NumText.digitsVal (bodyOf x.cps.toList) then none else some (signOf x.cps.toList * (NumText.digitsVal (bodyOf x.cps.toList) : Nat)) := by
    unfold dueO
    rw [if_neg hne, ad_pos hall]
  by_cases hbig : 19 < (Txt.lstripChars d "0").length
  · refine if_tt (decide_eq_true (by omega)) ?_
    have h19 := digitsVal_big hall (by rw [← hstr]; exact hbig)
    have hnone : dueO x.cps.toList = none := by rw [hval, if_pos (by omega)]
    refine evsT_cons (evxT_raise (T := "ValueError") excClass_ValueError BV ?_)
    walk_at "mvs"
    refine ⟨_, rfl, size_le (by decide), ?_⟩
    walk_at "mvs"
    refine ⟨mxn_log, ?_⟩
    refine ⟨_, rfl, size_le (by rw [mxn_len]; decide), ?_⟩
    walk_at "mvs"
    refine ⟨_, rfl, size_le (by rw [mxn_len]; decide), ?_⟩
    walk_at "mvs"
    refine ⟨mx_log, ?_⟩
    refine ⟨_, rfl, size_le (by rw [mxn_len, mx_len]; decide), ?_⟩
    intro text
    walk_at "mvs"
    exact ⟨by simp, fun a0 => ⟨σ, SubP.refl _, hx hnone a0⟩⟩
  refine if_ff (decide_eq_false (by omega)) ?_
  refine evsT_nil ?_
  refine evsT_cons (EvSt.toT ?_)
  have fin : EvStT prog w Bs (k + 1) (callEnvC (docDef (defAt pw_k6_0104 3).name (defAt pw_k6_0104 3).params (defAt pw_k6_0104 3).body (defAt pw_k6_0104 3).scope pm code doc) L f)
      (execs ((defAt pw_k6_0104 3).body.drop 4) (callEnvC (docDef (defAt pw_k6_0104 3).name (defAt pw_k6_0104 3).params (defAt pw_k6_0104 3).body (defAt pw_k6_0104 3).scope pm code doc) L f)) [("text", .str x), ("lowest", .int (-MXN)), ("digits", .str d), ("value", .int (NumText.digitsVal (bodyOf x.cps.toList) : Nat))] σ (fun fl _ σ' => ∃ σ'', SubP σ'' σ' ∧ Q (retOf fl) σ'') fun c av _ σ' => ∃ σ'', SubP σ'' σ' ∧ X c av σ'' := by
    generalize NumText.digitsVal (bodyOf x.cps.toList) = N at *
    refine evsT_cons (evxT_ret (evT_fn C hK ?_))
    walk_at "mvs"
    refine bf_startswith ?_
    rw [starts_minus]
    walk_at "mvs"
    have hm18 : MXN = ((10 ^ 18 : Nat) : Int) := by decide +kernel
    unfold signOf at hval
    by_cases h45 : x.cps.toList.head? = some 45
    · rw [decide_eq_true h45]
      refine if_tt rfl ?_
      walk_at "mvs"
      rw [if_pos h45] at hval
      refine check_spec C hK BI Bi Bb BV GM (fun h1 h2 => ?_) fun hb a0 => ?_
      · exact ⟨σ, SubP.refl _, hq _ (by rw [hval, if_neg (by omega)]; simp)⟩
      · exact ⟨σ, SubP.refl _, hx (by rw [hval, if_pos (by omega)]) a0⟩
    · rw [decide_eq_false h45]
      refine if_ff rfl ?_
      walk_at "mvs"
      rw [if_neg h45] at hval
      refine check_spec C hK BI Bi Bb BV GM (fun h1 h2 => ?_) fun hb a0 => ?_
      · exact ⟨σ, SubP.refl _, hq _ (by rw [hval, if_neg (by omega)]; simp)⟩
      · exact ⟨σ, SubP.refl _, hx (by rw [hval, if_pos (by omega)]) a0⟩
  walk_at "mvs"
  refine bf_lstripc (size_le (by omega)) ?_
  refine ⟨_, rfl, size_le (by omega), ?_⟩
  by_cases h0 : (Txt.lstripChars d "0").length = 0
  · rw [if_pos h0]
    walk_at "mvs"
    refine bf_int_str zero_text (by decide) ?_
    walk_at "mvs"
    have := hiz h0
    rw [this] at fin
    exact fin
  · rw [if_neg h0]
    walk_at "mvs"
    refine bf_int_str (hib hall h0 (by omega)) (by omega) ?_
    walk_at "mvs"
    exact fin
theorem bind_psig {pm code doc : Value} : ∀ cvs : List Value, cvs.length = 1 → bindArgs (docDef (defAt pw_k6_0104 4).name (defAt pw_k6_0104 4).params (defAt pw_k6_0104 4).body (defAt pw_k6_0104 4).scope pm code doc) ⟨cvs, []⟩ = pure ((["text"] : List Str).zip cvs)
  | [a], _ => rfl
theorem psig_spec {x : Str} {f : Addr} {pm code doc : Value} {fp : Addr} {pmp codep docp : Value} {fk : Addr} {pmk codek dock : Value} {Q : V → St → Prop} {X : String → V → St → Prop} (C : Ctx Bs mg mb) (F : FnAt Bs mg "parse_signed" (defAt pw_k6_0104 4) f pm code doc) (hP : FnAt Bs mg "parse_number" (defAt pw_k6_0104 3) fp pmp codep docp) (hK : FnAt Bs mg "check_number" (defAt pw_k6_0104 2) fk pmk codek dock)
    (BI : BIs Bs mg mb "isinstance" (.builtin "isinstance")) (Bi : BIs Bs mg mb "int" (.type "int")) (Bb : BIs Bs mg mb "bool" (.type "bool")) (Bs' : BIs Bs mg mb "str" (.type "str")) (BL : BIs Bs mg mb "len" (.builtin "len")) (BV : BIs Bs mg mb "ValueError" (.type "ValueError")) (GM : GIs Bs mg mb "MAX_NUMBER" (.int MXN))
    (hz : x.length ≤ 1000) (hc : ∀ c ∈ x.cps.toList, c < 16 ^ 8) (hq : ∀ i, dueO x.cps.toList = some i → Q (.int i) σ) (hx : dueO x.cps.toList = none → ∀ a0, X "ValueError" (.raw a0) σ) : EvFT prog w Bs (k + 3) (.ref f) [.str x] σ Q X := by
  refine evfT_c (xs := ["text"]) C F bind_psig rfl (by decide) [("text", .str x)] (fun L => σ) rfl (fun L => rfl) fun L => ?_
  refine evsT_cons (evxT_ret (evT_fn C hP ?_))
  walk_at "mvs"
  exact pnum_spec C hP hK BI Bi Bb Bs' BL BV GM hz hc (fun i h => ⟨σ, SubP.refl _, hq i h⟩) fun h a0 => ⟨σ, SubP.refl _, hx h a0⟩

theorem bind_due {pm code doc : Value} : ∀ cvs : List Value, cvs.length = 1 → bindArgs (docDef (defAt pw_k6_0104 12).name (defAt pw_k6_0104 12).params (defAt pw_k6_0104 12).body (defAt pw_k6_0104 12).scope pm code doc) ⟨cvs, []⟩ = pure ((["text"] : List Str).zip cvs)
  | [a], _ => rfl
def dueV (cs : List Nat) : V := match dueO cs with | none => .none | some i => .int i
theorem str_eq_iff (x y : Str) : x = y ↔ x.cps.toList = y.cps.toList := ⟨fun h => by rw [h], str_ext⟩
theorem take1_iff (cs : List Nat) : cs.take 1 = [45] ↔ cs.head? = some 45 := by
  cases cs with
  | nil => simp
  | cons a r => simp
theorem due_spec {x : Str} {f : Addr} {pm code doc : Value} {Q : V → St → Prop} (C : Ctx Bs mg mb) (F : FnAt Bs mg "_law_due" (defAt pw_k6_0104 12) f pm code doc) (hz : x.length ≤ 1000) (hq : Q (dueV x.cps.toList) σ) : EvF prog w Bs (k + 1) (.ref f) [.str x] σ Q := by
  refine evf_nc (ps := ["text"]) C F bind_due rfl (by decide) (by decide) fun L => ?_
  walk_at "mv"
  walk_at "mws"
  have hx1 := slice_take x 1
  have hx2 := slice_drop x 1
  refine evs_join (α := Str) (fun b => b.cps.toList = bodyOf x.cps.toList) (fun b => [("sign", .int (signOf x.cps.toList)), ("body", .str b)]) (fun _ => σ) ?_ ?_
  · walk_at "mvs"
    refine ⟨x, none, some 1, rfl, .none, .int _, size_le (by omega), ?_⟩
    walk_at "mvs"
    have e : (Txt.slice x none (some 1) = ("-" : Str)) ↔ x.cps.toList.head? = some 45 := by
      rw [str_eq_iff, ← take1_iff]
      show (Txt.slice x none (some ((1 : Nat) : Int))).cps.toList = [45] ↔ _
      rw [hx1]
    by_cases h45 : x.cps.toList.head? = some 45
    · refine if_tt (decide_eq_true (e.mpr h45)) ?_
      walk_at "mvs"
      refine ⟨x, some 1, none, rfl, .int _, .none, size_le (by omega), ?_⟩
      walk_at "mvs"
      have e1 : signOf x.cps.toList = -1 := if_pos h45
      rw [e1]
      exact ⟨rfl, Txt.slice x (some 1) none, by show (Txt.slice x (some ((1 : Nat) : Int)) none).cps.toList = _; rw [hx2]; unfold bodyOf; rw [if_pos h45], by walk_at "mv_le", SubP.refl _⟩
    · refine if_ff (decide_eq_false fun h => h45 (e.mp h)) ?_
      walk_at "mvs"
      have e1 : signOf x.cps.toList = 1 := if_neg h45
      rw [e1]
      exact ⟨rfl, x, by unfold bodyOf; rw [if_neg h45], by walk_at "mv_le", SubP.refl _⟩
  intro b hb
  unfold dueV dueO at hq
  walk_at "mvs"
  have eb : (b = ("" : Str)) ↔ bodyOf x.cps.toList = [] := by
    rw [str_eq_iff, hb]; rfl
  by_cases hne : bodyOf x.cps.toList = []
  · rw [if_pos hne] at hq
    refine if_tt (decide_eq_true (eb.mpr hne)) ?_
    walk_at "mvs"
    exact ⟨σ, SubP.refl _, hq⟩
  rw [if_neg hne] at hq
  refine if_ff (decide_eq_false fun h => hne (eb.mp h)) ?_
  walk_at "mvs"
  refine evx_for_str ?_
  walk_at "mvs"
  refine ⟨b, rfl, fun pre m s => m = ([("sign", .int (signOf x.cps.toList)), ("body", .str b), ("size", .int (NumText.digitsVal pre : Nat))] : Env') ∧ s = σ ∧ NumText.AllDigits pre, _, _, ?_, ?_, ⟨rfl, rfl, fun c hc => nomatch hc⟩, ?_, ?_⟩
  · walk_at "mv_le"
  · walk_at "mv_sub"
  · rintro pre c post m s e ⟨rfl, rfl, hpre⟩
    walk_at "mvs"
    refine ⟨_, cmp_notInT, ?_⟩
    rw [dig_in]
    by_cases hcd : 48 ≤ c ∧ c ≤ 57
    · refine if_ff (by simp [hcd]) ?_
      walk_at "mvs"
      refine ⟨_, Bin.mul _ _ (.of_right (by decide +kernel)), ?_⟩
      walk_at "mvs"
      refine bf_index (dig_index hcd) ?_
      walk_at "mvs"
      refine ⟨_, _, ?_, SubP.refl _, rfl, rfl, fun d hd => ?_⟩
      · rw [digitsVal_snoc]
        push_cast
        walk_at "mv_le"
      · rcases List.mem_append.mp hd with h | h
        · exact hpre d h
        · rw [List.mem_singleton.mp h]; exact hcd
    · refine if_tt (by simp only [decide_eq_false hcd, Bool.not_false]) ?_
      walk_at "mvs"
      rw [ad_neg fun hall => hcd (hall c (by rw [← hb, e]; exact List.mem_append_right _ (.head _)))] at hq
      exact ⟨s, SubP.refl _, hq⟩
  · rintro m1 σ1 m s h1 h2 ⟨rfl, rfl, hall⟩
    refine EvSt.le h1 (EvSt.subP h2 ?_)
    rw [hb] at hall
    rw [ad_pos hall] at hq
    rw [hb]
    walk_at "mvs"
    generalize NumText.digitsVal (bodyOf x.cps.toList) = N at *
    by_cases hbig : 10 ^ 18 < N
    · rw [if_pos hbig] at hq
      refine if_tt (decide_eq_true (by show (10 : Int) ^ (18 : Nat) < _; omega)) ?_
      walk_at "mvs"
      exact ⟨_, SubP.refl _, hq⟩
    · rw [if_neg hbig] at hq
      refine if_ff (decide_eq_false (by show ¬ (10 : Int) ^ (18 : Nat) < _; omega)) ?_
      walk_at "mvs"
      refine ⟨_, Bin.mul _ _ (.of_left (by unfold signOf; split <;> decide +kernel)), ?_⟩
      walk_at "mvs"
      exact ⟨_, SubP.refl _, hq⟩

-- texts made: bounded
def Okt (n : Nat) (t : Str) : Prop := t.length ≤ n ∧ ∀ c ∈ t.cps.toList, c < 16 ^ 8
theorem ok_ofString {n : Nat} (s : String) (h : s.length ≤ n) : Okt n (Str.ofString s) := by
  refine ⟨by rw [PySem.ofString_length]; exact h, fun c hc => ?_⟩
  rw [Str.ofString_eq_toList] at hc
  obtain ⟨ch, _, rfl⟩ := List.mem_map.mp (by simpa using hc)
  have := ch.valid
  have h2 : ch.toNat < 1114112 := by
    rcases this with h | ⟨_, h⟩
    · exact Nat.lt_trans h (by decide)
    · exact h
  omega
theorem ok_int {i : Int} (n : Nat) (hn : 0 < n) (h : i.natAbs < 10 ^ n) : Okt (n + 1) (Str.ofString (toString i)) := ok_ofString _ (int_text_length_le10 hn h)
theorem app_list (x y : Str) : (x ++ y).cps.toList = x.cps.toList ++ y.cps.toList := by
  obtain ⟨⟨a⟩⟩ := x; obtain ⟨⟨b⟩⟩ := y
  show (Array.mk a ++ Array.mk b).toList = _
  simp
theorem ok_app {n k : Nat} {x y : Str} (h1 : Okt n x) (h2 : Okt k y) : Okt (n + k) (x ++ y) := by
  refine ⟨by rw [strLen_append]; exact Nat.add_le_add h1.1 h2.1, fun c hc => ?_⟩
  rw [app_list] at hc
  rcases List.mem_append.mp hc with h | h
  · exact h1.2 c h
  · exact h2.2 c h
theorem len_list (x : Str) : x.cps.toList.length = x.length := by simp [Str.length]
theorem ok_take {n : Nat} {x : Str} (h : Okt n x) (j : Nat) : Okt n (Txt.slice x none (some (j : Int))) := by
  refine ⟨Nat.le_trans (Txt.slice_le x _ _) h.1, fun c hc => ?_⟩
  rw [slice_take] at hc
  exact h.2 c (List.mem_of_mem_take hc)
theorem ok_drop {n : Nat} {x : Str} (h : Okt n x) (j : Nat) : Okt n (Txt.slice x (some (j : Int)) none) := by
  refine ⟨Nat.le_trans (Txt.slice_le x _ _) h.1, fun c hc => ?_⟩
  rw [slice_drop] at hc
  exact h.2 c (List.mem_of_mem_drop hc)
theorem Okt.fits {n : Nat} {x : Str} (h : Okt n x) (hn : n ≤ 100000) : x.length ≤ sizeLine := size_le (Nat.le_trans h.1 hn)
theorem Okt.up {n k : Nat} {x : Str} (h : Okt n x) (hn : n ≤ k) : Okt k x := ⟨Nat.le_trans h.1 hn, h.2⟩
def ODD : Str := "-+_. ٣²\n"
def MIX : Str := "0123456789-+_. e٣５"
theorem ok_odd : ∀ c ∈ ODD.cps.toList, c < 16 ^ 8 := by decide +kernel
theorem ok_mix : ∀ c ∈ MIX.cps.toList, c < 16 ^ 8 := by decide +kernel
theorem odd_at {j : Nat} (h : j < 8) : ∃ c, ODD.cps[j]? = some c ∧ c < 16 ^ 8 := by
  have hs : ODD.cps.size = 8 := by decide +kernel
  exact ⟨ODD.cps[j]'(by omega), by simp [hs, h], ok_odd _ (by simp)⟩
theorem mix_at {j : Nat} (h : j < 18) : ∃ c, MIX.cps[j]? = some c ∧ c < 16 ^ 8 := by
  have hs : MIX.cps.size = 18 := by decide +kernel
  exact ⟨MIX.cps[j]'(by omega), by simp [hs, h], ok_mix _ (by simp)⟩
def mixC (i : Int) : Str := ⟨#[MIX.cps.getD (i % 18).toNat 0]⟩
theorem mix_get (i : Int) : MIX.cps[(i % 18).toNat]? = some (MIX.cps.getD (i % 18).toNat 0) := by
  obtain ⟨c, h1, h2⟩ := mix_at (j := (i % 18).toNat) (by omega)
  rw [Array.getD_eq_getD_getElem?, h1]; rfl
theorem ok_mixC (i : Int) : Okt 1 (mixC i) := by
  refine ⟨Nat.le_refl _, fun c hc => ?_⟩
  obtain ⟨d, h1, h2⟩ := mix_at (j := (i % 18).toNat) (by omega)
  have : c = MIX.cps.getD (i % 18).toNat 0 := by simpa [mixC] using hc
  rw [this, Array.getD_eq_getD_getElem?, h1]; exact h2
theorem ok_glued : ∀ (ss : List Str), (∀ z ∈ ss, Okt 1 z) → Okt ss.length (Builtin.Str.glued Str.empty ss) := by
  have key : ∀ (ss : List Str) (acc : Array Nat) (n : Nat), (∀ z ∈ ss, Okt 1 z) → acc.size ≤ n → (∀ c ∈ acc.toList, c < 16 ^ 8) → (ss.foldl (fun acc p => acc ++ (Str.empty).cps ++ p.cps) acc).size ≤ n + ss.length ∧ ∀ c ∈ (ss.foldl (fun acc p => acc ++ (Str.empty).cps ++ p.cps) acc).toList, c < 16 ^ 8 := by
    intro ss
    induction ss with
    | nil => intro acc n _ h1 h2; exact ⟨h1, h2⟩
    | cons z ss ih =>
      intro acc n h h1 h2
      have hz := h z (.head _)
      have h3 := ih (acc ++ (Str.empty).cps ++ z.cps) (n + 1) (fun y hy => h y (.tail _ hy)) (by
        have : z.cps.size ≤ 1 := hz.1
        have e : (Str.empty).cps.size = 0 := rfl
        rw [Array.size_append, Array.size_append, e]; omega) (fun c hc => by
        rw [Array.toList_append, Array.toList_append] at hc
        rcases List.mem_append.mp hc with hc | hc
        · rcases List.mem_append.mp hc with hc | hc
          · exact h2 c hc
          · exact nomatch hc
        · exact hz.2 c hc)
      refine ⟨?_, h3.2⟩
      have := h3.1
      simp only [List.length_cons]
      show (ss.foldl (fun acc p => acc ++ (Str.empty).cps ++ p.cps) (acc ++ (Str.empty).cps ++ z.cps)).size ≤ _
      omega
  intro ss h
  cases ss with
  | nil => exact ⟨Nat.le_refl _, fun c hc => by simp [Builtin.Str.glued, Str.empty] at hc⟩
  | cons z ss =>
    have hz := h z (.head _)
    have := key ss z.cps 1 (fun y hy => h y (.tail _ hy)) hz.1 hz.2
    refine ⟨?_, this.2⟩
    have := this.1
    show (ss.foldl (fun acc p => acc ++ (Str.empty).cps ++ p.cps) z.cps).size ≤ _
    simp only [List.length_cons]
    omega
theorem foldl_len1 : ∀ (ss : List Str) (n : Nat), (∀ z ∈ ss, Okt 1 z) → ss.foldl (fun acc p => acc + p.length + (Str.empty).length) n ≤ n + ss.length
  | [], n, _ => Nat.le_refl _
  | z :: ss, n, h => by
    have hz := (h z (.head _)).1
    have := foldl_len1 ss (n + z.length + (Str.empty).length) fun y hy => h y (.tail _ hy)
    have e : (Str.empty).length = 0 := rfl
    simp only [List.foldl_cons, List.length_cons]
    rw [e] at this ⊢
    omega

theorem log_ok {i : Int} (h : i.natAbs < 10 ^ 25) : i.natAbs.log2 < 1920 := by
  by_cases h0 : i.natAbs = 0
  · rw [h0]; decide
  · exact (Nat.log2_lt h0).mpr (Nat.lt_trans h (by decide +kernel))
theorem bind_body {pm code doc : Value} : ∀ cvs : List Value, cvs.length = 1 → bindArgs (docDef (defAt pw_k6_0104 11).name (defAt pw_k6_0104 11).params (defAt pw_k6_0104 11).body (defAt pw_k6_0104 11).scope pm code doc) ⟨cvs, []⟩ = pure ((["script"] : List Str).zip cvs)
  | [a], _ => rfl
theorem body_spec {l : Addr} {ob : O} {ns : List Int} {f : Addr} {pm code doc : Value} {fc : Addr} {pmc codec docc : Value} {Q : V → St → Prop} (C : Ctx Bs mg mb) (F : FnAt Bs mg "_law_body" (defAt pw_k6_0104 11) f pm code doc) (hC : FnAt Bs mg "_law_cell" (defAt pw_k6_0104 10) fc pmc codec docc)
    (BL : BIs Bs mg mb "len" (.builtin "len")) (Bs' : BIs Bs mg mb "str" (.type "str")) (GO : GIs Bs mg mb "_law_odd" (.str ODD)) (GX : GIs Bs mg mb "_law_mixed" (.str MIX))
    (hm : (l, ob) ∈ σ) (hl : ob.peel = .list (ns.map .int)) (hz : ns.length ≤ 63) (hq : ∀ t, Okt 100 t → Q (.str t) σ) : EvF prog w Bs (k + 2) (.ref f) [.ref l] σ Q := by
  refine evf_nc (ps := ["script"]) C F bind_body rfl (by decide) (by decide) fun L => ?_
  walk_at "mv"
  walk_at "mws"
  refine cell_spec C hC BL (by walk_at "mv_mem") hl hz (j := 0) rfl (by omega) ?_
  walk_at "mws"
  refine cell_spec C hC BL (by walk_at "mv_mem") hl hz (j := 1) rfl (by omega) ?_
  generalize cz ns 0 % 5 = kind
  generalize cz ns 1 = a
  walk_at "mvs"
  by_cases h0 : kind = 0
  · refine if_tt (decide_eq_true h0) ?_
    walk_at "mvs"
    have hb : (a % 1000).natAbs < 10 ^ 3 := by omega
    refine bf_str_int (log_ok (by omega)) ?_
    exact ⟨_, SubP.refl _, hq _ ((ok_int 3 (by decide) hb).up (by decide))⟩
  refine if_ff (decide_eq_false h0) ?_
  walk_at "mvs"
  by_cases h1 : kind = 1
  · refine if_tt (decide_eq_true h1) ?_
    walk_at "mvs"
    have e18 : (10 : Int) ^ (18 : Int).toNat = 1000000000000000000 := by decide +kernel
    rw [e18]
    have hb : (1000000000000000000 - 1 + a % 3).natAbs < 10 ^ 19 := by omega
    refine bf_str_int (log_ok (by omega)) ?_
    exact ⟨_, SubP.refl _, hq _ ((ok_int 19 (by decide) hb).up (by decide))⟩
  refine if_ff (decide_eq_false h1) ?_
  walk_at "mvs"
  by_cases h2 : kind = 2
  · refine if_tt (decide_eq_true h2) ?_
    walk_at "mvs"
    have e20 : (10 : Int) ^ (20 : Int).toNat = 100000000000000000000 := by decide +kernel
    rw [e20]
    have hb : (a % 100000000000000000000).natAbs < 10 ^ 20 := by omega
    refine bf_str_int (log_ok (by omega)) ?_
    exact ⟨_, SubP.refl _, hq _ ((ok_int 20 (by decide) hb).up (by decide))⟩
  refine if_ff (decide_eq_false h2) ?_
  walk_at "mvs"
  by_cases h3 : kind = 3
  · refine if_tt (decide_eq_true h3) ?_
    walk_at "mvs"
    have hb : (a % 1000).natAbs < 10 ^ 3 := by omega
    refine bf_str_int (log_ok (by omega)) ?_
    have okp := ok_int 3 (by decide) hb
    generalize Str.ofString (toString (a % 1000)) = plain at *
    walk_at "mvs"
    refine cell_spec C hC BL (by walk_at "mv_mem") hl hz (j := 5) rfl (by omega) ?_
    walk_at "mvs"
    obtain ⟨at_, hat⟩ : ∃ n : Nat, cz ns 5 % 4 = (n : Int) := ⟨(cz ns 5 % 4).toNat, by omega⟩
    rw [hat]
    refine ⟨plain, none, some (at_ : Int), rfl, .none, .int _, okp.fits (by decide), ?_⟩
    walk_at "mvs"
    refine cell_spec C hC BL (by walk_at "mv_mem") hl hz (j := 4) rfl (by omega) ?_
    walk_at "mvs"
    obtain ⟨c, hc1, hc2⟩ := odd_at (j := (cz ns 4 % 8).toNat) (by omega)
    refine ⟨ODD, _, c, rfl, rfl, by omega, by omega, hc1, ?_⟩
    have okc : Okt 1 (⟨#[c]⟩ : Str) := ⟨Nat.le_refl _, fun d hd => by
      have : d = c := by simpa using hd
      rw [this]; exact hc2⟩
    have ok1 := ok_app (ok_take okp at_) okc
    refine addG_str (by have := (ok_take okp at_).1; have := okc.1; exact size_le (by omega)) ?_
    walk_at "mvs"
    refine ⟨plain, some (at_ : Int), none, rfl, .int _, .none, okp.fits (by decide), ?_⟩
    have ok2 := ok_app ok1 (ok_drop okp at_)
    refine addG_str (by have := ok1.1; have := (ok_drop okp at_).1; exact size_le (by omega)) ?_
    exact ⟨_, SubP.refl _, hq _ (ok2.up (by decide))⟩
  refine if_ff (decide_eq_false h3) ?_
  walk_at "mvs"
  refine ⟨l, ob, _, _, _, rfl, by walk_at "mv_mem", hl, .int _ (by decide), .int _ (by omega), len_ok (by simp; omega), fun a1 => ?_⟩
  obtain ⟨is, his⟩ : ∃ is : List Int, is = ((ns.take (4 + a % 4).toNat).drop (4 : Int).toNat) := ⟨_, rfl⟩
  have hil : is.length ≤ 3 := by
    rw [his, List.length_drop, List.length_take]
    have : (4 : Int).toNat = 4 := rfl
    omega
  refine its_comp_list is V.int (fun _ => true) (fun c => .str (mixC c)) (by walk_at "mv_mem") (by rw [his]; simp [O.peel, List.map_take, List.map_drop]) (by omega) ?_ ?_ ?_
  · intro C' y hy
    walk_at "mvs"
    exact ⟨rfl, SubP.refl _⟩
  · intro C' y hy _
    walk_at "mvs"
    refine ⟨MIX, _, _, rfl, rfl, by omega, by omega, mix_get y, ?_⟩
    exact ⟨rfl, SubP.refl _⟩
  rw [filter_tt, show (is.map fun c => V.str (mixC c)) = (is.map mixC).map V.str by rw [List.map_map]; rfl]
  have ok1 : ∀ z ∈ is.map mixC, Okt 1 z := fun z hz => by
    obtain ⟨i, _, rfl⟩ := List.mem_map.mp hz
    exact ok_mixC i
  have hil2 : (is.map mixC).length ≤ 3 := by simpa using hil
  generalize is.map mixC = ss at *
  intro a2
  have okg := ok_glued ss ok1
  have hf := foldl_len1 ss 0 ok1
  walk_at "mvs"
  refine bf_join (by walk_at "mv_mem") rfl ?_ (fun z hz => (ok1 z hz).fits (by decide)) (size_le (Nat.le_trans okg.1 (by omega))) ?_
  · rw [← Array.foldl_toList]
    have : ¬ (ss.foldl (fun acc p => acc + p.length + (Str.ofString "").length) 0) > 2 ^ 24 := by
      show ¬ (ss.foldl (fun acc p => acc + p.length + (Str.empty).length) 0) > 2 ^ 24
      omega
    simpa [Builtin.Str.tooLong, sizeLine] using this
  refine ⟨σ, by walk_at "mv_sub", hq _ ?_⟩
  match ss, ok1, okg with
  | [], _, okg => exact okg.up (by decide)
  | [z], ok1, _ => exact (ok1 z (.head _)).up (by decide)
  | x :: y :: ss, _, okg => exact okg.up (by omega)

def PRE : List Str := ["", "-", "", "-", "", "-", "--", "+"]
def ZS : List Int := [0, 0, 0, 1, 3, 18, 20, 30]
theorem pre_ok : ∀ x ∈ PRE, Okt 2 x := by unfold Okt; decide +kernel
theorem zs_ok : ∀ n ∈ ZS, MulOk "0" n ∧ Okt 30 (Txt.mul "0" n) := by
  intro n hn
  simp only [ZS, List.mem_cons, List.not_mem_nil, or_false] at hn
  have key : ∀ n : Int, n = 0 ∨ n = 1 ∨ n = 3 ∨ n = 18 ∨ n = 20 ∨ n = 30 → MulOk "0" n ∧ Okt 30 (Txt.mul "0" n) := by
    rintro n (rfl | rfl | rfl | rfl | rfl | rfl) <;> exact ⟨by unfold MulOk; decide +kernel, by unfold Okt; decide +kernel⟩
  exact key n (by omega)
theorem pre_at {j : Nat} (h : j < 8) : ∃ x, PRE[j]? = some x ∧ Okt 2 x := by
  have : j < PRE.length := h
  exact ⟨PRE[j], by simp [this], pre_ok _ (List.getElem_mem this)⟩
theorem zs_at {j : Nat} (h : j < 8) : ∃ n, ZS[j]? = some n ∧ MulOk "0" n ∧ Okt 30 (Txt.mul "0" n) := by
  have : j < ZS.length := h
  exact ⟨ZS[j], by simp [this], zs_ok _ (List.getElem_mem this)⟩
theorem sub_VV : isSubtype (.type "ValueError") (.type "ValueError") = pure true := by rw [isSubtype_type]; kernel_rfl
theorem sub_VB : isSubtype (.type "ValueError") (.type "BaseException") = pure true := by rw [isSubtype_type]; kernel_rfl
theorem meta_V : isSubtype (.type ((Manifest.find? "ValueError").elim "type" fun x => x.metatype)) (.type "tuple") = pure false := by rw [isSubtype_type]; kernel_rfl
theorem bind_law {pm code doc : Value} : ∀ cvs : List Value, cvs.length = 1 → bindArgs (docDef (defAt pw_k6_0104 13).name (defAt pw_k6_0104 13).params (defAt pw_k6_0104 13).body (defAt pw_k6_0104 13).scope pm code doc) ⟨cvs, []⟩ = pure ((["script"] : List Str).zip cvs)
  | [a], _ => rfl
theorem law_spec {l : Addr} {ob : O} {ns : List Int} {f : Addr} {pm code doc : Value} {fd : Addr} {pmd coded docd : Value} {fb : Addr} {pmb codeb docb : Value} {fc : Addr} {pmc codec docc : Value} {fs : Addr} {pms codes docs : Value} {fp : Addr} {pmp codep docp : Value} {fk : Addr} {pmk codek dock : Value} {Q : V → St → Prop} {X : String → V → St → Prop} (C : Ctx Bs mg mb) (hF : FnAt Bs mg "law" (defAt pw_k6_0104 13) f pm code doc)
    (hD : FnAt Bs mg "_law_due" (defAt pw_k6_0104 12) fd pmd coded docd) (hB : FnAt Bs mg "_law_body" (defAt pw_k6_0104 11) fb pmb codeb docb) (hC : FnAt Bs mg "_law_cell" (defAt pw_k6_0104 10) fc pmc codec docc) (hS : FnAt Bs mg "parse_signed" (defAt pw_k6_0104 4) fs pms codes docs) (hP : FnAt Bs mg "parse_number" (defAt pw_k6_0104 3) fp pmp codep docp) (hK : FnAt Bs mg "check_number" (defAt pw_k6_0104 2) fk pmk codek dock)
    (BI : BIs Bs mg mb "isinstance" (.builtin "isinstance")) (Bi : BIs Bs mg mb "int" (.type "int")) (Bb : BIs Bs mg mb "bool" (.type "bool")) (Bs' : BIs Bs mg mb "str" (.type "str")) (BL : BIs Bs mg mb "len" (.builtin "len")) (BT : BIs Bs mg mb "type" (.type "type")) (BV : BIs Bs mg mb "ValueError" (.type "ValueError")) (GM : GIs Bs mg mb "MAX_NUMBER" (.int MXN)) (GO : GIs Bs mg mb "_law_odd" (.str ODD)) (GX : GIs Bs mg mb "_law_mixed" (.str MIX)) (GP : GIs Bs mg mb "_law_prefixes" (.tup (PRE.map .str))) (GZ : GIs Bs mg mb "_law_zeros" (.tup (ZS.map .int)))
    (hl : ob.peel = .list (ns.map .int)) (hz : ns.length ≤ 63) (hq : Q (.bool true) [(l, ob)]) : EvFT prog w Bs (k + 4) (.ref f) [.ref l] [(l, ob)] Q X := by
  refine evfT_c (xs := ["script"]) C hF bind_law rfl (by decide) [("script", .ref l)] (fun L => [(l, ob)]) rfl (fun L => rfl) fun L => ?_
  refine evsT_cons (EvSt.toT ?_)
  walk_at "mts"
  refine cell_spec C hC BL (by walk_at "mv_mem") hl hz (j := 2) rfl (by omega) ?_
  walk_at "mts"
  obtain ⟨j, hj⟩ : ∃ n : Nat, cz ns 2 % 8 = (n : Int) := ⟨(cz ns 2 % 8).toNat, by omega⟩
  rw [hj]
  obtain ⟨n, hn1, hn2, hn3⟩ := zs_at (j := j) (by omega)
  refine ⟨_, Item.tup (v := .int n) (by omega) (by omega) (by rw [Int.toNat_natCast, List.getElem?_map, hn1]; rfl), ?_⟩
  refine ⟨_, _, rfl, rfl, hn2, ?_⟩
  generalize Txt.mul "0" n = zeros at *
  walk_at "mts"
  refine cell_spec C hC BL (by walk_at "mv_mem") hl hz (j := 3) rfl (by omega) ?_
  walk_at "mts"
  obtain ⟨j2, hj2⟩ : ∃ n : Nat, cz ns 3 % 8 = (n : Int) := ⟨(cz ns 3 % 8).toNat, by omega⟩
  rw [hj2]
  obtain ⟨pre, hp1, hp2⟩ := pre_at (j := j2) (by omega)
  refine ⟨_, Item.tup (v := .str pre) (by omega) (by omega) (by rw [Int.toNat_natCast, List.getElem?_map, hp1]; rfl), ?_⟩
  walk_at "mts"
  have ok1 := ok_app hp2 hn3
  refine addG_str (by have := hp2.1; have := hn3.1; exact size_le (by omega)) ?_
  walk_at "mts"
  refine body_spec C hB hC BL Bs' GO GX (by walk_at "mv_mem") hl hz fun body okb => ?_
  have ok2 := ok_app ok1 okb
  refine addG_str (by have := ok1.1; have := okb.1; exact size_le (by omega)) ?_
  generalize pre ++ zeros ++ body = text at *
  have htl : text.length ≤ 1000 := Nat.le_trans ok2.1 (by decide)
  walk_at "mts"
  refine due_spec C hD htl ?_
  walk_at "mts"
  refine evsT_cons (evxT_try C (evsT_cons (evxT_assign (evT_fn C hS ?_))))
  walk_at "mvs"
  refine psig_spec C hS hP hK BI Bi Bb Bs' BL BV GM htl ok2.2 (fun i hi => ?_) fun hi a0 => ⟨_, _, .hit (T := "ValueError") BV sub_VB meta_V sub_VV rfl (by decide) rfl (.inl ⟨_, rfl, rfl⟩) rfl, ?_⟩
  · unfold dueV
    rw [hi]
    refine evsT_nil ?_
    refine evsT_cons (EvSt.toT ?_)
    walk_at "mvs"
    refine evsT_cons (EvSt.toT ?_)
    walk_at "mvs"
    refine evb_val ?_
    walk_at "mvs"
    refine evsT_cons (EvSt.toT ?_)
    walk_at "mvs"
    refine bf_type (.int _) ?_
    walk_at "mvs"
    refine evsT_cons (EvSt.toT ?_)
    walk_at "mvs"
    refine if_ff (by simp) ?_
    walk_at "mvs"
    refine evsT_cons (EvSt.toT ?_)
    walk_at "mvs"
    exact ⟨_, by walk_at "mv_sub", hq⟩
  · unfold dueV
    rw [hi]
    refine evsT_cons (EvSt.toT ?_)
    walk_at "mvs"
    refine evb_val ?_
    walk_at "mvs"
    exact ⟨_, by walk_at "mv_sub", hq⟩
end
end Mine

open PySem PySem.W PyProof.Rows Mine
set_option Elab.async false
set_option maxRecDepth 100000 in
set_option maxHeartbeats 8000000 in
theorem PySem.Challenge.cw_k6_0104_holds : PySem.Challenge.rw_k6_0104.Holds := by
  w_on
  o_law
  k_head
  (case hw => w_witness2)
  k_fill
  intro w s₀ s₁ mg mb G Y fa o pm cd doc dV kV ho hd hcd hD hmg hg args vals as hpre hlay hrd hwl hlo
  have KX := kIn_of Y
  have hlo2 := hlo
  refine Ground.open G ?_
  intro T B D TE TW
  wrow_args hpre hlay hrd hwl hlo
  rename_i ns hs hlay0 hL1 hr1 hl2 bs cs l vs ds hL ra w1 r0 hI hr hc1 hc2
  have ho1 := lst_of hL w1
  have hsys := sys_of r0 hlo2
  have hlen : ns.length ≤ 63 := by omega
  obtain ⟨f13, pm13, code13, doc13, F13⟩ := fn_mask ho1 T (fn := "law") (d := defAt Challenge.pw_k6_0104 13) (by repeat (first | exact List.Mem.head _ | refine List.Mem.tail _ ?_)) rfl
  obtain ⟨f12, pm12, code12, doc12, F12⟩ := fn_mask ho1 T (fn := "_law_due") (d := defAt Challenge.pw_k6_0104 12) (by repeat (first | exact List.Mem.head _ | refine List.Mem.tail _ ?_)) rfl
  obtain ⟨f11, pm11, code11, doc11, F11⟩ := fn_mask ho1 T (fn := "_law_body") (d := defAt Challenge.pw_k6_0104 11) (by repeat (first | exact List.Mem.head _ | refine List.Mem.tail _ ?_)) rfl
  obtain ⟨f10, pm10, code10, doc10, F10⟩ := fn_mask ho1 T (fn := "_law_cell") (d := defAt Challenge.pw_k6_0104 10) (by repeat (first | exact List.Mem.head _ | refine List.Mem.tail _ ?_)) rfl
  obtain ⟨f4, pm4, code4, doc4, F4⟩ := fn_mask ho1 T (fn := "parse_signed") (d := defAt Challenge.pw_k6_0104 4) (by repeat (first | exact List.Mem.head _ | refine List.Mem.tail _ ?_)) rfl
  obtain ⟨f3, pm3, code3, doc3, F3⟩ := fn_mask ho1 T (fn := "parse_number") (d := defAt Challenge.pw_k6_0104 3) (by repeat (first | exact List.Mem.head _ | refine List.Mem.tail _ ?_)) rfl
  obtain ⟨f2, pm2, code2, doc2, F2⟩ := fn_mask ho1 T (fn := "check_number") (d := defAt Challenge.pw_k6_0104 2) (by repeat (first | exact List.Mem.head _ | refine List.Mem.tail _ ?_)) rfl
  have hfa : fa = f13 := by
    have h4 := F13.name
    have h5 : mg (defAt Challenge.pw_k6_0104 13).name = some (.ref fa) := hmg
    rw [h5] at h4
    exact Value.ref.inj (Option.some.inj h4)
  subst hfa
  refine law_glueT ho1 hI hg T hsys (by intro cls; rfl) (by wrow_post) ?_
  refine law_spec (ctx_mask ho1 T) F13 F12 F11 F10 F4 F3 F2 (bi_mask ho1 T (by decide +kernel) (by decide) (by rfl)) (bi_mask ho1 T (by decide +kernel) (by decide) (by rfl)) (bi_mask ho1 T (by decide +kernel) (by decide) (by rfl)) (bi_mask ho1 T (by decide +kernel) (by decide) (by rfl)) (bi_mask ho1 T (by decide +kernel) (by decide) (by rfl)) (bi_mask ho1 T (by decide +kernel) (by decide) (by rfl)) (bi_mask ho1 T (by decide +kernel) (by decide) (by rfl)) ⟨ctx_mask ho1 T, _, mg_of KX T.g (by rfl), by constructor⟩ ⟨ctx_mask ho1 T, _, mg_of KX T.g (by rfl), by constructor⟩ ⟨ctx_mask ho1 T, _, mg_of KX T.g (by rfl), by constructor⟩ ⟨ctx_mask ho1 T, lit_mask KX T.g ho1 (by rfl) (by rfl) (fun h => by repeat (first | exact VRs.nil | refine VRs.cons (by constructor) ?_))⟩ ⟨ctx_mask ho1 T, lit_mask KX T.g ho1 (by rfl) (by rfl) (fun h => by repeat (first | exact VRs.nil | refine VRs.cons (by constructor) ?_))⟩ rfl hlen ⟨rfl, rfl⟩
