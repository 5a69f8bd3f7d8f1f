import PyProof.Rows.All
import Wide.All
import OpenK.AllK
import Wide.FinOn
import PyProof.Rows.CellsFrame
import PyProof.MeetsDictList
import PyProof.CompFree
import PyProof.DictItems
import PyProof.DictStraight
import PyProof.TupleIter
import PyProof.ForAny
import PyProof.Rows.TupSub
import PyProof.Rows.StrTemp
import PyProof.Rows.Globals
import PyProof.Rows.Method
import PyProof.Rows.IntRules
import PyProof.Rows.RuleB_floordiv
import PyProof.Rows.RuleB_mul
import PyProof.Rows.RuleC_int
import PyProof.Rows.RuleC_bool
import PyProof.Rows.RuleIs
import PyProof.Rows.RuleIs2
import PyProof.Rows.RuleU_int
import PyProof.Rows.StrRules
import PyProof.IsRules
import PyProof.Rows.Exc
import PyProof.ListOps
import PyProof.ListCopy
import PyProof.SliceMore
import PyProof.Rows.RuleN_abs
import PyProof.FactsAll.list_3
import PyProof.FactsAll.dict_1
import PyProof.Rows.Lst
import PyProof.WalksPairs
import PyProof.RangeFor
import PyProof.WalksMore
import PyProof.DelItemList
import PyProof.DictCopy
import PyProof.DictUpdate
import PyProof.DictValues
import PyProof.DictTruth
import PyProof.RulesDelMore
import PyProof.FactsAll.dict_0
import PyProof.FactsAll.dict_3
import PyProof.FactsAll.dict_4
import PyProof.FactsAll.list_0
import PyProof.FactsAll.str_0
import KE.KItemsList
import KE.KDictList
import PyProof.AttrMissHeap
import KE.KDictOf
import KE.KEqDat
import PyProof.TypeOfCall
import PyProof.MaxThree
import PyProof.Rows.Walk
import Wide.BridgeG
import OpenK.KWalk
import PyProof.CompMap
import PyProof.DictWalks
import KE.KPop
import PyProof.EnumFor
import PyProof.EnumMake
import PyProof.SumAny
import PyProof.Rows.SumGenD
import PyProof.ListRange
import PyProof.P3In
import PyProof.Rows.SortStr
import PyProof.Rows.SortShellK
import PyProof.Rows.SortWalk
import PyProof.Rows.StrInSeq3
import PyProof.IsiPairs
import PyProof.GenCompD
import PyProof.CodeObjX
import PyProof.ConsumeS
import PyProof.Rows.RowBridgeG
import PyProof.OldK
import PyProof.StationsW
import PyProof.RulesTry
import PyProof.Rows.FactsExc_KeyError
import PyProof.Rows.FactsExc_ValueError
import PyProof.Rows.Catch
import KE.IntTextLaws
import PyProof.StrBlockI
import PyProof.StrBlock2
import PyProof.StrLaws
import PyProof.StrLawsAffix
import PyProof.SliceList
import PyProof.StrLawsIn
import PyProof.StrLawsRepr
import PyProof.FString5
import PyProof.ConsumeWalk
import PyProof.StrCalls
import PyProof.StrWalks
import PyProof.CallStr
import PyProof.MeetsStr
import PyProof.Truth
import PyProof.Rows.Chain
import PyProof.Rows.RuleB_small
import KE.KIntText
import PyProof.RulesAs
import PyProof.NsDelKeeps
import PyProof.ExcStr
import PyProof.ExcStrCall
import PyProof.ExcFactsAll.ValueError
import PyProof.ExcStrAll.ValueError
import PyProof.StrHeap
import PyProof.ZipIter
import PyProof.CallFns
import PyProof.AutoSeq1
import PyProof.ListTruth
import PyProof.MeetsStr2
import PyProof.StrBlockL
import PyProof.CallRoads3
import PyProof.StrLawsWords
import PyProof.StrLawsTight
import PyProof.StrLawsChain
import PyProof.Claim2
import PySem.Challenge.RW_k6_0113

set_option Elab.async false
namespace Mine
open PySem PyProof.Rows

/-- abstract values -/
inductive V where
  | none
  | bool (b : Bool)
  | int (i : Int)
  | str (x : Str)
  | tup (vs : List V)
  | ref (a : Addr)
  | raw (v : Value)

/-- a tuple object -/
abbrev tupO (cvs : List Value) (n : Nat) : Obj := { cls := .type "tuple", data := .seq cvs.toArray n }
abbrev lstO (cvs : List Value) (n : Nat) : Obj := { cls := .type "list", data := .seq cvs.toArray n }

mutual
inductive VR (h : Heap) : Value → V → Prop
  | none : VR h .none .none
  | bool (b : Bool) : VR h (.bool b) (.bool b)
  | int (i : Int) (t : Tok) : VR h (.int i t) (.int i)
  | str (x : Str) (t : Tok) : VR h (.str x t) (.str x)
  | tup {a : Addr} {cvs : List Value} {n : Nat} {vs : List V} : h.get? a = some (tupO cvs n) → VRs h cvs vs → VR h (.ref a) (.tup vs)
  | ref (a : Addr) : VR h (.ref a) (.ref a)
  | raw (v : Value) : VR h v (.raw v)
inductive VRs (h : Heap) : List Value → List V → Prop
  | nil : VRs h [] []
  | cons {c : Value} {v : V} {cs : List Value} {vs : List V} : VR h c v → VRs h cs vs → VRs h (c :: cs) (v :: vs)
end

/-- all tuples stay -/
def TK (h h' : Heap) : Prop := ∀ a cvs n, h.get? a = some (tupO cvs n) → h'.get? a = some (tupO cvs n)
theorem TK.refl (h : Heap) : TK h h := fun _ _ _ e => e
theorem TK.trans {a b c : Heap} (x : TK a b) (y : TK b c) : TK a c := fun p q r e => y p q r (x p q r e)
theorem TK.of_keep {h h' : Heap} (k : ∀ b o, h.get? b = some o → h'.get? b = some o) : TK h h' := fun _ _ _ e => k _ _ e

mutual
theorem VR.mono {h h' : Heap} (k : TK h h') : ∀ {c v}, VR h c v → VR h' c v
  | _, _, .none => .none
  | _, _, .bool b => .bool b
  | _, _, .int i t => .int i t
  | _, _, .str x t => .str x t
  | _, _, .tup e r => .tup (k _ _ _ e) (VRs.mono k r)
  | _, _, .ref a => .ref a
  | _, _, .raw v => .raw v
theorem VRs.mono {h h' : Heap} (k : TK h h') : ∀ {c v}, VRs h c v → VRs h' c v
  | _, _, .nil => .nil
  | _, _, .cons a r => .cons (VR.mono k a) (VRs.mono k r)
end

theorem VRs.length {h : Heap} : ∀ {c v}, VRs h c v → c.length = v.length
  | _, _, .nil => rfl
  | _, _, .cons _ r => by simp [VRs.length r]
theorem VRs.append {h : Heap} : ∀ {c v d u}, VRs h c v → VRs h d u → VRs h (c ++ d) (v ++ u)
  | _, _, _, _, .nil, k => k
  | _, _, _, _, .cons a r, k => .cons a (VRs.append r k)
theorem VRs.get {h : Heap} : ∀ {c : List Value} {v : List V}, VRs h c v → ∀ {i : Nat} {x : V}, v[i]? = some x → ∃ y, c[i]? = some y ∧ VR h y x
  | _, _, .nil, _, _, e => by simp at e
  | _, _, .cons a r, 0, x, e => by simp at e; subst e; exact ⟨_, rfl, a⟩
  | _, _, .cons a r, i + 1, x, e => by
    simp at e
    obtain ⟨y, hy, hr⟩ := VRs.get r e
    exact ⟨y, by simpa using hy, hr⟩
theorem VRs.get' {h : Heap} : ∀ {c : List Value} {v : List V}, VRs h c v → ∀ {i : Nat} {y : Value}, c[i]? = some y → ∃ x, v[i]? = some x ∧ VR h y x
  | _, _, .nil, _, _, e => by simp at e
  | _, _, .cons a r, 0, x, e => by simp at e; subst e; exact ⟨_, rfl, a⟩
  | _, _, .cons a r, i + 1, x, e => by
    simp at e
    obtain ⟨y, hy, hr⟩ := VRs.get' r e
    exact ⟨y, by simpa using hy, hr⟩
theorem VRs.take {h : Heap} : ∀ {c v} (n : Nat), VRs h c v → VRs h (c.take n) (v.take n)
  | _, _, 0, _ => by simp; exact .nil
  | _, _, n + 1, .nil => .nil
  | _, _, n + 1, .cons a r => by simp; exact .cons a (VRs.take n r)
theorem VRs.drop {h : Heap} : ∀ {c v} (n : Nat), VRs h c v → VRs h (c.drop n) (v.drop n)
  | _, _, 0, x => by simpa using x
  | _, _, n + 1, .nil => .nil
  | _, _, n + 1, .cons a r => by simp; exact VRs.drop n r

/-- abstract objects -/
inductive O where
  | list (vs : List V)
  | dict (kvs : List (Str × V))
  | cell (v : Option V)
  | obj (c : Obj)
  | fix (c : Obj) (o : O)
/-- what it is, however it is held -/
def O.peel : O → O
  | .fix _ o => o.peel
  | o => o

inductive KVR (h : Heap) : List (Str × Value) → List (Str × V) → Prop
  | nil : KVR h [] []
  | cons {k : Str} {c : Value} {v : V} {cs vs} : VR h c v → KVR h cs vs → KVR h ((k, c) :: cs) ((k, v) :: vs)
theorem KVR.mono {h h' : Heap} (k : TK h h') : ∀ {c v}, KVR h c v → KVR h' c v
  | _, _, .nil => .nil
  | _, _, .cons a r => .cons (a.mono k) (KVR.mono k r)

inductive OVR (h : Heap) : Option Value → Option V → Prop
  | none : OVR h .none .none
  | some {c v} : VR h c v → OVR h (some c) (some v)
theorem OVR.mono {h h' : Heap} (k : TK h h') : ∀ {c v}, OVR h c v → OVR h' c v
  | _, _, .none => .none
  | _, _, .some a => .some (a.mono k)

section
variable (prog : Program) (w : World)

def OR (h : Heap) (o : Obj) : O → Prop
  | .list vs => ∃ cvs n, o = lstO cvs n ∧ VRs h cvs vs
  | .dict kvs => ∃ ckvs, o.IsDictOf (strKind prog w) ckvs ∧ KVR h ckvs kvs
  | .cell v => ∃ cv, o.data = .cell cv ∧ OVR h cv v
  | .obj c => o = c
  | .fix c a => o = c ∧ OR h o a
theorem OR.mono {h h' : Heap} {o : Obj} {a : O} (k : TK h h') (r : OR prog w h o a) : OR prog w h' o a := by
  induction a with
  | list vs => obtain ⟨cvs, n, e, r⟩ := r; exact ⟨cvs, n, e, r.mono k⟩
  | dict kvs => obtain ⟨c, e, r⟩ := r; exact ⟨c, e, r.mono k⟩
  | cell v => obtain ⟨c, e, r⟩ := r; exact ⟨c, e, r.mono k⟩
  | obj c => exact r
  | fix c a ih => exact ⟨r.1, ih r.2⟩
theorem OR.peel {h : Heap} {o : Obj} {a : O} (r : OR prog w h o a) : OR prog w h o a.peel := by
  induction a with
  | fix c a ih => exact ih r.2
  | _ => exact r

abbrev St := List (Addr × O)
abbrev Env' := List (Str × V)

/-- the objects -/
structure RH (g : Heap) (σ : St) (h : Heap) : Prop where
  keep : ∀ b o, g.get? b = some o → h.get? b = some o
  nd : (σ.map (·.1)).Nodup
  own : ∀ p ∈ σ, g.get? p.1 = none ∧ ∃ o, h.get? p.1 = some o ∧ OR prog w h o p.2
  st : ∃ o, g.get? cStatics = some o
  low : ∀ p ∈ σ, cStatics < p.1
/-- the frame and the objects -/
structure Rel (g : Heap) (L : Addr) (m : Env') (σ : St) (h : Heap) : Prop where
  rh : RH prog w g σ h
  ns : ∃ mc, h.Ns L mc ∧ ∀ x v, m.lookup x = some v → ∃ cv, mc x = some cv ∧ VR h cv v
  offS : ∀ p ∈ σ, p.1 ≠ L

variable {prog w}
variable {g h h' : Heap} {L : Addr} {m : Env'} {σ : St}

/-- everything stays (new things may come) -/
theorem RH.ext (R : RH prog w g σ h) (k : ∀ b o, h.get? b = some o → h'.get? b = some o) : RH prog w g σ h' :=
  ⟨fun b o e => k b o (R.keep b o e), R.nd, fun p hp => let ⟨a, o, e, r⟩ := R.own p hp; ⟨a, o, k _ _ e, r.mono _ _ (.of_keep k)⟩, R.st, R.low⟩
theorem RH.big (R : RH prog w g σ h) : cStatics < h.objs.size := let ⟨_, e⟩ := R.st; Heap.lt_size (R.keep _ _ e)
theorem get_none_of_size {h : Heap} {a : Addr} (hn : h.objs.size ≤ a) : h.get? a = none := by
  cases q : h.get? a with
  | none => rfl
  | some o => exact absurd (Heap.lt_size q) (Nat.not_lt.mpr hn)
theorem Rel.ext (R : Rel prog w g L m σ h) (k : ∀ b o, h.get? b = some o → h'.get? b = some o) : Rel prog w g L m σ h' := by
  refine ⟨R.rh.ext k, ?_, R.offS⟩
  obtain ⟨mc, hn, hv⟩ := R.ns
  exact ⟨mc, hn.keeps k, fun x v e => let ⟨cv, a, b⟩ := hv x v e; ⟨cv, a, b.mono (.of_keep k)⟩⟩
theorem push_keep (h : Heap) (o : Obj) : ∀ b o', h.get? b = some o' → (h.push o).get? b = some o' := fun _ _ e => Heap.get?_push_of_some o e

/-- a new object of the ledger -/
theorem RH.new (R : RH prog w g σ h) {a : Addr} {o : Obj} {ao : O} (k : ∀ b o, h.get? b = some o → h'.get? b = some o) (hn : h.objs.size ≤ a) (ho : h'.get? a = some o) (r : OR prog w h' o ao) : RH prog w g ((a, ao) :: σ) h' := by
  have R' := R.ext k
  have hz := hn
  replace hn := get_none_of_size hn
  refine ⟨R'.keep, ?_, ?_, R.st, fun p hp => ?_⟩
  · refine List.nodup_cons.mpr ⟨fun hm => ?_, R.nd⟩
    obtain ⟨p, hp, e⟩ := List.mem_map.mp hm
    obtain ⟨_, o', e', _⟩ := R.own p hp
    rw [e, hn] at e'; cases e'
  · intro p hp
    rcases List.mem_cons.mp hp with rfl | hp
    · refine ⟨?_, o, ho, r⟩
      cases q : g.get? a with
      | none => rfl
      | some o' => rw [R.keep _ _ q] at hn; cases hn
    · exact R'.own p hp
  · rcases List.mem_cons.mp hp with rfl | hp
    · exact Nat.lt_of_lt_of_le R.big hz
    · exact R.low p hp
theorem Rel.new (R : Rel prog w g L m σ h) {a : Addr} {o : Obj} {ao : O} (k : ∀ b o, h.get? b = some o → h'.get? b = some o) (hn : h.objs.size ≤ a) (ho : h'.get? a = some o) (r : OR prog w h' o ao) : Rel prog w g L m ((a, ao) :: σ) h' := by
  have R' := R.ext k
  refine ⟨R.rh.new k hn ho r, R'.ns, fun p hp => ?_⟩
  rcases List.mem_cons.mp hp with rfl | hp
  · intro e
    obtain ⟨mc, ⟨oL, _, _, hL, _⟩, _⟩ := R.ns
    rw [← e] at hL; rw [get_none_of_size hn] at hL; cases hL
  · exact R.offS p hp
theorem get_size_none (h : Heap) : h.get? h.objs.size = none := by
  cases q : h.get? h.objs.size with
  | none => rfl
  | some o => exact absurd (Heap.lt_size q) (Nat.lt_irrefl _)

/-- fewer, in another order -/
inductive Take (p : Addr × O) : St → St → Prop
  | head {r} : Take p (p :: r) r
  | tail {q r r'} : Take p r r' → Take p (q :: r) (q :: r')
inductive SubP : St → St → Prop
  | nil {l : St} : SubP [] l
  | cons {p r} {l l' : St} : Take p l l' → SubP r l' → SubP (p :: r) l
theorem Take.perm {p : Addr × O} : ∀ {l l' : St}, Take p l l' → (p :: l').Perm l
  | _, _, .head => .refl _
  | _, _, .tail t => (List.Perm.swap _ _ _).trans (.cons _ t.perm)
theorem SubP.split : ∀ {l' l : St}, SubP l' l → ∃ r, (l' ++ r).Perm l
  | _, l, .nil => ⟨l, .refl _⟩
  | _, _, .cons t s => let ⟨r, e⟩ := s.split; ⟨r, (List.Perm.cons _ e).trans t.perm⟩
theorem SubP.subset {l' l : St} (s : SubP l' l) {p : Addr × O} (h : p ∈ l') : p ∈ l := let ⟨_, e⟩ := s.split; e.subset (List.mem_append_left _ h)
theorem SubP.refl : ∀ (l : St), SubP l l
  | [] => .nil
  | _ :: r => .cons .head (SubP.refl r)
/-- a changed object of the ledger -/
inductive Up (a : Addr) (o o' : O) : St → St → Prop
  | head {r} : Up a o o' ((a, o) :: r) ((a, o') :: r)
  | tail {p r r'} : Up a o o' r r' → Up a o o' (p :: r) (p :: r')
theorem Up.mem {a : Addr} {o o' : O} : ∀ {l l' : St}, Up a o o' l l' → (a, o) ∈ l
  | _, _, .head => .head _
  | _, _, .tail r => .tail _ r.mem
theorem Up.map {a : Addr} {o o' : O} : ∀ {l l' : St}, Up a o o' l l' → l'.map (·.1) = l.map (·.1)
  | _, _, .head => rfl
  | _, _, .tail r => by simp [r.map]
theorem Up.of {a : Addr} {o o' : O} : ∀ {l l' : St}, Up a o o' l l' → ∀ {p}, p ∈ l' → (l.map (·.1)).Nodup → p = (a, o') ∨ (p ∈ l ∧ p.1 ≠ a)
  | _, _, .head (r := r), p, hp, nd => by
    rcases List.mem_cons.mp hp with rfl | hp
    · exact .inl rfl
    · refine .inr ⟨.tail _ hp, fun e => ?_⟩
      have := (List.nodup_cons.mp nd).1
      exact this (List.mem_map.mpr ⟨p, hp, e⟩)
  | _, _, .tail (p := q) (r := r) u, p, hp, nd => by
    rcases List.mem_cons.mp hp with rfl | hp
    · refine .inr ⟨.head _, fun e => ?_⟩
      exact (List.nodup_cons.mp nd).1 (List.mem_map.mpr ⟨(a, o), u.mem, e.symm⟩)
    · rcases u.of hp (List.nodup_cons.mp nd).2 with h | ⟨h1, h2⟩
      · exact .inl h
      · exact .inr ⟨.tail _ h1, h2⟩

theorem RH.upd (R : RH prog w g σ h) {a : Addr} {o o' : O} {σ' : St} (u : Up a o o' σ σ') {c : Obj} (hs : Heap.SameBut a h h') (tk : TK h h') (hc : h'.get? a = some c) (r : OR prog w h' c o') : RH prog w g σ' h' := by
  have ha := R.own _ u.mem
  refine ⟨fun b ob e => ?_, by rw [u.map]; exact R.nd, fun p hp => ?_, R.st, fun p hp => ?_⟩
  · refine (hs.2 b fun q => ?_).trans (R.keep b ob e)
    rw [q, ha.1] at e; cases e
  · rcases u.of hp R.nd with rfl | ⟨hm, hne⟩
    · exact ⟨ha.1, c, hc, r⟩
    · obtain ⟨h1, ob, h2, h3⟩ := R.own p hm
      exact ⟨h1, ob, (hs.2 _ hne).trans h2, h3.mono _ _ tk⟩
  · rcases u.of hp R.nd with rfl | ⟨hm, _⟩
    · exact R.low (a, o) u.mem
    · exact R.low p hm
/-- fewer objects -/
theorem RH.sub (R : RH prog w g σ h) {σ' : St} (s : σ'.Sublist σ) : RH prog w g σ' h :=
  ⟨R.keep, R.nd.sublist (s.map _), fun p hp => R.own p (s.subset hp), R.st, fun p hp => R.low p (s.subset hp)⟩
theorem Rel.sub (R : Rel prog w g L m σ h) {σ' : St} (s : σ'.Sublist σ) : Rel prog w g L m σ' h :=
  ⟨R.rh.sub s, R.ns, fun p hp => R.offS p (s.subset hp)⟩
/-- another order -/
theorem RH.perm (R : RH prog w g σ h) {σ' : St} (s : σ'.Perm σ) : RH prog w g σ' h :=
  ⟨R.keep, (s.map (·.1)).nodup_iff.mpr R.nd, fun p hp => R.own p (s.subset hp), R.st, fun p hp => R.low p (s.subset hp)⟩
theorem Rel.perm (R : Rel prog w g L m σ h) {σ' : St} (s : σ'.Perm σ) : Rel prog w g L m σ' h :=
  ⟨R.rh.perm s, R.ns, fun p hp => R.offS p (s.subset hp)⟩
theorem RH.subP (R : RH prog w g σ h) {σ' : St} (s : SubP σ' σ) : RH prog w g σ' h := let ⟨r, e⟩ := s.split; (R.perm e).sub (List.sublist_append_left σ' r)
theorem Rel.subP (R : Rel prog w g L m σ h) {σ' : St} (s : SubP σ' σ) : Rel prog w g L m σ' h := let ⟨r, e⟩ := s.split; (R.perm e).sub (List.sublist_append_left σ' r)
/-- another map of the frame -/
theorem Rel.env (R : Rel prog w g L m σ h) {m' : Env'} (s : ∀ x v, m'.lookup x = some v → m.lookup x = some v) : Rel prog w g L m' σ h :=
  ⟨R.rh, let ⟨mc, hn, hv⟩ := R.ns; ⟨mc, hn, fun x v e => hv x v (s x v e)⟩, R.offS⟩

def mset : Env' → Str → V → Env'
  | [], x, v => [(x, v)]
  | (y, u) :: r, x, v => if x == y then (y, v) :: r else (y, u) :: mset r x v
theorem lookup_mset (m : Env') (x : Str) (v : V) (y : Str) : (mset m x v).lookup y = if y == x then some v else m.lookup y := by
  induction m with
  | nil => show (match y == x with | true => some v | false => none) = _; cases y == x <;> rfl
  | cons p r ih =>
    obtain ⟨z, u⟩ := p
    unfold mset
    cases hxz : x == z with
    | true =>
      have := eq_of_beq hxz; subst this
      simp only [if_true, List.lookup_cons]
      cases y == x <;> rfl
    | false =>
      simp only [Bool.false_eq_true, if_false, List.lookup_cons]
      cases hyz : y == z with
      | true =>
        have := eq_of_beq hyz; subst this
        have : (y == x) = false := by
          cases q : y == x with
          | false => rfl
          | true => rw [eq_of_beq q] at hxz; simp at hxz
        simp [this]
      | false => exact ih

/-- the frame's own object is a dict, no tuple -/
theorem ns_tk {mc : Str → Option Value} (hn : h.Ns L mc) (hs : Heap.SameBut L h h') : TK h h' := fun a cvs n e => by
  refine (hs.2 a fun q => ?_).trans e
  obtain ⟨o, es, ep, ho, hd, _⟩ := hn
  rw [q, ho] at e; cases e; cases hd
theorem Rel.store (R : Rel prog w g L m σ h) (offL : g.get? L = none) {mc : Str → Option Value} {x : Str} {v : V} {cv : Value} (hn : h.Ns L mc) (hv : ∀ y u, m.lookup y = some u → ∃ cu, mc y = some cu ∧ VR h cu u)
    (hn' : h'.Ns L fun y => if y = x then some cv else mc y) (hs : Heap.SameBut L h h') (r : VR h cv v) : Rel prog w g L (mset m x v) σ h' := by
  have tk := ns_tk hn hs
  refine ⟨⟨fun b o e => (hs.2 b fun q => ?_).trans (R.rh.keep b o e), R.rh.nd, fun p hp => ?_, R.rh.st, R.rh.low⟩, ⟨_, hn', fun y u e => ?_⟩, R.offS⟩
  · rw [q, offL] at e; cases e
  · obtain ⟨h1, o, h2, h3⟩ := R.rh.own p hp
    exact ⟨h1, o, (hs.2 _ (R.offS p hp)).trans h2, h3.mono _ _ tk⟩
  · rw [lookup_mset] at e
    by_cases q : y = x
    · subst q; simp at e; subst e; exact ⟨cv, by simp, r.mono tk⟩
    · rw [if_neg (by simpa using q)] at e
      obtain ⟨cu, a, b⟩ := hv y u e
      exact ⟨cu, by simp [q, a], b.mono tk⟩
end
end Mine

set_option Elab.async false
set_option linter.unusedVariables false
namespace Mine
open PySem PyProof.Rows

def AOk (k : Nat) (A : Around) : Prop := A.handled = none ∧ A.depth + k < recursionLimit ∧ A.units + 10 * k + 100 < cLine
theorem AOk.deeper {k : Nat} {A : Around} (h : AOk (k + 1) A) (env : Env) : AOk k (A.deeper env) := by
  obtain ⟨a, b, c⟩ := h
  refine ⟨a, ?_, ?_⟩
  · show A.depth + 1 + k < _; omega
  · show A.units + 3 + 10 * k + 100 < _; omega
theorem AOk.room {k : Nat} {A : Around} (h : AOk k A) : A.depth < recursionLimit := by have := h.2.1; omega

section
variable (prog : Program) (w : World) (Bs : Heap)

/-- a tree's run, abstractly: from every heap that bears m and σ it ends well in Q; no exception -/
def Ev {α β : Type} (P : Heap → α → β → Prop) (k : Nat) (L : Addr) (t : Sem α) (m : Env') (σ : St) (Q : β → St → Prop) : Prop :=
  ∀ (A : Around) (g : Heap) (s : Shared) (Qc : α → Shared → Prop) (Ec : Value → Shared → Prop), AOk k A → (∀ b o, Bs.get? b = some o → g.get? b = some o) → Rel prog w g L m σ s.heap →
    (∀ c v σ' h' tk, Q v σ' → Rel prog w g L m σ' h' → P h' c v → TK s.heap h' → Qc c { s with heap := h', toks := tk }) →
    wpAny (model prog w) A t Qc Ec s
abbrev EvE (k : Nat) (env : Env) (e : Expr) (m : Env') (σ : St) (Q : V → St → Prop) : Prop := Ev prog w Bs VR k env.locals (eval e env) m σ Q
abbrev EqR {α : Type} : Heap → α → α → Prop := fun _ a b => a = b
abbrev EvB (k : Nat) (env : Env) (e : Expr) (m : Env') (σ : St) (Q : Bool → St → Prop) : Prop := Ev prog w Bs EqR k env.locals (isTrue e env (eval e env)) m σ Q
abbrev EvA (k : Nat) (env : Env) (pos : Pos) (es : List Expr) (m : Env') (σ : St) (Q : List V → St → Prop) : Prop := Ev prog w Bs VRs k env.locals (spliced (backTo pos (starEach es env))) m σ Q

inductive Fl where
  | next | brk | cont
  | ret (v : V)
inductive FR (h : Heap) : Flow → Fl → Prop
  | next : FR h .next .next
  | brk : FR h .brk .brk
  | cont : FR h .cont .cont
  | ret {c v} : VR h c v → FR h (.ret c) (.ret v)

def EvSt (k : Nat) (L : Addr) (t : Sem Flow) (m : Env') (σ : St) (Q : Fl → Env' → St → Prop) : Prop :=
  ∀ (A : Around) (g : Heap) (s : Shared) (Qc : Flow → Shared → Prop) (Ec : Value → Shared → Prop), AOk k A → (∀ b o, Bs.get? b = some o → g.get? b = some o) → g.get? L = none → Rel prog w g L m σ s.heap →
    (∀ c f m' σ' h' tk, Q f m' σ' → Rel prog w g L m' σ' h' → FR h' c f → TK s.heap h' → Qc c { s with heap := h', toks := tk }) →
    wpAny (model prog w) A t Qc Ec s
abbrev EvS (k : Nat) (env : Env) (ss : List Stmt) (m : Env') (σ : St) (Q : Fl → Env' → St → Prop) : Prop := EvSt prog w Bs k env.locals (execs ss env) m σ Q
abbrev EvX (k : Nat) (env : Env) (x : Stmt) (m : Env') (σ : St) (Q : Fl → Env' → St → Prop) : Prop := EvSt prog w Bs k env.locals (exec x env) m σ Q

end

section
variable {prog : Program} {w : World} {Bs : Heap} {k : Nat} {env : Env} {m : Env'} {σ : St}

theorem Ev.mono {α β : Type} {P : Heap → α → β → Prop} {L : Addr} {t : Sem α} {Q Q' : β → St → Prop} (h : Ev prog w Bs P k L t m σ Q) (q : ∀ v σ', Q v σ' → Q' v σ') : Ev prog w Bs P k L t m σ Q' :=
  fun A g s Qc Ec hA hB R hQ => h A g s Qc Ec hA hB R fun c v σ' h' tk hq => hQ c v σ' h' tk (q v σ' hq)
-- expressions: constants and names
theorem ev_int {i : Int} {kk : Nat} {pos : Pos} {Q : V → St → Prop} (h : Q (.int i) σ) : EvE prog w Bs k env (.Constant (.int i) kk pos) m σ Q :=
  fun _ _ s _ _ _ _ R hQ => wpAny_Constant_int (hQ _ _ σ s.heap _ h R (.int ..) (.refl _))
theorem ev_str {x : Str} {kk : Nat} {pos : Pos} {Q : V → St → Prop} (h : Q (.str x) σ) : EvE prog w Bs k env (.Constant (.str x) kk pos) m σ Q :=
  fun _ _ s _ _ _ _ R hQ => wpAny_Constant_str (hQ _ _ σ s.heap _ h R (.str ..) (.refl _))
theorem ev_bool {b : Bool} {kk : Nat} {pos : Pos} {Q : V → St → Prop} (h : Q (.bool b) σ) : EvE prog w Bs k env (.Constant (.bool b) kk pos) m σ Q :=
  fun _ _ s _ _ _ _ R hQ => wpAny_Constant_bool (hQ _ _ σ s.heap s.toks h R (.bool _) (.refl _))
theorem ev_local {x : Str} {pos : Pos} {v : V} {Q : V → St → Prop} (hv : m.lookup x = some v) (h : Q v σ)
    (hk : env.scope.kind = .function := by rfl) (hx : env.kindOf x = some .local := by rfl) (hd : (x == ("__debug__" : Str)) = false := by decide) :
    EvE prog w Bs k env (.Name x pos) m σ Q := fun _ _ s _ _ _ _ R hQ => by
  obtain ⟨mc, hn, hm⟩ := R.ns
  obtain ⟨cv, e, r⟩ := hm x v hv
  exact wpAny_Name (wpAny_loadName_local hk hx hn e (hQ cv v σ s.heap s.toks h R r (.refl _))) hd
theorem ev_cell {x : Str} {pos : Pos} {c : Addr} {v : V} {Q : V → St → Prop} (hc : env.cells.lookup x = some c) (hm : (c, O.cell (some v)) ∈ σ) (h : Q v σ)
    (hk : env.scope.kind = .function := by rfl) (hx : env.kindOf x = some .cell := by rfl) (hd : (x == ("__debug__" : Str)) = false := by decide) :
    EvE prog w Bs k env (.Name x pos) m σ Q := fun _ _ s _ _ _ _ R hQ => by
  obtain ⟨_, o, ho, cv, hd', r⟩ := R.rh.own _ hm
  cases r with
  | some r => exact wpAny_Name (wpAny_loadName_cell hk hx hc ⟨o, ho, hd'⟩ (hQ _ v σ s.heap s.toks h R r (.refl _))) hd
theorem ev_global {x : Str} {pos : Pos} {mg : Str → Option Value} {cv : Value} {v : V} {Q : V → St → Prop} (hg : Bs.Ns env.globals mg) (hv : mg x = some cv) (hr : VR Bs cv v) (h : Q v σ)
    (hk : env.scope.kind = .function := by rfl) (hx : env.kindOf x = some .globalImplicit := by rfl) (hd : (x == ("__debug__" : Str)) = false := by decide) :
    EvE prog w Bs k env (.Name x pos) m σ Q := fun _ _ s _ _ _ hB R hQ => by
  have kp : ∀ b o, Bs.get? b = some o → s.heap.get? b = some o := fun b o e => R.rh.keep b o (hB b o e)
  exact Calls.Name_function_global hk hx (Calls.loadGlobal_global (hg.keeps kp) hv (hQ cv v σ s.heap s.toks h R (hr.mono (.of_keep kp)) (.refl _))) hd
theorem ev_builtin {x : Str} {pos : Pos} {mg mb : Str → Option Value} {cv : Value} {Q : V → St → Prop} (hg : Bs.Ns env.globals mg) (hm : mg x = none) (hb : Bs.Ns env.builtins mb) (hv : mb x = some cv) (h : Q (.raw cv) σ)
    (hk : env.scope.kind = .function := by rfl) (hx : env.kindOf x = some .globalImplicit := by rfl) (hd : (x == ("__debug__" : Str)) = false := by decide) :
    EvE prog w Bs k env (.Name x pos) m σ Q := fun _ _ s _ _ _ hB R hQ => by
  have kp : ∀ b o, Bs.get? b = some o → s.heap.get? b = some o := fun b o e => R.rh.keep b o (hB b o e)
  exact Calls.Name_function_global hk hx (Calls.loadGlobal_builtin (hg.keeps kp) hm (hb.keeps kp) hv (hQ cv _ σ s.heap s.toks h R (.raw _) (.refl _))) hd

-- two in a row
theorem Ev.two {α β γ δ : Type} {P : Heap → α → β → Prop} {P' : Heap → γ → δ → Prop} {L : Addr} {t : Sem α} {u : Sem γ} {Q : β → δ → St → Prop}
    (h : Ev prog w Bs P k L t m σ fun a σ1 => Ev prog w Bs P' k L u m σ1 fun b σ2 => Q a b σ2) (pm : ∀ {h h' c v}, TK h h' → P h c v → P h' c v)
    {A : Around} {g : Heap} {s : Shared} {Qc : α → γ → Shared → Prop} {Ec : Value → Shared → Prop} (hA : AOk k A) (hB : ∀ b o, Bs.get? b = some o → g.get? b = some o) (R : Rel prog w g L m σ s.heap)
    (hQ : ∀ c d a b σ' h' tk, Q a b σ' → Rel prog w g L m σ' h' → P h' c a → P' h' d b → TK s.heap h' → Qc c d { s with heap := h', toks := tk }) :
    wpAny (model prog w) A t (fun c s₁ => wpAny (model prog w) A u (fun d s₂ => Qc c d s₂) Ec s₁) Ec s :=
  h A g s _ _ hA hB R fun c a σ1 h1 tk1 h2 R1 r1 t1 => h2 A g _ _ _ hA hB R1 fun d b σ2 h3 tk2 hq R2 r2 t2 =>
    hQ c d a b σ2 h3 tk2 hq R2 (pm t2 r1) r2 (t1.trans t2)

inductive Bin : Operator → V → V → V → Prop
  | add (i j : Int) : Bin .Add (.int i) (.int j) (.int (i + j))
  | sub (i j : Int) : Bin .Sub (.int i) (.int j) (.int (i - j))
  | mul (i j : Int) (h : IntMulOk i j) : Bin .Mult (.int i) (.int j) (.int (i * j))
  | mod (i j : Int) (h : 0 < j) : Bin .Mod (.int i) (.int j) (.int (i % j))
  | div (i j : Int) (h : 0 < j) (h2 : j < 1073741824) : Bin .FloorDiv (.int i) (.int j) (.int (i / j))
  | cat (x y : Str) (h : x.length + y.length ≤ sizeLine) : Bin .Add (.str x) (.str y) (.str (x ++ y))
theorem bin_any {op : Operator} {a b c : V} (hb : Bin op a b c) {A : Around} {s : Shared} {ca cb : Value} {Qc Ec : Value → Shared → Prop} (ra : VR s.heap ca a) (rb : VR s.heap cb b)
    (hQ : ∀ cv tk, VR s.heap cv c → Qc cv { s with toks := tk }) : wpAny (model prog w) A (binaryOp op ca cb) Qc Ec s := by
  cases hb with
  | add i j => cases ra; cases rb; exact add_int (hQ _ _ (.int ..))
  | sub i j => cases ra; cases rb; exact sub_int (hQ _ _ (.int ..))
  | mul i j h => cases ra; cases rb; exact mul_int (hQ _ _ (.int ..)) h
  | mod i j h =>
    cases ra; cases rb
    refine mod_int (by omega) ?_
    rw [Int.fmod_eq_emod_of_nonneg _ (by omega)]
    exact hQ _ _ (.int ..)
  | div i j h h2 =>
    cases ra; cases rb
    refine floordiv_int (by omega) ?_ (.inl (PyProof.noPylong_small (by omega)))
    rw [Int.fdiv_eq_ediv_of_nonneg _ (by omega)]
    exact hQ _ _ (.int ..)
  | cat x y h =>
    cases ra; cases rb
    exact add_str (fun t' tk => hQ _ _ (.str ..)) h
theorem ev_binop {l r : Expr} {op : Operator} {pos : Pos} {Q : V → St → Prop}
    (h : EvE prog w Bs k env l m σ fun a σ1 => EvE prog w Bs k env r m σ1 fun b σ2 => ∃ c, Bin op a b c ∧ Q c σ2) :
    EvE prog w Bs k env (.BinOp l op r pos) m σ Q := fun A g s Qc Ec hA hB R hQ =>
  wpAny_BinOp (Ev.two (Qc := fun c d s₂ => wpAny (model prog w) A (binaryOp op c d) Qc Ec s₂) h (fun t r => r.mono t) hA hB R fun c d a b σ' h' tk ⟨v, hv, hq⟩ R' ra rb t =>
    bin_any hv (s := { s with heap := h', toks := tk }) ra rb fun cv tk' r => hQ cv v σ' h' tk' hq R' r t)
theorem ev_neg {x : Expr} {pos : Pos} {Q : V → St → Prop} (h : EvE prog w Bs k env x m σ fun a σ1 => ∃ i, a = .int i ∧ Q (.int (-i)) σ1) :
    EvE prog w Bs k env (.UnaryOp .USub x pos) m σ Q := fun A g s Qc Ec hA hB R hQ =>
  wpAny_UnaryOp (h A g s _ _ hA hB R fun c a σ1 h1 tk ⟨i, e, hq⟩ R1 r t => by
    subst e; cases r
    exact neg_int (hQ _ _ σ1 h1 _ hq R1 (.int ..) t))

inductive Cmp : CmpOp → V → V → Bool → Prop
  | eqI (i j : Int) : Cmp .Eq (.int i) (.int j) (decide (i = j))
  | ltI (i j : Int) : Cmp .Lt (.int i) (.int j) (decide (i < j))
  | leI (i j : Int) : Cmp .LtE (.int i) (.int j) (decide (i ≤ j))
  | gtI (i j : Int) : Cmp .Gt (.int i) (.int j) (decide (j < i))
  | eqS (x y : Str) : Cmp .Eq (.str x) (.str y) (decide (x = y))
  | neS (x y : Str) : Cmp .NotEq (.str x) (.str y) (!decide (x = y))
  | isT (x y : String) : Cmp .Is (.raw (.type x)) (.raw (.type y)) (decide (x = y))
theorem type_beq (x y : String) : ((Value.type x) == (Value.type y)) = decide (x = y) := by
  by_cases h : x = y
  · subst h; simp
  · simp [h]
theorem cmp_any {op : CmpOp} {a b : V} {c : Bool} (hb : Cmp op a b c) {A : Around} {s : Shared} {ca cb : Value} {Qc Ec : Value → Shared → Prop} (ra : VR s.heap ca a) (rb : VR s.heap cb b)
    (hQ : Qc (.bool c) s) : wpAny (model prog w) A (compareOp op ca cb) Qc Ec s := by
  cases hb with
  | eqI i j => cases ra; cases rb; exact eq_int hQ
  | ltI i j => cases ra; cases rb; exact lt_int hQ
  | leI i j => cases ra; cases rb; exact le_int hQ
  | gtI i j => cases ra; cases rb; exact gt_int hQ
  | eqS x y => cases ra; cases rb; exact eq_str (by have : (x == y) = decide (x = y) := by by_cases h : x = y <;> simp [h]
                                                    rw [this]; exact hQ)
  | neS x y => cases ra; cases rb; exact ne_str (by have : (x != y) = !decide (x = y) := by by_cases h : x = y <;> simp [h]
                                                    rw [this]; exact hQ)
  | isT x y => cases ra; cases rb; exact wpAny_is_plain rfl (by rw [type_beq]; exact hQ)
-- truth
theorem evb_not {x : Expr} {pos : Pos} {Q : Bool → St → Prop} (h : EvB prog w Bs k env x m σ fun b σ1 => Q (!b) σ1) : EvB prog w Bs k env (.UnaryOp .Not x pos) m σ Q :=
  fun A g s Qc Ec hA hB R hQ => wpAny_isTrue_Not (h A g s _ _ hA hB R fun c b σ1 h1 tk hq R1 e t => hQ _ _ σ1 h1 tk hq R1 (by rw [show c = b from e]) t)
/-- a plain value as a test -/
inductive Tru : V → Bool → Prop
  | bool (b : Bool) : Tru (.bool b) b
theorem tru_any {a : V} {b : Bool} (hb : Tru a b) {A : Around} {s : Shared} {ca : Value} {Qc : Bool → Shared → Prop} {Ec : Value → Shared → Prop} (ra : VR s.heap ca a) (hQ : Qc b s) : wpAny (model prog w) A (truthy ca) Qc Ec s := by
  cases hb with
  | bool b => cases ra; exact wpAny_truthy_bool hQ
theorem evb_val {e : Expr} {Q : Bool → St → Prop} (h : EvE prog w Bs k env e m σ fun a σ1 => ∃ b, Tru a b ∧ Q b σ1)
    (he : isTrue e env (eval e env) = (do let v ← eval e env; standAt e.pos; holding [v] (truthy v)) := by rfl) : EvB prog w Bs k env e m σ Q :=
  fun A g s Qc Ec hA hB R hQ => wpAny_isTrue_value (h A g s _ _ hA hB R fun c a σ1 h1 tk ⟨b, hb, hq⟩ R1 r t => tru_any hb (s := { s with heap := h1, toks := tk }) r (hQ _ _ σ1 h1 tk hq R1 rfl t)) he
theorem evb_and {es : List Expr} {pos : Pos} {Q : Bool → St → Prop} (h : Ev prog w Bs EqR k env.locals (allTrue .And es env) m σ Q) : EvB prog w Bs k env (.BoolOp .And es pos) m σ Q :=
  fun A g s Qc Ec hA hB R hQ => wpAny_isTrue_BoolOp (h A g s Qc Ec hA hB R hQ)
theorem evb_or {es : List Expr} {pos : Pos} {Q : Bool → St → Prop} (h : Ev prog w Bs EqR k env.locals (allTrue .Or es env) m σ Q) : EvB prog w Bs k env (.BoolOp .Or es pos) m σ Q :=
  fun A g s Qc Ec hA hB R hQ => wpAny_isTrue_BoolOp (h A g s Qc Ec hA hB R hQ)
theorem all_and_nil {Q : Bool → St → Prop} (h : Q true σ) : Ev prog w Bs EqR k env.locals (allTrue .And [] env) m σ Q :=
  fun A g s Qc Ec hA hB R hQ => wpAny_allTrue_And_nil (hQ _ _ σ s.heap s.toks h R rfl (.refl _))
theorem all_or_nil {Q : Bool → St → Prop} (h : Q false σ) : Ev prog w Bs EqR k env.locals (allTrue .Or [] env) m σ Q :=
  fun A g s Qc Ec hA hB R hQ => wpAny_allTrue_Or_nil (hQ _ _ σ s.heap s.toks h R rfl (.refl _))
theorem all_and_cons {x : Expr} {rest : List Expr} {Q : Bool → St → Prop} (h : EvB prog w Bs k env x m σ fun b σ1 => if b then Ev prog w Bs EqR k env.locals (allTrue .And rest env) m σ1 Q else Q false σ1) :
    Ev prog w Bs EqR k env.locals (allTrue .And (x :: rest) env) m σ Q :=
  fun A g s Qc Ec hA hB R hQ => wpAny_allTrue_And_cons (h A g s _ _ hA hB R fun c b σ1 h1 tk hq R1 e t => by
    subst e
    cases c with
    | true => exact hq A g _ _ _ hA hB R1 fun c v σ' h' tk hq R' p t' => hQ c v σ' h' tk hq R' p (t.trans t')
    | false => exact hQ _ _ σ1 h1 tk hq R1 rfl t)
theorem all_or_cons {x : Expr} {rest : List Expr} {Q : Bool → St → Prop} (h : EvB prog w Bs k env x m σ fun b σ1 => if b then Q true σ1 else Ev prog w Bs EqR k env.locals (allTrue .Or rest env) m σ1 Q) :
    Ev prog w Bs EqR k env.locals (allTrue .Or (x :: rest) env) m σ Q :=
  fun A g s Qc Ec hA hB R hQ => wpAny_allTrue_Or_cons (h A g s _ _ hA hB R fun c b σ1 h1 tk hq R1 e t => by
    subst e
    cases c with
    | false => exact hq A g _ _ _ hA hB R1 fun c v σ' h' tk hq R' p t' => hQ c v σ' h' tk hq R' p (t.trans t')
    | true => exact hQ _ _ σ1 h1 tk hq R1 rfl t)
theorem ev_ifexp {test body orelse : Expr} {pos : Pos} {Q : V → St → Prop} (h : EvB prog w Bs k env test m σ fun b σ1 => if b then EvE prog w Bs k env body m σ1 Q else EvE prog w Bs k env orelse m σ1 Q) :
    EvE prog w Bs k env (.IfExp test body orelse pos) m σ Q :=
  fun A g s Qc Ec hA hB R hQ => wpAny_IfExp (h A g s _ _ hA hB R fun c b σ1 h1 tk hq R1 e t => by
    subst e
    cases c with
    | true => exact hq A g _ _ _ hA hB R1 fun c v σ' h' tk hq R' p t' => hQ c v σ' h' tk hq R' p (t.trans t')
    | false => exact hq A g _ _ _ hA hB R1 fun c v σ' h' tk hq R' p t' => hQ c v σ' h' tk hq R' p (t.trans t'))

-- statements
theorem evs_nil {Q : Fl → Env' → St → Prop} (h : Q .next m σ) : EvS prog w Bs k env [] m σ Q :=
  fun A g s Qc Ec hA hB hL R hQ => wpAny_execs_nil (hQ _ _ m σ s.heap s.toks h R .next (.refl _))
theorem evs_cons {st : Stmt} {rest : List Stmt} {Q : Fl → Env' → St → Prop}
    (h : EvX prog w Bs k env st m σ fun f m1 σ1 => match f with | .next => EvS prog w Bs k env rest m1 σ1 Q | f => Q f m1 σ1) : EvS prog w Bs k env (st :: rest) m σ Q :=
  fun A g s Qc Ec hA hB hL R hQ => wpAny_execs_cons (h A g s _ _ hA hB hL R fun c f m1 σ1 h1 tk hq R1 e t => by
    cases e with
    | next => exact hq A g _ _ _ hA hB hL R1 fun c v m' σ' h' tk hq R' p t' => hQ c v m' σ' h' tk hq R' p (t.trans t')
    | brk => exact hQ _ _ m1 σ1 h1 tk hq R1 .brk t
    | cont => exact hQ _ _ m1 σ1 h1 tk hq R1 .cont t
    | ret r => exact hQ _ _ m1 σ1 h1 tk hq R1 (.ret r) t)
theorem evx_if {test : Expr} {body orelse : List Stmt} {pos : Pos} {Q : Fl → Env' → St → Prop}
    (h : EvB prog w Bs k env test m σ fun b σ1 => if b then EvS prog w Bs k env body m σ1 Q else EvS prog w Bs k env orelse m σ1 Q) : EvX prog w Bs k env (.If test body orelse pos) m σ Q :=
  fun A g s Qc Ec hA hB hL R hQ => wpAny_If (h A g s _ _ hA hB R fun c b σ1 h1 tk hq R1 e t => by
    subst e
    cases c with
    | true => exact hq A g _ _ _ hA hB hL R1 fun c v m' σ' h' tk hq R' p t' => hQ c v m' σ' h' tk hq R' p (t.trans t')
    | false => exact hq A g _ _ _ hA hB hL R1 fun c v m' σ' h' tk hq R' p t' => hQ c v m' σ' h' tk hq R' p (t.trans t'))
theorem evx_ret {e : Expr} {pos : Pos} {Q : Fl → Env' → St → Prop} (h : EvE prog w Bs k env e m σ fun v σ1 => Q (.ret v) m σ1) : EvX prog w Bs k env (.Return (some e) pos) m σ Q :=
  fun A g s Qc Ec hA hB hL R hQ => wpAny_Return_some (h A g s _ _ hA hB R fun c b σ1 h1 tk hq R1 e t => hQ _ _ m σ1 h1 tk hq R1 (.ret e) t)
theorem evx_continue {pos : Pos} {Q : Fl → Env' → St → Prop} (h : Q .cont m σ) : EvX prog w Bs k env (.Continue pos) m σ Q :=
  fun A g s Qc Ec hA hB hL R hQ => wpAny_Continue (hQ _ _ m σ s.heap s.toks h R .cont (.refl _))
/-- a value that is no object -/
inductive NoRef : V → Prop
  | none : NoRef .none
  | bool (b) : NoRef (.bool b)
  | int (i) : NoRef (.int i)
  | str (x) : NoRef (.str x)
theorem evx_expr {e : Expr} {pos : Pos} {Q : Fl → Env' → St → Prop} (h : EvE prog w Bs k env e m σ fun v σ1 => NoRef v ∧ Q .next m σ1)
    (hi : interactive env = false := by rfl) (hs : swapsWith e none pos.line env = pure false := by rfl) : EvX prog w Bs k env (.Expr e pos) m σ Q :=
  fun A g s Qc Ec hA hB hL R hQ => wpAny_Expr (h A g s _ _ hA hB R fun c b σ1 h1 tk ⟨hn, hq⟩ R1 r t => by
    have := hQ .next .next m σ1 h1 tk hq R1 .next t
    cases hn <;> cases r <;> exact this) hi hs
/-- storing a name of the frame -/
theorem store_any {x : Str} {v : V} {cv : Value} {A : Around} {g : Heap} {s : Shared} {Qc : Unit → Shared → Prop} {Ec : Value → Shared → Prop} (R : Rel prog w g env.locals m σ s.heap) (hL : g.get? env.locals = none) (r : VR s.heap cv v)
    (hl : env.kindOf x = some .local) (hk : env.scope.kind = .function) (hQ : ∀ h' tk, Rel prog w g env.locals (mset m x v) σ h' → TK s.heap h' → Qc () { s with heap := h', toks := tk }) :
    wpAny (model prog w) A (storeName env x cv) Qc Ec s := by
  obtain ⟨mc, hn, hm⟩ := R.ns
  exact wpAny_storeName_local hl hn (fun h' hn' hs => hQ h' _ (R.store hL hn hm hn' hs r) (ns_tk hn hs)) (by rw [hk]; rfl)
theorem evx_assign {x : Str} {xp pos : Pos} {value : Expr} {Q : Fl → Env' → St → Prop} (h : EvE prog w Bs k env value m σ fun v σ1 => Q .next (mset m x v) σ1)
    (hs : swapsWith value (some (.Name x xp)) pos.line env = pure false := by rfl) (hl : env.kindOf x = some .local := by rfl) (hk : env.scope.kind = .function := by rfl) :
    EvX prog w Bs k env (.Assign [.Name x xp] value pos) m σ Q :=
  fun A g s Qc Ec hA hB hL R hQ => wpAny_Assign_Name (h A g s _ _ hA hB R fun c v σ1 h1 tk hq R1 r t =>
    store_any (s := { s with heap := h1, toks := tk }) R1 hL r hl hk fun h' tk' R' t' => hQ _ _ _ σ1 h' tk' hq R' .next (t.trans t')) hs
end
end Mine

set_option Elab.async false
set_option linter.unusedVariables false
namespace Mine
open PySem PyProof.Rows PySem.Calls

/-- the heap without some places -/
def mask (h : Heap) (S : List Addr) : Heap := ⟨h.objs.mapIdx fun i o => if S.contains i then { o with data := .freed } else o, h.life⟩
theorem mask_in {h : Heap} {S : List Addr} {b : Addr} (hb : b ∈ S) : (mask h S).get? b = none := by
  unfold Heap.get? mask
  simp only [Array.getElem?_mapIdx]
  have : S.contains b = true := by simpa using hb
  cases h.objs[b]? with
  | none => rfl
  | some o => simp only [Option.map_some, this, if_true]
theorem mask_out {h : Heap} {S : List Addr} {b : Addr} (hb : b ∉ S) : (mask h S).get? b = h.get? b := by
  unfold Heap.get? mask
  simp only [Array.getElem?_mapIdx]
  have : S.contains b = false := by simpa using hb
  cases h.objs[b]? with
  | none => rfl
  | some o => simp only [Option.map_some, this, Bool.false_eq_true, if_false]
theorem mask_sub {h : Heap} {S : List Addr} {b : Addr} {o : Obj} (e : (mask h S).get? b = some o) : h.get? b = some o := by
  by_cases hb : b ∈ S
  · rw [mask_in hb] at e; cases e
  · rwa [mask_out hb] at e

section
variable {prog : Program} {w : World} {Bs : Heap} {k : Nat} {env : Env} {m : Env'} {σ σ₁ σ₂ : St} {g h h' : Heap} {L : Addr}

/-- all but the ledger is kept -/
theorem RH.le_mask (R : RH prog w g σ h) : ∀ b o, g.get? b = some o → (mask h (σ.map (·.1))).get? b = some o := fun b o e => by
  rw [mask_out]
  · exact R.keep b o e
  · intro hm
    obtain ⟨p, hp, q⟩ := List.mem_map.mp hm
    have := (R.own p hp).1
    rw [q, e] at this; cases this
theorem RH.masked (R : RH prog w g σ h) : RH prog w (mask h (σ.map (·.1))) σ h :=
  ⟨fun b o e => mask_sub e, R.nd, fun p hp => ⟨mask_in (List.mem_map_of_mem hp), (R.own p hp).2⟩, let ⟨o, e⟩ := R.st; ⟨o, R.le_mask _ _ e⟩, R.low⟩
theorem RH.less {g' : Heap} (R : RH prog w g' σ h) (st : ∃ o, g.get? cStatics = some o) (le : ∀ b o, g.get? b = some o → g'.get? b = some o) : RH prog w g σ h :=
  ⟨fun b o e => R.keep b o (le b o e), R.nd, fun p hp => by
    refine ⟨?_, (R.own p hp).2⟩
    cases q : g.get? p.1 with
    | none => rfl
    | some o => have := (R.own p hp).1; rw [le _ _ q] at this; (cases this), st, R.low⟩
theorem Rel.less {g' : Heap} (R : Rel prog w g' L m σ h) (st : ∃ o, g.get? cStatics = some o) (le : ∀ b o, g.get? b = some o → g'.get? b = some o) : Rel prog w g L m σ h := ⟨R.rh.less st le, R.ns, R.offS⟩
theorem Rel.le_mask (R : Rel prog w g L m σ h) (hL : g.get? L = none) : ∀ b o, g.get? b = some o → (mask h (L :: σ.map (·.1))).get? b = some o := fun b o e => by
  rw [mask_out]
  · exact R.rh.keep b o e
  · intro hm
    rcases List.mem_cons.mp hm with rfl | hm
    · rw [hL] at e; cases e
    · obtain ⟨p, hp, q⟩ := List.mem_map.mp hm
      have := (R.rh.own p hp).1
      rw [q, e] at this; cases this

theorem Rel.masked (R : Rel prog w g L m σ h) (hL : g.get? L = none) : Rel prog w (mask h (L :: σ.map (·.1))) L m σ h :=
  ⟨⟨fun b o e => mask_sub e, R.rh.nd, fun p hp => ⟨mask_in (.tail _ (List.mem_map_of_mem hp)), (R.rh.own p hp).2⟩, let ⟨o, e⟩ := R.rh.st; ⟨o, R.le_mask hL _ _ e⟩, R.rh.low⟩, R.ns, R.offS⟩

theorem Rel.lt (R : Rel prog w g L m σ h) : ∃ o, h.get? L = some o := let ⟨_, ⟨o, _, _, ho, _⟩, _⟩ := R.ns; ⟨o, ho⟩

-- calls of the text's own functions
variable (prog w Bs) in
def EvF (k : Nat) (f : Value) (vs : List V) (σ : St) (Q : V → St → Prop) : Prop :=
  ∀ (A : Around) (g : Heap) (s : Shared) (Qc Ec : Value → Shared → Prop) (cvs : List Value), AOk k A → (∀ b o, Bs.get? b = some o → g.get? b = some o) → RH prog w g σ s.heap → VRs s.heap cvs vs →
    (∀ cv v σ' h' tk, Q v σ' → RH prog w g σ' h' → VR h' cv v → TK s.heap h' → Qc cv { s with heap := h', toks := tk }) →
    wpAny (model prog w) A (call f cvs) Qc Ec s
def retOf : Fl → V
  | .ret v => v
  | _ => .none
theorem Rel.leave (R : Rel prog w g L m σ h) {σ' : St} (R' : RH prog w (mask h (σ.map (·.1))) σ' h') (tk : TK h h') : Rel prog w g L m σ' h' := by
  obtain ⟨mc, hn, hv⟩ := R.ns
  have hLm : ∀ o, h.get? L = some o → (mask h (σ.map (·.1))).get? L = some o := fun o e => by
    rw [mask_out]; exact e
    intro hm
    obtain ⟨p, hp, q⟩ := List.mem_map.mp hm
    exact R.offS p hp q
  refine ⟨R'.less R.rh.st R.rh.le_mask, ⟨mc, ?_, fun x v e => let ⟨cv, a, b⟩ := hv x v e; ⟨cv, a, b.mono tk⟩⟩, fun p hp e => ?_⟩
  · obtain ⟨o, es, ep, ho, r⟩ := hn
    exact ⟨o, es, ep, R'.keep _ _ (hLm o ho), r⟩
  · obtain ⟨o, ho⟩ := R.lt
    have := (R'.own p hp).1
    rw [e, hLm o ho] at this; cases this
/-- a tree that is a call -/
theorem callf_any {f : Value} {vs : List V} {cvs : List Value} {Q : V → St → Prop} (h : EvF prog w Bs k f vs σ Q) {A : Around} {s : Shared} {Qc Ec : Value → Shared → Prop} (hA : AOk k A) (hB : ∀ b o, Bs.get? b = some o → g.get? b = some o)
    (R : Rel prog w g L m σ s.heap) (r : VRs s.heap cvs vs) (hQ : ∀ cv v σ' h' tk, Q v σ' → Rel prog w g L m σ' h' → VR h' cv v → TK s.heap h' → Qc cv { s with heap := h', toks := tk }) :
    wpAny (model prog w) A (call f cvs) Qc Ec s :=
  h A _ s Qc Ec cvs hA (fun b o e => R.rh.le_mask b o (hB b o e)) R.rh.masked r fun cv v σ' h' tk hq R' rv t => hQ cv v σ' h' tk hq (R.leave R' t) rv t

theorem eva_nil {pos : Pos} {Q : List V → St → Prop} (h : Q [] σ) : EvA prog w Bs k env pos [] m σ Q :=
  fun A g s Qc Ec hA hB R hQ => args_nil (hQ _ _ σ s.heap s.toks h R .nil (.refl _))
theorem eva_cons {pos : Pos} {e : Expr} {rest : List Expr} {Q : List V → St → Prop} (h : EvE prog w Bs k env e m σ fun v σ1 => EvA prog w Bs k env pos rest m σ1 fun vs σ2 => Q (v :: vs) σ2)
    (he : starEach (e :: rest) env = (false, eval e env) :: starEach rest env := by rfl) : EvA prog w Bs k env pos (e :: rest) m σ Q :=
  fun A g s Qc Ec hA hB R hQ => args_cons (Ev.two (Qc := fun c d s₂ => Qc (c :: d) s₂) h (fun t r => r.mono t) hA hB R fun c d a b σ' h' tk hq R' ra rb t => hQ _ _ σ' h' tk hq R' (.cons ra rb) t) he
theorem ev_call {fn : Str} {p pos : Pos} {e : Expr} {rest : List Expr} {f : Addr} {fo : Obj} {fd : FuncData} {Q : V → St → Prop} (hf : Bs.get? f = some fo) (hd : fo.data = .func fd)
    (h : EvE prog w Bs k env (.Name fn p) m σ fun v σ0 => v = .raw (.ref f) ∧ EvA prog w Bs k env pos (e :: rest) m σ0 fun vs σ1 => EvF prog w Bs k (.ref f) vs σ1 Q)
    (he : starEach (e :: rest) env = (false, eval e env) :: starEach rest env := by rfl) :
    EvE prog w Bs k env (.Call (.Name fn p) (e :: rest) [] pos) m σ Q := fun A g s Qc Ec hA hB R hQ =>
  Call_ (h A g s _ _ hA hB R fun c v σ0 h0 tk0 ⟨ev, ha⟩ R0 r0 t0 => by
    subst ev; cases r0
    exact callWith_def hd (ha A g _ _ _ hA hB R0 fun cvs vs σ1 h1 tk1 hq R1 rs t1 =>
      ⟨R1.rh.keep _ _ (hB _ _ hf), callf_any (s := { s with heap := h1, toks := tk1 }) hq hA hB R1 rs fun cv v σ' h' tk hq' R' rv t => hQ cv v σ' h' tk hq' R' rv (t0.trans (t1.trans t))⟩) he)
-- built-in functions and types by name
theorem ev_callb {fn : Str} {p pos : Pos} {e : Expr} {rest : List Expr} {id : String} {Q : V → St → Prop}
    (h : EvE prog w Bs k env (.Name fn p) m σ fun v σ0 => v = .raw (.builtin id) ∧ EvA prog w Bs k env pos (e :: rest) m σ0 fun vs σ1 => EvF prog w Bs k (.builtin id) vs σ1 Q)
    (he : starEach (e :: rest) env = (false, eval e env) :: starEach rest env := by rfl) (hp : (backTo pos (starEach rest env)).any (·.1) = false := by rfl) :
    EvE prog w Bs k env (.Call (.Name fn p) (e :: rest) [] pos) m σ Q := fun A g s Qc Ec hA hB R hQ =>
  Call_ (h A g s _ _ hA hB R fun c v σ0 h0 tk0 ⟨ev, ha⟩ R0 r0 t0 => by
    subst ev; cases r0
    exact callWith_builtin1 (ha A g _ _ _ hA hB R0 fun cvs vs σ1 h1 tk1 hq R1 rs t1 =>
      callf_any (s := { s with heap := h1, toks := tk1 }) hq hA hB R1 rs fun cv v σ' h' tk hq' R' rv t => hQ cv v σ' h' tk hq' R' rv (t0.trans (t1.trans t))) he hp)
theorem ev_callt {fn : Str} {p pos : Pos} {e : Expr} {rest : List Expr} {T : String} {Q : V → St → Prop}
    (h : EvE prog w Bs k env (.Name fn p) m σ fun v σ0 => v = .raw (.type T) ∧ EvA prog w Bs k env pos (e :: rest) m σ0 fun vs σ1 => EvF prog w Bs k (.type T) vs σ1 Q)
    (he : starEach (e :: rest) env = (false, eval e env) :: starEach rest env := by rfl) (hp : (backTo pos (starEach rest env)).any (·.1) = false := by rfl) :
    EvE prog w Bs k env (.Call (.Name fn p) (e :: rest) [] pos) m σ Q := fun A g s Qc Ec hA hB R hQ =>
  Call_ (h A g s _ _ hA hB R fun c v σ0 h0 tk0 ⟨ev, ha⟩ R0 r0 t0 => by
    subst ev; cases r0
    exact PyProof.Rows.callWith_type1 (ha A g _ _ _ hA hB R0 fun cvs vs σ1 h1 tk1 hq R1 rs t1 =>
      callf_any (s := { s with heap := h1, toks := tk1 }) hq hA hB R1 rs fun cv v σ' h' tk hq' R' rv t => hQ cv v σ' h' tk hq' R' rv (t0.trans (t1.trans t))) he hp)
end
end Mine

set_option Elab.async false
set_option linter.unusedVariables false
namespace Mine
open PySem PyProof.Rows

def locs (fd : FuncData) (ps : List Str) (vs : List V) : Env' := (ps.zip vs).filter fun p => fd.scope.names.lookup p.1 == some .local
def cellsσ (fd : FuncData) (L : Addr) (ps : List Str) (vs : List V) : St := (cellsFrom (L + 1) fd.scope.names []).map fun nc => (nc.2, O.cell ((ps.zip vs).lookup nc.1))

theorem lookup_none_of_not_mem {α : Type} : ∀ {l : List (Str × α)} {x : Str}, x ∉ l.map (·.1) → l.lookup x = none
  | [], _, _ => rfl
  | (y, v) :: r, x, h => by
    rw [List.lookup_cons]
    have h1 : x ≠ y := fun e => h (by rw [e]; exact .head _)
    have : (x == y) = false := by simpa using h1
    rw [this]
    exact lookup_none_of_not_mem fun hm => h (.tail _ hm)
theorem lookup_mem_nodup {α : Type} : ∀ {l : List (Str × α)} {x : Str} {v : α}, (l.map (·.1)).Nodup → (x, v) ∈ l → l.lookup x = some v
  | (y, u) :: r, x, v, nd, h => by
    rw [List.lookup_cons]
    rcases List.mem_cons.mp h with e | h
    · cases e; simp
    · have : x ≠ y := fun e => (List.nodup_cons.mp nd).1 (by rw [← e]; exact List.mem_map_of_mem (f := (·.1)) h)
      have : (x == y) = false := by simpa using this
      rw [this]
      exact lookup_mem_nodup (List.nodup_cons.mp nd).2 h
theorem cellsFrom_nodup : ∀ (names : List (Str × NameKind)) (n : Nat) (acc : List (Str × Addr)), (names.map (·.1) ++ acc.map (·.1)).Nodup → ((cellsFrom n names acc).map (·.1)).Nodup
  | [], _, acc, h => by simpa [cellsFrom] using h
  | (x, kd) :: r, n, acc, h => by
    unfold cellsFrom
    split
    · refine cellsFrom_nodup r _ _ ?_
      have : List.Perm (r.map (·.1) ++ ((x, n) :: acc).map (·.1)) (((x, kd) :: r).map (·.1) ++ acc.map (·.1)) := by
        simp only [List.map_cons, List.cons_append]
        exact List.perm_middle
      exact this.nodup_iff.mpr h
    · refine cellsFrom_nodup r _ _ ?_
      simp only [List.map_cons, List.cons_append] at h
      exact (List.nodup_cons.mp h).2

section
variable {h : Heap} {kindOf : Str → Option NameKind}
theorem bindL_out : ∀ {ps : List Str} {cvs : List Value} {mc : Str → Option Value} {x : Str}, x ∉ ps → bindL kindOf (ps.zip cvs) mc x = mc x
  | [], _, _, _, _ => rfl
  | p :: ps, [], _, _, _ => rfl
  | p :: ps, c :: cvs, mc, x, hx => by
    show bindL kindOf (ps.zip cvs) _ x = _
    rw [bindL_out fun hm => hx (.tail _ hm)]
    split
    · show (if x = p then some c else mc x) = mc x
      exact if_neg fun e => hx (by rw [e]; exact .head _)
    · rfl
theorem bindC_out : ∀ {ps : List Str} {cvs : List Value} {mc : Str → Option Value} {x : Str}, x ∉ ps → bindC kindOf (ps.zip cvs) mc x = mc x
  | [], _, _, _, _ => rfl
  | p :: ps, [], _, _, _ => rfl
  | p :: ps, c :: cvs, mc, x, hx => by
    show bindC kindOf (ps.zip cvs) _ x = _
    rw [bindC_out fun hm => hx (.tail _ hm)]
    split
    · rfl
    · show (if x = p then some c else mc x) = mc x
      exact if_neg fun e => hx (by rw [e]; exact .head _)
theorem bindL_in : ∀ {ps : List Str} {cvs : List Value} {vs : List V} {mc : Str → Option Value} {x : Str} {v : V}, ps.Nodup → VRs h cvs vs → (ps.zip vs).lookup x = some v → kindOf x = some .local →
    ∃ cv, bindL kindOf (ps.zip cvs) mc x = some cv ∧ VR h cv v
  | [], _, _, _, _, _, _, _, e, _ => by simp at e
  | p :: ps, _, _, _, _, _, _, .nil, e, _ => by simp at e
  | p :: ps, _, _, mc, x, v, nd, .cons (c := c) (cs := cs) r rs, e, hk => by
    rw [List.zip_cons_cons, List.lookup_cons] at e
    show ∃ cv, bindL kindOf (ps.zip cs) _ x = some cv ∧ _
    cases q : x == p with
    | true =>
      rw [q] at e
      have hx := eq_of_beq q
      subst hx
      cases e
      refine ⟨c, ?_, r⟩
      rw [bindL_out (List.nodup_cons.mp nd).1, if_pos hk, if_pos rfl]
    | false =>
      rw [q] at e
      exact bindL_in (List.nodup_cons.mp nd).2 rs e hk
theorem bindC_in : ∀ {ps : List Str} {cvs : List Value} {vs : List V} {mc : Str → Option Value} {x : Str} {v : V}, ps.Nodup → VRs h cvs vs → (ps.zip vs).lookup x = some v → kindOf x ≠ some .local →
    ∃ cv, bindC kindOf (ps.zip cvs) mc x = some cv ∧ VR h cv v
  | [], _, _, _, _, _, _, _, e, _ => by simp at e
  | p :: ps, _, _, _, _, _, _, .nil, e, _ => by simp at e
  | p :: ps, _, _, mc, x, v, nd, .cons (c := c) (cs := cs) r rs, e, hk => by
    rw [List.zip_cons_cons, List.lookup_cons] at e
    show ∃ cv, bindC kindOf (ps.zip cs) _ x = some cv ∧ _
    cases q : x == p with
    | true =>
      rw [q] at e
      have hx := eq_of_beq q
      subst hx
      cases e
      refine ⟨c, ?_, r⟩
      rw [bindC_out (List.nodup_cons.mp nd).1, if_neg hk, if_pos rfl]
    | false =>
      rw [q] at e
      exact bindC_in (List.nodup_cons.mp nd).2 rs e hk
end

theorem zip_map_fst {α β : Type} : ∀ (a : List α) (b : List β), ∀ x ∈ (a.zip b), x.1 ∈ a
  | [], _, _, h => by simp at h
  | a :: as, [], _, h => by simp at h
  | a :: as, b :: bs, x, h => by
    rcases List.mem_cons.mp h with rfl | h
    · exact .head _
    · exact .tail _ (zip_map_fst as bs x h)
theorem lookup_filter_some {α : Type} (p : Str × α → Bool) : ∀ {l : List (Str × α)} {x : Str} {v : α}, (l.map (·.1)).Nodup → (l.filter p).lookup x = some v → l.lookup x = some v ∧ p (x, v) = true := by
  intro l x v nd e
  have hm := mem_of_lookup e
  have := List.mem_filter.mp hm
  exact ⟨lookup_mem_nodup nd this.1, this.2⟩
theorem zip_nodup {α : Type} : ∀ {ps : List Str} {vs : List α}, ps.Nodup → ((ps.zip vs).map (·.1)).Nodup
  | [], _, _ => by simp
  | p :: ps, [], _ => by simp
  | p :: ps, v :: vs, nd => by
    simp only [List.zip_cons_cons, List.map_cons]
    refine List.nodup_cons.mpr ⟨fun hm => ?_, zip_nodup (List.nodup_cons.mp nd).2⟩
    obtain ⟨q, hq, e⟩ := List.mem_map.mp hm
    exact (List.nodup_cons.mp nd).1 (e ▸ zip_map_fst _ _ q hq)

section
variable {prog : Program} {w : World} {Bs : Heap} {k : Nat} {env : Env} {m : Env'} {σ : St} {g : Heap}

theorem RH.more (cs : List (Str × Addr)) (a : Str → Option V) : ∀ {h : Heap} {σ : St}, RH prog w g σ h → (cs.Pairwise fun x y => x.2 ≠ y.2) → (∀ nc ∈ cs, cStatics < nc.2 ∧ g.get? nc.2 = none ∧ (∀ p ∈ σ, p.1 ≠ nc.2) ∧ ∃ cv, h.IsCell nc.2 cv ∧ OVR h cv (a nc.1)) →
    RH prog w g (cs.map (fun nc => (nc.2, O.cell (a nc.1))) ++ σ) h := by
  intro h σ R pw hc
  refine ⟨R.keep, ?_, fun p hp => ?_, R.st, fun p hp => ?_⟩
  · rw [List.map_append, List.map_map]
    refine List.nodup_append.mpr ⟨?_, R.nd, fun x hx y hy e => ?_⟩
    · exact (List.pairwise_map.mpr pw)
    · obtain ⟨nc, hn, rfl⟩ := List.mem_map.mp hx
      obtain ⟨p, hp, rfl⟩ := List.mem_map.mp hy
      exact (hc nc hn).2.2.1 p hp e.symm
  · rcases List.mem_append.mp hp with hp | hp
    · obtain ⟨nc, hn, rfl⟩ := List.mem_map.mp hp
      obtain ⟨_, h1, _, cv, ⟨o, ho, hd⟩, r⟩ := hc nc hn
      exact ⟨h1, o, ho, cv, hd, r⟩
    · exact R.own p hp
  · rcases List.mem_append.mp hp with hp | hp
    · obtain ⟨nc, hn, rfl⟩ := List.mem_map.mp hp
      exact (hc nc hn).1
    · exact R.low p hp

def flV : Flow → Value
  | .ret v => v
  | _ => .none
theorem evf_enterX {fd : FuncData} {fo : Obj} {f : Addr} {body : List Stmt} {ps : List Str} {vs : List V} {A : Around} {g : Heap} {s : Shared} {Qc Ec : Value → Shared → Prop} {cvs : List Value}
    (hf : Bs.get? f = some fo) (hd : fo.data = .func fd) (hlim : Bs.NoLimit) (hcd : Bs.CodeRec fd.code fd.qualname) (hbody : fd.body = .stmts body)
    (hbind : ∀ cvs : List Value, cvs.length = ps.length → bindArgs fd ⟨cvs, []⟩ = pure (ps.zip cvs)) (hlen : vs.length = ps.length)
    (hA : AOk (k + 1) A) (hB : ∀ b o, Bs.get? b = some o → g.get? b = some o) (R : RH prog w g σ s.heap) (rs : VRs s.heap cvs vs)
    (h : ∀ h₁ tk₁, (∀ b o, s.heap.get? b = some o → h₁.get? b = some o) → Rel prog w g s.heap.objs.size (locs fd ps vs) (cellsσ fd s.heap.objs.size ps vs ++ σ) h₁ → g.get? s.heap.objs.size = none → AOk k (A.deeper (callEnvC fd s.heap.objs.size f)) →
      wpAny (model prog w) (A.deeper (callEnvC fd s.heap.objs.size f)) (execs body (callEnvC fd s.heap.objs.size f)) (fun fl s' => Qc (flV fl) s') (fun e s' => wpAny (model prog w) (A.deeper (callEnvC fd s.heap.objs.size f)) (leaving (callEnvC fd s.heap.objs.size f) e) (fun _ s'' => Ec e s'') (fun e' s'' => Ec e' s'') s') { s with heap := h₁, toks := tk₁ })
    (hclo : fd.closure = []) (hnp : ps.Nodup)
    (hkind : ∀ x ∈ ps, fd.scope.names.lookup x = some .local ∨ (fd.scope.names.lookup x = some .cell ∧ ∀ n, ((cellsFrom n fd.scope.names []).lookup x).isSome = true)) (hnn : (fd.scope.names.map (·.1)).Nodup)
    (hco : fd.scope.isCoroutine = false) (hgen : fd.scope.isGenerator = false) (hk : fd.scope.kind = .function) : wpAny (model prog w) A (call (.ref f) cvs) Qc Ec s := by
  have kp : ∀ b o, Bs.get? b = some o → s.heap.get? b = some o := fun b o e => R.keep b o (hB b o e)
  have hcl : cvs.length = ps.length := rs.length.trans hlen
  obtain ⟨ci, co, cvv, ct, hci⟩ := hcd
  refine wpAny_call (codeAny_call_cells hA.room (kp _ _ hf) hd (hlim.keeps kp) ⟨ci, co, cvv, ct, hci.1, kp _ _ hci.2.1, hci.2.2⟩ hbody (hbind cvs hcl) hclo
    (fun x hx => (hkind x.1 (zip_map_fst _ _ x hx)).imp id fun q => ⟨q.1, q.2 _⟩) (fun s₁ X => ?_) hco hgen hk)
  obtain ⟨h₁, tk₁, rfl, hk₁⟩ := X.done
  have hgL : g.get? s.heap.objs.size = none := by
    cases q : g.get? s.heap.objs.size with
    | none => rfl
    | some o => exact absurd (Heap.lt_size (R.keep _ _ q)) (Nat.lt_irrefl _)
  have tk : TK s.heap h₁ := .of_keep hk₁
  have rs' := rs.mono tk
  have R₁ : RH prog w g σ h₁ := R.ext hk₁
  have sz : ∀ p ∈ σ, p.1 < s.heap.objs.size := fun p hp => let ⟨_, o, ho, _⟩ := R.own p hp; Heap.lt_size ho
  have hkd : ∀ x, (callEnvC fd s.heap.objs.size f).kindOf x = fd.scope.names.lookup x := fun x => rfl
  have Rc : Rel prog w g s.heap.objs.size (locs fd ps vs) (cellsσ fd s.heap.objs.size ps vs ++ σ) h₁ := by
    refine ⟨RH.more _ (fun n => (ps.zip vs).lookup n) R₁ X.apart fun nc hn => ?_, ⟨_, X.toInCall.ns, fun x v e => ?_⟩, fun p hp => ?_⟩
    · have ab : s.heap.objs.size < nc.2 := X.above nc.1 nc.2 hn
      refine ⟨Nat.lt_trans R.big ab, ?_, fun p hp => ?_, ?_⟩
      · cases q : g.get? nc.2 with
        | none => rfl
        | some o => exact absurd (Nat.lt_trans ab (Heap.lt_size (R.keep _ _ q))) (Nat.lt_irrefl _)
      · exact Nat.ne_of_lt (Nat.lt_trans (sz p hp) ab)
      · have hl : (cellsFrom (s.heap.objs.size + 1) fd.scope.names []).lookup nc.1 = some nc.2 := lookup_mem_nodup (cellsFrom_nodup _ _ _ (by simpa using hnn)) hn
        refine ⟨_, X.cell nc.1 nc.2 hl, ?_⟩
        have hnl : (callEnvC fd s.heap.objs.size f).kindOf nc.1 ≠ some .local ∨ (ps.zip vs).lookup nc.1 = none := by
          by_cases hm : nc.1 ∈ ps
          · left
            rw [hkd]
            intro e
            rcases hkind _ hm with q | q
            · -- a name that is local is no cell
              have key : ∀ (names : List (Str × NameKind)) (n : Nat) (acc : List (Str × Addr)), (∀ y ∈ acc, fd.scope.names.lookup y.1 = some .cell) → (∀ y ∈ names, fd.scope.names.lookup y.1 = some y.2) → ∀ y ∈ cellsFrom n names acc, fd.scope.names.lookup y.1 = some .cell := by
                intro names
                induction names with
                | nil => intro n acc ha _ y hy; exact ha y hy
                | cons p r ih =>
                  intro n acc ha hb y hy
                  obtain ⟨pn, pk⟩ := p
                  unfold cellsFrom at hy
                  split at hy
                  · rename_i hpk
                    refine ih _ _ ?_ (fun y hy => hb y (.tail _ hy)) y hy
                    intro z hz
                    rcases List.mem_cons.mp hz with rfl | hz
                    · have := hb _ (.head _)
                      rw [this]; exact congrArg some (eq_of_beq hpk)
                    · exact ha z hz
                  · exact ih _ _ ha (fun y hy => hb y (.tail _ hy)) y hy
              have := key fd.scope.names (s.heap.objs.size + 1) [] (fun _ hy => nomatch hy) (fun y hy => lookup_mem_nodup hnn hy) nc hn
              rw [this] at e; cases e
            · rw [q.1] at e; cases e
          · right
            refine lookup_none_of_not_mem fun hq => ?_
            obtain ⟨z, hz, e⟩ := List.mem_map.mp hq
            exact hm (e ▸ zip_map_fst _ _ z hz)
        cases q : (ps.zip vs).lookup nc.1 with
        | none =>
          have hout : nc.1 ∉ ps := fun hm => by
            have : ∃ v, (ps.zip vs).lookup nc.1 = some v := by
              clear q hnl hn hl ab
              clear X rs' rs hcl hbind hkind hnp h
              induction ps generalizing vs with
              | nil => cases hm
              | cons p ps ih =>
                cases vs with
                | nil => simp at hlen
                | cons v vs =>
                  rw [List.zip_cons_cons, List.lookup_cons]
                  cases e : nc.1 == p with
                  | true => exact ⟨v, rfl⟩
                  | false =>
                    refine ih (by simpa using hlen) ?_
                    rcases List.mem_cons.mp hm with e' | hm
                    · rw [e'] at e; simp at e
                    · exact hm
            obtain ⟨v, hv⟩ := this
            rw [hv] at q; cases q
          rw [bindC_out hout]; exact .none
        | some v =>
          obtain ⟨cv, e, r⟩ := bindC_in (mc := fun _ => none) hnp rs' q (hnl.resolve_right (by rw [q]; simp))
          rw [e]; exact .some r
    · obtain ⟨h1, h2⟩ := lookup_filter_some _ (zip_nodup hnp) e
      exact bindL_in hnp rs' h1 (by rw [hkd]; exact eq_of_beq h2)
    · rcases List.mem_append.mp hp with hp | hp
      · obtain ⟨nc, hn, rfl⟩ := List.mem_map.mp hp
        have := X.above nc.1 nc.2 hn
        exact Nat.ne_of_gt this
      · exact Nat.ne_of_lt (sz p hp)
  refine wpAny_mono (h h₁ tk₁ hk₁ Rc hgL (hA.deeper _)) (fun fl s' hq => ?_) fun _ _ e => e
  cases fl with
  | ret v => exact hq
  | _ => exact hq
theorem evf_enter {fd : FuncData} {fo : Obj} {f : Addr} {body : List Stmt} {ps : List Str} {vs : List V} {A : Around} {g : Heap} {s : Shared} {Qc Ec : Value → Shared → Prop} {cvs : List Value}
    (hf : Bs.get? f = some fo) (hd : fo.data = .func fd) (hlim : Bs.NoLimit) (hcd : Bs.CodeRec fd.code fd.qualname) (hbody : fd.body = .stmts body)
    (hbind : ∀ cvs : List Value, cvs.length = ps.length → bindArgs fd ⟨cvs, []⟩ = pure (ps.zip cvs)) (hlen : vs.length = ps.length)
    (hA : AOk (k + 1) A) (hB : ∀ b o, Bs.get? b = some o → g.get? b = some o) (R : RH prog w g σ s.heap) (rs : VRs s.heap cvs vs)
    (h : ∀ h₁ tk₁ Ec', (∀ b o, s.heap.get? b = some o → h₁.get? b = some o) → Rel prog w g s.heap.objs.size (locs fd ps vs) (cellsσ fd s.heap.objs.size ps vs ++ σ) h₁ → g.get? s.heap.objs.size = none → AOk k (A.deeper (callEnvC fd s.heap.objs.size f)) →
      wpAny (model prog w) (A.deeper (callEnvC fd s.heap.objs.size f)) (execs body (callEnvC fd s.heap.objs.size f)) (fun fl s' => Qc (flV fl) s') Ec' { s with heap := h₁, toks := tk₁ })
    (hclo : fd.closure = []) (hnp : ps.Nodup)
    (hkind : ∀ x ∈ ps, fd.scope.names.lookup x = some .local ∨ (fd.scope.names.lookup x = some .cell ∧ ∀ n, ((cellsFrom n fd.scope.names []).lookup x).isSome = true)) (hnn : (fd.scope.names.map (·.1)).Nodup)
    (hco : fd.scope.isCoroutine = false) (hgen : fd.scope.isGenerator = false) (hk : fd.scope.kind = .function) : wpAny (model prog w) A (call (.ref f) cvs) Qc Ec s :=
  evf_enterX hf hd hlim hcd hbody hbind hlen hA hB R rs (fun h₁ tk₁ hk₁ Rc hgL hA' => h h₁ tk₁ _ hk₁ Rc hgL hA') hclo hnp hkind hnn hco hgen hk
theorem evf {fd : FuncData} {fo : Obj} {f : Addr} {body : List Stmt} {ps : List Str} {vs : List V} {Q : V → St → Prop}
    (hf : Bs.get? f = some fo) (hd : fo.data = .func fd) (hlim : Bs.NoLimit) (hcd : Bs.CodeRec fd.code fd.qualname) (hbody : fd.body = .stmts body)
    (hbind : ∀ cvs : List Value, cvs.length = ps.length → bindArgs fd ⟨cvs, []⟩ = pure (ps.zip cvs)) (hlen : vs.length = ps.length)
    (h : ∀ L, EvS prog w Bs k (callEnvC fd L f) body (locs fd ps vs) (cellsσ fd L ps vs ++ σ) fun fl _ σ' => ∃ σ'', SubP σ'' σ' ∧ Q (retOf fl) σ'')
    (hclo : fd.closure = [] := by rfl) (hnp : ps.Nodup := by decide)
    (hkind : ∀ x ∈ ps, fd.scope.names.lookup x = some .local ∨ (fd.scope.names.lookup x = some .cell ∧ ∀ n, ((cellsFrom n fd.scope.names []).lookup x).isSome = true) := by decide) (hnn : (fd.scope.names.map (·.1)).Nodup := by decide)
    (hco : fd.scope.isCoroutine = false := by rfl) (hgen : fd.scope.isGenerator = false := by rfl) (hk : fd.scope.kind = .function := by rfl) : EvF prog w Bs (k + 1) (.ref f) vs σ Q := by
  intro A g s Qc Ec cvs hA hB R rs hQ
  refine evf_enter hf hd hlim hcd hbody hbind hlen hA hB R rs (fun h₁ tk₁ Ec' hk₁ Rc hgL hA' => ?_) hclo hnp hkind hnn hco hgen hk
  refine h s.heap.objs.size _ g _ _ _ hA' hB hgL Rc fun c fl m' σ' h' tk' hh R' fr t => ?_
  obtain ⟨σ'', sub, hq⟩ := hh
  have t' : TK s.heap h' := (TK.of_keep hk₁).trans t
  have R'' : RH prog w g σ'' h' := R'.rh.subP sub
  cases fr with
  | next => exact hQ _ _ σ'' h' tk' hq R'' .none t'
  | brk => exact hQ _ _ σ'' h' tk' hq R'' .none t'
  | cont => exact hQ _ _ σ'' h' tk' hq R'' .none t'
  | ret r => exact hQ _ _ σ'' h' tk' hq R'' r t'
end
end Mine

set_option Elab.async false
set_option linter.unusedVariables false
namespace Mine
open PySem PyProof.Rows PySem.Calls

section
variable {prog : Program} {w : World} {Bs : Heap} {k : Nat} {env : Env} {m : Env'} {σ : St} {g h h' : Heap} {L a : Addr} {ob : O} {vs : List V} {kvs : List (Str × V)}

theorem RH.list_at (R : RH prog w g σ h) (hm : (a, ob) ∈ σ) (hl : ob.peel = .list vs) : ∃ cvs n, h.get? a = some (lstO cvs n) ∧ VRs h cvs vs := by
  obtain ⟨_, o, ho, r⟩ := R.own _ hm
  have r' := r.peel
  rw [hl] at r'
  obtain ⟨cvs, n, e, rs⟩ := r'
  exact ⟨cvs, n, by rw [ho, e], rs⟩
theorem list_tk {cvs : List Value} {n : Nat} (ho : h.get? a = some (lstO cvs n)) (hs : Heap.SameBut a h h') : TK h h' := fun b c k e => by
  refine (hs.2 b fun q => ?_).trans e
  rw [q, ho] at e
  have := congrArg Obj.cls (Option.some.inj e)
  exact absurd (Value.type.inj this) (by decide)
-- displays
theorem ev_tuple {es : List Expr} {kk : Nat} {pos : Pos} {Q : V → St → Prop} (h : EvA prog w Bs k env pos es m σ fun vs σ1 => vs.length ≤ sizeLine ∧ Q (.tup vs) σ1) : EvE prog w Bs k env (.Tuple es kk pos) m σ Q :=
  fun A g s Qc Ec hA hB R hQ => wpAny_Tuple (h A g s _ _ hA hB R fun cvs vs σ1 h1 tk ⟨hl, hq⟩ R1 rs t => ⟨by rw [rs.length]; exact hl,
    have kp := push_keep h1 (tupO cvs 0)
    hQ _ _ σ1 _ tk hq (R1.ext kp) (.tup (cvs := cvs) (n := 0) (Heap.get?_push_size _ rfl) (rs.mono (.of_keep kp))) (t.trans (.of_keep kp))⟩)
theorem ev_list {es : List Expr} {pos : Pos} {Q : V → St → Prop} (h : EvA prog w Bs k env pos es m σ fun vs σ1 => vs.length ≤ sizeLine ∧ ∀ a, Q (.ref a) ((a, .list vs) :: σ1)) : EvE prog w Bs k env (.List es pos) m σ Q :=
  fun A g s Qc Ec hA hB R hQ => wpAny_List (h A g s _ _ hA hB R fun cvs vs σ1 h1 tk ⟨hl, hq⟩ R1 rs t => ⟨by rw [rs.length]; exact hl,
    have kp := push_keep h1 (lstO cvs 0)
    hQ _ _ _ _ tk (hq _) (R1.new kp (Nat.le_refl _) (Heap.get?_push_size _ rfl) ⟨cvs, 0, rfl, rs.mono (.of_keep kp)⟩) (.ref _) (t.trans (.of_keep kp))⟩)
-- items
inductive Item (S : St) : V → V → V → Prop
  | list {a : Addr} {ob : O} {vs : List V} {j : Int} {v : V} (hm : (a, ob) ∈ S) (hl : ob.peel = .list vs) (h0 : 0 ≤ j) (h1 : j < 2 ^ 63) (hx : vs[j.toNat]? = some v) : Item S (.ref a) (.int j) v
  | tup {vs : List V} {j : Int} {v : V} (h0 : 0 ≤ j) (h1 : j < 2 ^ 63) (hx : vs[j.toNat]? = some v) : Item S (.tup vs) (.int j) v
theorem item_any {o i v : V} (hi : Item σ o i v) {A : Around} {s : Shared} {co ci : Value} {Qc Ec : Value → Shared → Prop} (R : RH prog w g σ s.heap) (ro : VR s.heap co o) (ri : VR s.heap ci i)
    {value slice : Expr} (hs : ∀ o i, subscripted slice false o i = operate [o, i] (getItem o i)) (hQ : ∀ cv tk, VR s.heap cv v → Qc cv { s with toks := tk }) :
    wpAny (model prog w) A (subscriptTail value slice co ci) Qc Ec s := by
  cases hi with
  | list hm hl h0 h1 hx =>
    cases ro; cases ri
    obtain ⟨cvs, n, ho, rs⟩ := R.list_at hm hl
    obtain ⟨cv, hc, r⟩ := rs.get hx
    have hil : s.heap.IsList _ cvs.toArray := ⟨_, ho, rfl, n, rfl⟩
    exact tail_any hil.typeIs slot_list_getitem.lookup (wpAny_getItem_list hil h0 h1 (by simpa using hc) (hQ cv s.toks r)) (hs _ _)
  | @tup _ j _ h0 h1 hx =>
    cases ro with
    | @tup a cvs n vs ho rs =>
        obtain ⟨t, rfl⟩ : ∃ t, ci = .int j t := by cases ri; exact ⟨_, rfl⟩
        obtain ⟨cv, hc, r⟩ := rs.get hx
        have hit : IsTup s.heap a cvs.toArray := ⟨_, ho, rfl, n, rfl⟩
        have hlt : j.toNat < cvs.length := (List.getElem?_eq_some_iff.mp hc).1
        refine tail_any hit.typeIs slot_tuple_getitem.lookup (getItem_tuple hit (j := j.toNat) (by omega) h1 ?_ (by simpa using hc) (hQ cv s.toks r)) (hs _ _)
        have e1 : (if j < 0 then j + (cvs.toArray.size : Int) else j) = j := if_neg (by omega)
        show (if (decide (0 ≤ (if j < 0 then j + (cvs.toArray.size : Int) else j)) && decide ((if j < 0 then j + (cvs.toArray.size : Int) else j) < (cvs.toArray.size : Int))) = true then some (if j < 0 then j + (cvs.toArray.size : Int) else j).toNat else none) = some j.toNat
        rw [e1, if_pos]
        rw [Bool.and_eq_true]
        exact ⟨decide_eq_true h0, decide_eq_true (by simp; omega)⟩
theorem ev_item {value slice : Expr} {pos : Pos} {Q : V → St → Prop} (h : EvE prog w Bs k env value m σ fun o σ1 => EvE prog w Bs k env slice m σ1 fun i σ2 => ∃ v, Item σ2 o i v ∧ Q v σ2)
    (hs : ∀ o i, subscripted slice false o i = operate [o, i] (getItem o i) := by intro _ _; rfl) : EvE prog w Bs k env (.Subscript value slice pos) m σ Q := fun A g s Qc Ec hA hB R hQ =>
  Subscript_ (Ev.two (Qc := fun c d s₂ => wpAny (model prog w) A (subscriptTail value slice c d) Qc Ec s₂) h (fun t r => r.mono t) hA hB R fun c d o i σ' h' tk ⟨v, hv, hq⟩ R' ro ri t =>
    item_any hv (s := { s with heap := h', toks := tk }) R'.rh ro ri hs fun cv tk' r => hQ cv v σ' h' tk' hq R' r t)

-- built-in functions over lists
theorem bf_len_list {Q : V → St → Prop} (hm : (a, ob) ∈ σ) (hl : ob.peel = .list vs) (hz : vs.length ≤ sizeLine) (hq : Q (.int vs.length) σ) : EvF prog w Bs k (.builtin "len") [.ref a] σ Q := by
  intro A g s Qc Ec cvs hA hB R rs hQ
  cases rs with
  | cons r rs =>
    cases r; cases rs
    obtain ⟨cl, n, ho, rl⟩ := R.list_at hm hl
    have hil : s.heap.IsList a cl.toArray := ⟨_, ho, rfl, n, rfl⟩
    have e : cl.toArray.size = vs.length := by simp [rl.length]
    rw [sizeLine_eq] at hz
    refine len_list hil (by rw [e]; omega) ?_
    rw [e]
    exact hQ _ _ σ s.heap _ hq R (.int ..) (.refl _)
theorem bf_append {v : V} {σ' : St} {Q : V → St → Prop} (u : Up a (.list vs) (.list (vs ++ [v])) σ σ') (hz : vs.length ≤ sizeLine) (hq : Q .none σ') : EvF prog w Bs k (.builtin "list.append") [.ref a, v] σ Q := by
  intro A g s Qc Ec cvs hA hB R rs hQ
  cases rs with
  | cons r rs =>
    cases r
    cases rs with
    | cons rv rs =>
      cases rs
      rename_i cv
      obtain ⟨cl, n, ho, rl⟩ := R.list_at u.mem rfl
      refine wpAny_list_append_plain (l := a) (items := cl.toArray) ⟨n, ho⟩ (fun h' hp hs => ?_) (by simp [rl.length]; exact hz)
      obtain ⟨n', ho'⟩ := hp
      have tk := list_tk ho hs
      refine hQ _ _ σ' h' s.toks hq (R.upd u hs tk (c := lstO (cl ++ [cv]) n') (by rw [ho']; simp) ⟨_, n', rfl, (rl.append (.cons rv .nil)).mono tk⟩) .none tk
-- slices of lists
abbrev EvP (prog : Program) (w : World) (Bs : Heap) (k : Nat) (env : Env) (e : Option Expr) (m : Env') (σ : St) (Q : V → St → Prop) : Prop := Ev prog w Bs VR k env.locals (evalPart e env) m σ Q
theorem evp_none {Q : V → St → Prop} (h : Q .none σ) : EvP prog w Bs k env none m σ Q := fun A g s Qc Ec hA hB R hQ => by
  rw [evalPart_none]; exact wpAny_pure (hQ _ _ σ s.heap s.toks h R .none (.refl _))
theorem evp_some {e : Expr} {Q : V → St → Prop} (h : EvE prog w Bs k env e m σ Q) : EvP prog w Bs k env (some e) m σ Q := fun A g s Qc Ec hA hB R hQ => by
  rw [evalPart_some]; exact h A g s Qc Ec hA hB R hQ
end
end Mine

set_option Elab.async false
set_option linter.unusedVariables false
namespace Mine
open PySem PyProof.Rows PySem.Calls

section
variable (prog : Program) (w : World)
/-- something is walked: its iterator I, the places it leans on (fp), those it writes (wr), the values -/
structure Iter (I : Addr) (fp wr : List Addr) (vs : List V) (need : St → Prop) (S : Nat → Heap → Prop) : Prop where
  sub : ∀ b ∈ wr, b ∈ fp
  there : ∀ i h, S i h → ∀ b ∈ fp, ∃ o, h.get? b = some o
  frame : ∀ i h h', S i h → (∀ b ∈ fp, ∀ o, h.get? b = some o → h'.get? b = some o) → TK h h' → S i h'
  item : ∀ (A : Around) (k : Nat) (g : Heap) (σ : St) (s : Shared) (Qc : Option Value → Shared → Prop) (Ec : Value → Shared → Prop) (i : Nat) (v : V), AOk k A → RH prog w g σ s.heap → need σ → S i s.heap → vs[i]? = some v →
    (∀ cv h' tk, VR h' cv v → S (i + 1) h' → (∀ b o, b ∉ wr → s.heap.get? b = some o → h'.get? b = some o) → TK s.heap h' → Qc (some cv) { s with heap := h', toks := tk }) → wpAny (model prog w) A (pyNext (.ref I)) Qc Ec s
  done : ∀ (A : Around) (k : Nat) (g : Heap) (σ : St) (s : Shared) (Qc : Option Value → Shared → Prop) (Ec : Value → Shared → Prop), AOk k A → RH prog w g σ s.heap → need σ → S vs.length s.heap →
    (∀ h' tk, (∀ b o, b ∉ wr → s.heap.get? b = some o → h'.get? b = some o) → TK s.heap h' → Qc none { s with heap := h', toks := tk }) → wpAny (model prog w) A (pyNext (.ref I)) Qc Ec s
  self : ∀ (A : Around) (i : Nat) (s : Shared) (Qc : Value → Shared → Prop) (Ec : Value → Shared → Prop), S i s.heap → Qc (.ref I) s → wpAny (model prog w) A (pyIter (.ref I)) Qc Ec s
end

section
variable {prog : Program} {w : World} {Bs : Heap} {k : Nat} {env : Env} {m : Env'} {σ : St} {g h h' : Heap} {L a : Addr} {ob : O} {vs : List V}

theorem RH.but {wr : List Addr} (R : RH prog w g σ h) (kp : ∀ b o, b ∉ wr → h.get? b = some o → h'.get? b = some o) (hw : ∀ b ∈ wr, g.get? b = none ∧ ∀ p ∈ σ, p.1 ≠ b) (tk : TK h h') : RH prog w g σ h' := by
  refine ⟨fun b o e => kp b o (fun hm => ?_) (R.keep b o e), R.nd, fun p hp => ?_, R.st, R.low⟩
  · rw [(hw b hm).1] at e; cases e
  · obtain ⟨h1, o, h2, h3⟩ := R.own p hp
    exact ⟨h1, o, kp _ _ (fun hm => (hw _ hm).2 p hp rfl) h2, h3.mono _ _ tk⟩
theorem Rel.but {wr : List Addr} (R : Rel prog w g L m σ h) (kp : ∀ b o, b ∉ wr → h.get? b = some o → h'.get? b = some o) (hw : ∀ b ∈ wr, g.get? b = none ∧ b ≠ L ∧ ∀ p ∈ σ, p.1 ≠ b) (tk : TK h h') : Rel prog w g L m σ h' := by
  refine ⟨R.rh.but kp (fun b hb => ⟨(hw b hb).1, (hw b hb).2.2⟩) tk, ?_, R.offS⟩
  obtain ⟨mc, hn, hv⟩ := R.ns
  exact ⟨mc, hn.at' fun o e => kp _ _ (fun hm => (hw _ hm).2.1 rfl) e, fun x v e => let ⟨cv, a, b⟩ := hv x v e; ⟨cv, a, b.mono tk⟩⟩

variable (prog w Bs) in
/-- what an iterable yields when a loop begins -/
def Its (k : Nat) (L : Addr) (v : V) (m : Env') (σ : St) (K : ∀ (vs : List V) (need : St → Prop), St → Prop) : Prop :=
  ∀ (A : Around) (g : Heap) (s : Shared) (cv : Value) (Qc : Value → Shared → Prop) (Ec : Value → Shared → Prop), AOk k A → (∀ b o, Bs.get? b = some o → g.get? b = some o) → Rel prog w g L m σ s.heap → VR s.heap cv v →
    (∀ I fp wr vs need S σ' h' tk, K vs need σ' → Iter prog w I fp wr vs need S → S 0 h' → Rel prog w g L m σ' h' → TK s.heap h' → (∀ b ∈ fp, b ≠ L ∧ ∀ p ∈ σ', p.1 ≠ b) → (∀ b ∈ wr, g.get? b = none) → need σ' →
      (∀ i v, vs[i]? = some v → ∀ elts x1 pos cv (s : Shared) (Qc : Unit → Shared → Prop) (Ec : Value → Shared → Prop), VR s.heap cv v → S (i + 1) s.heap → Qc () s → wpAny (model prog w) A (letOwnedTupleGo (.Tuple elts x1 pos) (.ref I) cv) Qc Ec s) →
      Qc (.ref I) { s with heap := h', toks := tk }) →
    wpAny (model prog w) A (pyIter cv) Qc Ec s
end
end Mine

set_option Elab.async false
set_option linter.unusedVariables false
namespace Mine
open PySem PyProof.Rows PySem.Calls

section
variable {prog : Program} {w : World} {Bs : Heap} {k : Nat} {env : Env} {m : Env'} {σ : St} {g h h' : Heap} {L a : Addr} {ob : O} {vs : List V}

theorem tk_but {wr : List Addr} (kp : ∀ b o, b ∉ wr → h.get? b = some o → h'.get? b = some o) (nt : ∀ b ∈ wr, ∀ cvs n, h.get? b ≠ some (tupO cvs n)) : TK h h' := fun b cvs n e => by
  refine kp b _ (fun hm => ?_) e
  exact nt b hm cvs n e
theorem not_tup {o : Obj} {T : String} (ho : h.get? a = some o) (hc : o.cls = .type T) (hT : T ≠ "tuple") : ∀ cvs n, h.get? a ≠ some (tupO cvs n) := fun cvs n e => by
  rw [ho] at e
  have := congrArg Obj.cls (Option.some.inj e)
  rw [hc] at this
  exact hT (Value.type.inj this)

/-- a list of the ledger is walked -/
theorem iter_list {I : Addr} (hI : a ≠ I) (hl : ob.peel = .list vs) : Iter prog w I [I] [I] vs (fun σ => (a, ob) ∈ σ) (fun i h => h.IsListIter I a i) where
  sub := fun _ hb => hb
  there := fun i h st b hb => by
    obtain ⟨o, ho, _⟩ := st
    rw [List.mem_singleton.mp hb]; exact ⟨o, ho⟩
  frame := fun i h h' st kp _ => st.at fun o e => kp I (.head _) o e
  item := fun A k g σ s Qc Ec i v hA R hn st hv hQ => by
    obtain ⟨cvs, n, ho, rs⟩ := R.list_at hn hl
    obtain ⟨cv, hc, r⟩ := rs.get hv
    refine wpAny_pyNext_list_item st ⟨_, ho, rfl, n, rfl⟩ (by simpa using hc) fun h' st' hs => ?_
    have tk : TK s.heap h' := by
      obtain ⟨o, hoI, hcI, _⟩ := st
      exact tk_but (wr := [I]) (fun b o hb e => (hs.2 b fun q => hb (by rw [q]; exact .head _)).trans e) fun b hb => by
        rw [List.mem_singleton.mp hb]; exact not_tup hoI hcI (by decide)
    exact hQ cv h' s.toks (r.mono tk) st' (fun b o hb e => (hs.2 b fun q => hb (by rw [q]; exact .head _)).trans e) tk
  done := fun A k g σ s Qc Ec hA R hn st hQ => by
    obtain ⟨cvs, n, ho, rs⟩ := R.list_at hn hl
    refine wpAny_pyNext_list_end hA.1 st ⟨_, ho, rfl, n, rfl⟩ (by simp [rs.length]) fun h' hs => ?_
    have kp : ∀ b o, b ∉ [I] → s.heap.get? b = some o → h'.get? b = some o := fun b o hb e => hs b o (fun q => hb (by rw [q]; exact .head _)) e
    have tk : TK s.heap h' := by
      obtain ⟨o, hoI, hcI, _⟩ := st
      exact tk_but kp fun b hb => by
        rw [List.mem_singleton.mp hb]; exact not_tup hoI hcI (by decide)
    exact hQ h' s.toks kp tk
  self := fun A i s Qc Ec st hQ => wpAny_pyIter_listiter st hQ
theorem push_off (R : Rel prog w g L m σ h) : (∀ b ∈ [h.objs.size], b ≠ L ∧ ∀ p ∈ σ, p.1 ≠ b) ∧ ∀ b ∈ [h.objs.size], g.get? b = none := by
  constructor
  · intro b hb
    rw [List.mem_singleton.mp hb]
    refine ⟨fun e => ?_, fun p hp e => ?_⟩
    · obtain ⟨o, ho⟩ := R.lt
      rw [← e] at ho
      exact absurd (Heap.lt_size ho) (Nat.lt_irrefl _)
    · obtain ⟨_, o, ho, _⟩ := R.rh.own p hp
      rw [e] at ho
      exact absurd (Heap.lt_size ho) (Nat.lt_irrefl _)
  · intro b hb
    rw [List.mem_singleton.mp hb]
    cases q : g.get? h.objs.size with
    | none => rfl
    | some o => exact absurd (Heap.lt_size (R.rh.keep _ _ q)) (Nat.lt_irrefl _)
theorem its_list {K : ∀ (vs : List V) (need : St → Prop), St → Prop} (hm : (a, ob) ∈ σ) (hl : ob.peel = .list vs) (h : K vs (fun σ => (a, ob) ∈ σ) σ) : Its prog w Bs k L (.ref a) m σ K := by
  intro A g s cv Qc Ec hA hB R r hQ
  cases r
  obtain ⟨cvs, n, ho, rs⟩ := R.rh.list_at hm hl
  refine wpAny_pyIter_list ⟨_, ho, rfl, n, rfl⟩ ?_
  have kp := push_keep s.heap { cls := .type "list_iterator", data := .fields #[.ref a, .int 0 0] }
  have hne : a ≠ s.heap.objs.size := Nat.ne_of_lt (Heap.lt_size ho)
  obtain ⟨o1, o2⟩ := push_off R
  refine hQ _ _ _ vs _ _ σ _ s.toks h (iter_list (I := s.heap.objs.size) hne hl) ⟨_, Heap.get?_push_size _ rfl, rfl, rfl⟩ (R.ext kp) (.of_keep kp) o1 o2 hm ?_
  intro i v hv elts x1 pos cv s' Qc' Ec' rv st hq
  cases rv with
  | tup e _ => exact wpAny_letOwnedTupleGo_listiter st hq
  | ref b => exact wpAny_letOwnedTupleGo_listiter st hq
  | raw c =>
    cases cv <;> first | exact wpAny_letOwnedTupleGo_listiter st hq | exact wpAny_pure hq
  | _ => exact wpAny_pure hq

/-- a range -/
abbrev rngO (a b : Int) (t u v : Tok) : Obj := { cls := .type "range", data := .fields #[.int a t, .int b u, .int 1 v] }
theorem bf_range1 {n : Int} {Q : V → St → Prop} (h : ∀ r t u v, Q (.ref r) ((r, .obj (rngO 0 n t u v)) :: σ)) : EvF prog w Bs k (.type "range") [.int n] σ Q := by
  intro A g s Qc Ec cvs hA hB R rs hQ
  cases rs with
  | cons r rs =>
    cases r; cases rs
    rename_i t
    refine call_range_1 ?_
    have kp := push_keep s.heap (rngO 0 n s.toks t (s.toks + 1))
    exact hQ _ _ _ _ _ (h _ _ _ _) (R.new (o := rngO 0 n s.toks t (s.toks + 1)) kp (Nat.le_refl _) (Heap.get?_push_size _ rfl) rfl) (.ref _) (.of_keep kp)
def rngV (a : Int) (n : Nat) : List V := (List.range n).map fun i => .int (a + (i : Nat))
theorem rngV_get {a : Int} {n i : Nat} {v : V} (h : (rngV a n)[i]? = some v) : i < n ∧ v = .int (a + (i : Nat)) := by
  unfold rngV at h
  rw [List.getElem?_map] at h
  cases q : (List.range n)[i]? with
  | none => rw [q] at h; cases h
  | some j =>
    rw [q] at h
    have hj := List.getElem?_eq_some_iff.mp q
    obtain ⟨hl, e⟩ := hj
    simp at hl e
    subst e
    exact ⟨hl, (Option.some.inj h).symm⟩
theorem rngV_length (a : Int) (n : Nat) : (rngV a n).length = n := by simp [rngV]
theorem iter_range {I : Addr} {a : Int} {n : Nat} : Iter prog w I [I] [I] (rngV a n) (fun _ => True) (fun i h => IsRangeIter h I (a + (i : Nat) * 1) ((n : Int) - (i : Nat)) 1) where
  sub := fun _ hb => hb
  there := fun i h st b hb => by rw [List.mem_singleton.mp hb]; exact ⟨_, st⟩
  frame := fun i h h' st kp _ => kp I (.head _) _ st
  item := fun A k g σ s Qc Ec i v hA R _ st hv hQ => by
    obtain ⟨hi, rfl⟩ := rngV_get hv
    refine (Walks.range (prog := prog) (w := w) hA.1 I a 1 n).item i s Qc Ec hi st fun cv h' tk hP st' kp => ?_
    obtain ⟨t, rfl⟩ := hP
    have tk' : TK s.heap h' := tk_but kp fun b hb => by rw [List.mem_singleton.mp hb]; exact not_tup st rfl (by decide)
    refine hQ _ h' tk ?_ st' kp tk'
    rw [show a + (i : Int) * 1 = a + (i : Int) by omega]
    exact .int ..
  done := fun A k g σ s Qc Ec hA R _ st hQ => by
    rw [rngV_length] at st
    refine (Walks.range (prog := prog) (w := w) hA.1 I a 1 n).done s Qc Ec st fun h' tk kp => ?_
    have tk' : TK s.heap h' := tk_but kp fun b hb => by rw [List.mem_singleton.mp hb]; exact not_tup st rfl (by decide)
    exact hQ h' tk kp tk'
  self := fun A i s Qc Ec st hQ => wpAny_pyIter_rangeiter st hQ
theorem its_range {K : ∀ (vs : List V) (need : St → Prop), St → Prop} {r : Addr} {b : Int} {t u v : Tok} {σ' : St} (n : Nat) (hn : b = (n : Int)) (hb : b < 2 ^ 62) (hs : σ = (r, .obj (rngO 0 b t u v)) :: σ') (h : K (rngV 0 n) (fun _ => True) σ') :
    Its prog w Bs k L (.ref r) m σ K := by
  intro A g s cv Qc Ec hA hB R rr hQ
  cases rr
  subst hs
  obtain ⟨_, o, ho, e⟩ := R.rh.own _ (.head _)
  have e' : o = rngO 0 b t u v := e
  subst e'
  have hsz : Builtin.Range.rangeSize 0 b 1 = (n : Int) := by rw [rangeSize_one]; split <;> omega
  refine wpAny_pyIter_range (a := 0) (b := b) (c := 1) (t := t) (u := u) (v := v) ho (small_one (by omega) (by omega) (by omega) (by omega)) ?_
  rw [hsz]
  have R0 : Rel prog w g L m σ' s.heap := R.sub (List.sublist_cons_self _ _)
  have kp := push_keep s.heap { cls := .type "range_iterator", data := .fields #[rawInt 0, rawInt (n : Int), rawInt 1] }
  obtain ⟨o1, o2⟩ := push_off R0
  refine hQ _ _ _ (rngV 0 n) _ _ σ' _ s.toks h (iter_range (I := s.heap.objs.size) (a := 0) (n := n)) ?_ (R0.ext kp) (.of_keep kp) o1 o2 trivial ?_
  · show (Heap.push _ _).get? _ = _
    rw [Heap.get?_push_size _ rfl]
    simp [rawInt]
  · intro i v hv elts x1 pos cv s' Qc' Ec' rv st hq
    obtain ⟨_, rfl⟩ := rngV_get hv
    cases rv
    exact wpAny_pure hq
end
end Mine

set_option Elab.async false
set_option linter.unusedVariables false
namespace Mine
open PySem PyProof.Rows PySem.Calls

abbrev KV := List (Str × V)
section
variable {prog : Program} {w : World} {Bs : Heap} {k : Nat} {env : Env} {m : Env'} {σ : St} {g h h' : Heap} {L a d : Addr} {ob : O} {vs : List V} {kvs : KV}

-- comparisons that look at the heap
-- d[x] = v, del d[x]
-- methods
inductive Kd (S : St) : V → String → Prop
  | list {a : Addr} {ob : O} {vs : List V} (hm : (a, ob) ∈ S) (hl : ob.peel = .list vs) : Kd S (.ref a) "list"
  | str (x : Str) : Kd S (.str x) "str"
theorem Kd.type {v : V} {T : String} (hk : Kd σ v T) {s : Shared} {cv : Value} (R : RH prog w g σ s.heap) (r : VR s.heap cv v) : s.TypeIs cv T ∧ ∀ a, cv = .ref a → ∃ o, s.heap.get? a = some o ∧ o.dict = none := by
  cases hk with
  | list hm hl =>
    cases r
    obtain ⟨cvs, n, ho, _⟩ := R.list_at hm hl
    exact ⟨⟨_, ho, rfl⟩, fun b e => by cases e; exact ⟨_, ho, rfl⟩⟩
  | str x => cases r; exact ⟨rfl, fun b e => by cases e⟩
theorem ev_meth {o : Expr} {name : Str} {apos pos : Pos} {e : Expr} {rest : List Expr} {pl : Sem Bool} {Q : V → St → Prop} {T id : String} (pa : PlainAttrs T) (slot : Slot T name id) (hty : typeOf (.builtin id) = pure (.type "method_descriptor"))
    (h : EvE prog w Bs k env o m σ fun ov σ1 => Kd σ1 ov T ∧ EvA prog w Bs k env pos (e :: rest) m σ1 fun vs σ2 => EvF prog w Bs k (.builtin id) (ov :: vs) σ2 Q)
    (he : eval (.Call (.Attribute o name apos) (e :: rest) [] pos) env = (do
      let ov ← eval o env
      standAt apos.atName
      let (f, first) ← holding [ov] (getMethod ov name pl)
      callWith pos f first (backTo pos (starEach (e :: rest) env)) []) := by rfl)
    (hst : starEach (e :: rest) env = (false, eval e env) :: starEach rest env := by rfl) (hp : (backTo pos (starEach rest env)).any (·.1) = false := by rfl) :
    EvE prog w Bs k env (.Call (.Attribute o name apos) (e :: rest) [] pos) m σ Q := fun A g s Qc Ec hA hB R hQ =>
  MethodCall_ (h A g s _ _ hA hB R fun co ov σ1 h1 tk1 ⟨hk, ha⟩ R1 ro t1 => by
    obtain ⟨hT, hd⟩ := hk.type (s := { s with heap := h1, toks := tk1 }) R1.rh ro
    refine getMethod_builtin hT pa slot hty hd ?_
    show wpAny _ _ (callWith pos (.builtin id) [co] _ []) _ _ _
    rw [hst]
    refine callWith_builtin (by show (false || (backTo pos (starEach rest env)).any (·.1)) = false; rw [hp]; rfl) (evalArgs_plain ?_)
    have := ha A g { s with heap := h1, toks := tk1 } (fun vs s₁ => wpAny (model prog w) A (call (.builtin id) ([co] ++ vs)) Qc Ec s₁) Ec hA hB R1 fun cvs vs σ2 h2 tk2 hq R2 rs t2 =>
      callf_any (s := { s with heap := h2, toks := tk2 }) hq hA hB R2 (.cons (ro.mono t2) rs) fun cv v σ' h' tk hq' R' rv t => hQ cv v σ' h' tk hq' R' rv (t1.trans (t2.trans t))
    rw [hst] at this
    exact this) he
theorem ev_meth0 {o : Expr} {name : Str} {apos pos : Pos} {pl : Sem Bool} {Q : V → St → Prop} {T id : String} (pa : PlainAttrs T) (slot : Slot T name id) (hty : typeOf (.builtin id) = pure (.type "method_descriptor"))
    (h : EvE prog w Bs k env o m σ fun ov σ1 => Kd σ1 ov T ∧ EvF prog w Bs k (.builtin id) [ov] σ1 Q)
    (he : eval (.Call (.Attribute o name apos) [] [] pos) env = (do
      let ov ← eval o env
      standAt apos.atName
      let (f, first) ← holding [ov] (getMethod ov name pl)
      callWith pos f first (backTo pos (starEach [] env)) []) := by rfl) :
    EvE prog w Bs k env (.Call (.Attribute o name apos) [] [] pos) m σ Q := fun A g s Qc Ec hA hB R hQ =>
  MethodCall_ (h A g s _ _ hA hB R fun co ov σ1 h1 tk1 ⟨hk, ha⟩ R1 ro t1 => by
    obtain ⟨hT, hd⟩ := hk.type (s := { s with heap := h1, toks := tk1 }) R1.rh ro
    refine getMethod_builtin hT pa slot hty hd ?_
    show wpAny _ _ (callWith pos (.builtin id) [co] [] []) _ _ _
    exact callWith_builtin rfl (evalArgs_nil3 (callf_any (s := { s with heap := h1, toks := tk1 }) ha hA hB R1 (.cons ro .nil) fun cv v σ' h' tk hq' R' rv t => hQ cv v σ' h' tk hq' R' rv (t1.trans t)))) he

-- views
end
end Mine

set_option Elab.async false
set_option linter.unusedVariables false
set_option maxRecDepth 100000
namespace Mine
open PySem PyProof.Rows PySem.Calls

section
variable {prog : Program} {w : World} {Bs : Heap} {k : Nat} {σ : St} {g h h' : Heap} {a d : Addr} {ob : O} {vs : List V} {kvs : KV}

end
end Mine

set_option Elab.async false
set_option linter.unusedVariables false
set_option maxRecDepth 100000
namespace Mine
open PySem PyProof.Rows PySem.Calls PySem.W PySem.Spec

mutual
inductive DV (S : St) : V → Dat → Prop
  | none : DV S .none .none
  | int (i : Int) : DV S (.int i) (.int i)
  | str (x : Str) : DV S (.str x) (.str x)
  | tup {vs : List V} {ds : List Dat} : DVs S vs ds → DV S (.tup vs) (.tuple ds)
  | list {a : Addr} {ob : O} {vs : List V} {ds : List Dat} : (a, ob) ∈ S → ob.peel = .list vs → DVs S vs ds → DV S (.ref a) (.list ds)
inductive DVs (S : St) : List V → List Dat → Prop
  | nil : DVs S [] []
  | cons {v : V} {d : Dat} {vs : List V} {ds : List Dat} : DV S v d → DVs S vs ds → DVs S (v :: vs) (d :: ds)
end
section
variable {prog : Program} {w : World} {Bs : Heap} {k : Nat} {env : Env} {m : Env'} {σ : St} {g h : Heap} {a d : Addr} {ob : O}
mutual
theorem DV.reads (R : RH prog w g σ h) : ∀ {v : V} {d : Dat} {c : Value}, DV σ v d → VR h c v → ∃ as, Reads h c (kqdP d) as
  | _, _, _, .none, .none => ⟨_, .none⟩
  | _, _, _, .int i, .int _ t => ⟨_, .int i t⟩
  | _, _, _, .str x, .str _ t => ⟨_, .str x t⟩
  | _, _, _, .tup ds, .tup ho rs => by
    obtain ⟨as, q⟩ := DVs.reads R ds rs
    rw [kqdP]
    exact ⟨as, reads_tuple_at ho rfl rfl (by simpa using q)⟩
  | _, _, _, .list hm hl ds, .ref _ => by
    obtain ⟨cvs, n, ho, rs⟩ := R.list_at hm hl
    obtain ⟨as, q⟩ := DVs.reads R ds rs
    rw [kqdP]
    exact ⟨_, reads_list_at ho rfl rfl (by simpa using q)⟩
theorem DVs.reads (R : RH prog w g σ h) : ∀ {v : List V} {d : List Dat} {c : List Value}, DVs σ v d → VRs h c v → ∃ as, ReadsAll h c (kqdPs d) as
  | _, _, _, .nil, .nil => ⟨_, .nil⟩
  | _, _, _, .cons d ds, .cons r rs => by
    obtain ⟨as, q⟩ := DV.reads R d r
    obtain ⟨bs, p⟩ := DVs.reads R ds rs
    rw [kqdPs]
    exact ⟨_, .cons q p⟩
end

variable (prog w) in
/-- a comparison, by what it does -/
def CmpG (S : St) (op : CmpOp) (a b : V) (c : Bool) : Prop :=
  ∀ (A : Around) (k : Nat) (g : Heap) (s : Shared) (ca cb : Value) (Qc Ec : Value → Shared → Prop), AOk k A → RH prog w g S s.heap → VR s.heap ca a → VR s.heap cb b → (∀ tk, Qc (.bool c) { s with toks := tk }) → wpAny (model prog w) A (compareOp op ca cb) Qc Ec s
theorem Cmp.gen {op : CmpOp} {a b : V} {c : Bool} (h : Cmp op a b c) : CmpG prog w σ op a b c := fun A k g s ca cb Qc Ec hA R ra rb hQ => cmp_any h ra rb (hQ _)
theorem shaped_of {d : Dat} (h : kqdOk 9 d = true) : SeqAt.shaped (kqdP d) = true := by
  have l := kqd_lay 9 d h
  unfold SeqAt.shaped; rw [l.1, Bool.true_and]; exact decide_eq_true (Nat.le_trans l.2 (by decide))
theorem cmp_neD {x y : V} {d e : Dat} {c : Bool} (dx : DV σ x d) (dy : DV σ y e) (hd : kqdOk 9 d = true) (he : kqdOk 9 e = true) (hc : c = true ↔ d = e) : CmpG prog w σ .NotEq x y (!c) := fun A k g s ca cb Qc Ec hA R ra rb hQ => by
  obtain ⟨as, r1⟩ := dx.reads R ra
  obtain ⟨bs, r2⟩ := dy.reads R rb
  refine ne_dataH r1 r2 (shaped_of hd) (shaped_of he) (by have := hA.2.2; omega) ?_
  have q := kqd_eqv 9 d e 9 hd he
  have : PyData.eqv (kqdP d) (kqdP e) = c := by
    cases c with
    | true => exact q.mpr (hc.mp rfl)
    | false => exact Bool.eq_false_iff.mpr fun x => absurd (hc.mpr (q.mp x)) (by simp)
  rw [this]; exact hQ _
theorem evb_cmpG {l r : Expr} {op : CmpOp} {pos : Pos} {Q : Bool → St → Prop}
    (h : EvE prog w Bs k env l m σ fun a σ1 => EvE prog w Bs k env r m σ1 fun b σ2 => ∃ c, CmpG prog w σ2 op a b c ∧ Q c σ2) (hm : behindInMarks op r = false := by with_unfolding_all rfl) :
    EvB prog w Bs k env (.Compare l [op] [r] pos) m σ Q := fun A g s Qc Ec hA hB R hQ =>
  wpAny_isTrue_Compare1 (Ev.two (Qc := fun c d s₂ => wpAny (model prog w) A (compareOp op c d) (fun c s₃ => wpAny (model prog w) A (truthy c) Qc Ec s₃) Ec s₂) h (fun t r => r.mono t) hA hB R fun c d a b σ' h' tk ⟨v, hv, hq⟩ R' ra rb t =>
    hv A k _ { s with heap := h', toks := tk } _ _ _ _ hA R'.rh ra rb fun tk' => wpAny_truthy_bool (hQ _ _ σ' h' tk' hq R' rfl t)) hm
theorem ev_cmpG {l r : Expr} {op : CmpOp} {pos : Pos} {Q : V → St → Prop}
    (h : EvE prog w Bs k env l m σ fun a σ1 => EvE prog w Bs k env r m σ1 fun b σ2 => ∃ c, CmpG prog w σ2 op a b c ∧ Q (.bool c) σ2) (hm : behindInMarks op r = false := by with_unfolding_all rfl) :
    EvE prog w Bs k env (.Compare l [op] [r] pos) m σ Q := fun A g s Qc Ec hA hB R hQ =>
  wpAny_Compare1 (Ev.two (Qc := fun c d s₂ => wpAny (model prog w) A (compareOp op c d) Qc Ec s₂) h (fun t r => r.mono t) hA hB R fun c d a b σ' h' tk ⟨v, hv, hq⟩ R' ra rb t =>
    hv A k _ { s with heap := h', toks := tk } _ _ _ _ hA R'.rh ra rb fun tk' => hQ _ _ σ' h' tk' hq R' (.bool _) t) hm

-- the pairs of a dict as data
-- type(x)
inductive Ty : V → String → Prop
  | int (i : Int) : Ty (.int i) "int"
theorem bf_type {v : V} {T : String} {Q : V → St → Prop} (ht : Ty v T) (hq : Q (.raw (.type T)) σ) : EvF prog w Bs k (.type "type") [v] σ Q := by
  intro A g s Qc Ec cvs hA hB R rs hQ
  cases rs with
  | cons r rs =>
    cases rs
    have fin := hQ (.type T) (.raw (.type T)) σ s.heap s.toks hq R (.raw _) (.refl _)
    cases ht <;> cases r <;> exact call_type_of rfl (by decide) fin
end
end Mine

set_option Elab.async false
set_option linter.unusedVariables false
set_option maxRecDepth 100000
namespace Mine
open PySem PyProof.Rows PySem.Calls PySem.W PySem.Spec

/-- the text's world -/
structure Ctx (Bs : Heap) (mg mb : Str → Option Value) : Prop where
  g : Bs.Ns mainGlobals mg
  b : Bs.Ns builtinsNs mb
  lim : Bs.NoLimit
def defAt (p : Program) (i : Nat) : DefRec := match p.main.body[i]? with
  | some (.FunctionDef name params body _ _ _ scope _ _ pos) => ⟨name, params, body, scope, pos⟩
  | _ => ⟨"", ⟨[], [], none, [], [], none, []⟩, [], { kind := .function, names := [], isGenerator := false, isCoroutine := false }, default⟩
/-- a def of the text, as it stands -/
structure FnAt (Bs : Heap) (mg : Str → Option Value) (fn : Str) (d : DefRec) (f : Addr) (pm code doc : Value) : Prop where
  nm : d.name = fn
  name : mg d.name = some (.ref f)
  obj : ∃ o, Bs.get? f = some o ∧ o.data = .func (docDef d.name d.params d.body d.scope pm code doc)
  code : Bs.CodeRec code d.name

theorem if_tt {c : Bool} {A B : Prop} (h : c = true) (a : A) : if c then A else B := by rw [h]; exact a
theorem if_ff {c : Bool} {A B : Prop} (h : c = false) (b : B) : if c then A else B := by rw [h]; exact b
def leE : Env' → Env' → Prop
  | [], _ => True
  | p :: r, m => m.lookup p.1 = some p.2 ∧ leE r m
theorem leE.get : ∀ {m1 m : Env'}, leE m1 m → ∀ x v, m1.lookup x = some v → m.lookup x = some v
  | [], _, _, x, v, e => by simp at e
  | (y, u) :: r, m, h, x, v, e => by
    rw [List.lookup_cons] at e
    cases q : x == y with
    | true => rw [q] at e; cases e; rw [eq_of_beq q]; exact h.1
    | false => rw [q] at e; exact leE.get h.2 x v e

section
variable {prog : Program} {w : World} {Bs : Heap} {k : Nat} {env : Env} {m : Env'} {σ : St} {g h : Heap} {a d : Addr} {ob : O} {mg mb : Str → Option Value} {vs : List V} {kvs : KV}

theorem evf_def {fn : Str} {D : DefRec} {f : Addr} {pm code doc : Value} {ps : List Str} {Q : V → St → Prop} (C : Ctx Bs mg mb) (F : FnAt Bs mg fn D f pm code doc)
    (hbind : ∀ cvs : List Value, cvs.length = ps.length → bindArgs (docDef D.name D.params D.body D.scope pm code doc) ⟨cvs, []⟩ = pure (ps.zip cvs)) (hlen : vs.length = ps.length)
    (h : ∀ L, EvS prog w Bs k (callEnvC (docDef D.name D.params D.body D.scope pm code doc) L f) D.body (locs (docDef D.name D.params D.body D.scope pm code doc) ps vs) (cellsσ (docDef D.name D.params D.body D.scope pm code doc) L ps vs ++ σ) fun fl _ σ' => ∃ σ'', SubP σ'' σ' ∧ Q (retOf fl) σ'')
    (hnp : ps.Nodup) (hkind : ∀ x ∈ ps, D.scope.names.lookup x = some .local ∨ (D.scope.names.lookup x = some .cell ∧ ∀ n, ((cellsFrom n D.scope.names []).lookup x).isSome = true)) (hnn : (D.scope.names.map (·.1)).Nodup)
    (hco : D.scope.isCoroutine = false) (hgen : D.scope.isGenerator = false) (hk : D.scope.kind = .function) : EvF prog w Bs (k + 1) (.ref f) vs σ Q := by
  obtain ⟨o, ho, hd⟩ := F.obj
  exact evf ho hd C.lim F.code rfl hbind hlen h rfl hnp hkind hnn hco hgen hk
theorem cellsFrom_some : ∀ (names : List (Str × NameKind)) (n : Nat) (acc : List (Str × Addr)) (x : Str), ((acc.lookup x).isSome = true ∨ names.lookup x = some .cell) → ((cellsFrom n names acc).lookup x).isSome = true
  | [], n, acc, x, h => by
    rcases h with h | h
    · simpa [cellsFrom] using h
    · simp at h
  | (y, kd) :: r, n, acc, x, h => by
    unfold cellsFrom
    split
    · refine cellsFrom_some r _ _ x ?_
      cases q : x == y with
      | true => left; rw [List.lookup_cons, q]; rfl
      | false =>
        rcases h with h | h
        · left; rw [List.lookup_cons, q]; exact h
        · right; rw [List.lookup_cons, q] at h; exact h
    · rename_i hc
      refine cellsFrom_some r _ _ x ?_
      rcases h with h | h
      · exact .inl h
      · rw [List.lookup_cons] at h
        cases q : x == y with
        | true =>
          rw [q] at h; cases h
          first | exact absurd rfl hc | (simp at hc)
        | false => rw [q] at h; exact .inr h
theorem cellsFrom_nil : ∀ (names : List (Str × NameKind)) (n : Nat), (names.all fun p => p.2 != .cell) = true → cellsFrom n names [] = []
  | [], n, _ => rfl
  | (y, kd) :: r, n, h => by
    simp only [List.all_cons, Bool.and_eq_true] at h
    unfold cellsFrom
    split
    · rename_i hc
      exfalso
      have h1 := h.1
      first | (rw [hc] at h1; exact absurd h1 (by decide)) | (simp at hc h1; exact h1 hc)
    · exact cellsFrom_nil r n h.2
/-- a def without cells -/
def noCells (sc : Scope) (ps : List Str) : Bool := (ps.all fun x => sc.names.lookup x == some .local) && (sc.names.all fun p => p.2 != .cell)
def lawful (sc : Scope) (ps : List Str) : Bool := decide ps.Nodup && decide (sc.names.map (·.1)).Nodup && (ps.all fun x => sc.names.lookup x == some .local || sc.names.lookup x == some .cell) && !sc.isCoroutine && !sc.isGenerator && decide (sc.kind = .function)
theorem evf_nc {fn : Str} {D : DefRec} {f : Addr} {pm code doc : Value} {ps : List Str} {Q : V → St → Prop} (C : Ctx Bs mg mb) (F : FnAt Bs mg fn D f pm code doc)
    (hbind : ∀ cvs : List Value, cvs.length = ps.length → bindArgs (docDef D.name D.params D.body D.scope pm code doc) ⟨cvs, []⟩ = pure (ps.zip cvs)) (hlen : vs.length = ps.length)
    (hs : lawful D.scope ps = true) (hc : noCells D.scope ps = true)
    (h : ∀ L, EvS prog w Bs k (callEnvC (docDef D.name D.params D.body D.scope pm code doc) L f) D.body (ps.zip vs) σ fun fl _ σ' => ∃ σ'', SubP σ'' σ' ∧ Q (retOf fl) σ'') : EvF prog w Bs (k + 1) (.ref f) vs σ Q := by
  simp only [lawful, Bool.and_eq_true, decide_eq_true_eq, Bool.not_eq_true', List.all_eq_true, Bool.or_eq_true, beq_iff_eq] at hs
  obtain ⟨⟨⟨⟨⟨h1, h2⟩, h3⟩, h4⟩, h5⟩, h6⟩ := hs
  simp only [noCells, Bool.and_eq_true, List.all_eq_true, beq_iff_eq] at hc
  refine evf_def C F hbind hlen (fun L => ?_) h1 (fun x hx => .inl (hc.1 x hx)) h2 h4 h5 h6
  have e1 : cellsσ (docDef D.name D.params D.body D.scope pm code doc) L ps vs = [] := by
    unfold cellsσ
    show List.map _ (cellsFrom (L + 1) D.scope.names []) = []
    rw [cellsFrom_nil _ _ (List.all_eq_true.mpr hc.2)]; rfl
  have e2 : locs (docDef D.name D.params D.body D.scope pm code doc) ps vs = ps.zip vs := by
    unfold locs
    refine List.filter_eq_self.mpr fun p hp => ?_
    have := hc.1 p.1 (zip_map_fst _ _ p hp)
    show (D.scope.names.lookup p.1 == some .local) = true
    rw [this]; rfl
  rw [e1, e2, List.nil_append]
  exact h L
theorem ev_fn {D : DefRec} {f : Addr} {pm code doc : Value} {fn : Str} {p pos : Pos} {e : Expr} {rest : List Expr} {Q : V → St → Prop} (C : Ctx Bs mg mb) (F : FnAt Bs mg fn D f pm code doc)
    (h : EvA prog w Bs k env pos (e :: rest) m σ fun vs σ1 => EvF prog w Bs k (.ref f) vs σ1 Q)
    (hg : env.globals = mainGlobals := by rfl) (hk : env.scope.kind = .function := by rfl) (hx : env.kindOf fn = some .globalImplicit := by rfl) (hd : (fn == ("__debug__" : Str)) = false := by decide)
    (he : starEach (e :: rest) env = (false, eval e env) :: starEach rest env := by rfl) : EvE prog w Bs k env (.Call (.Name fn p) (e :: rest) [] pos) m σ Q := by
  obtain ⟨o, ho, hdd⟩ := F.obj
  have hmg := F.name
  rw [F.nm] at hmg
  exact ev_call ho hdd (ev_global (hg ▸ C.g) hmg (.raw _) ⟨rfl, h⟩ hk hx hd) he
variable (Bs mg mb) in
/-- a built-in name, seen from the text -/
structure BIs (x : Str) (v : Value) : Prop where
  ctx : Ctx Bs mg mb
  off : mg x = none
  val : mb x = some v
theorem ev_bfn {id : String} {fn : Str} {p pos : Pos} {e : Expr} {rest : List Expr} {Q : V → St → Prop} (B : BIs Bs mg mb fn (.builtin id))
    (h : EvA prog w Bs k env pos (e :: rest) m σ fun vs σ1 => EvF prog w Bs k (.builtin id) vs σ1 Q)
    (hg : env.globals = mainGlobals := by rfl) (hb : env.builtins = builtinsNs := by rfl) (hk : env.scope.kind = .function := by rfl) (hx : env.kindOf fn = some .globalImplicit := by rfl) (hd : (fn == ("__debug__" : Str)) = false := by decide)
    (he : starEach (e :: rest) env = (false, eval e env) :: starEach rest env := by rfl) (hp : (backTo pos (starEach rest env)).any (·.1) = false := by rfl) : EvE prog w Bs k env (.Call (.Name fn p) (e :: rest) [] pos) m σ Q :=
  ev_callb (ev_builtin (hg ▸ B.ctx.g) B.off (hb ▸ B.ctx.b) B.val ⟨rfl, h⟩ hk hx hd) he hp
theorem ev_tfn {T : String} {fn : Str} {p pos : Pos} {e : Expr} {rest : List Expr} {Q : V → St → Prop} (B : BIs Bs mg mb fn (.type T))
    (h : EvA prog w Bs k env pos (e :: rest) m σ fun vs σ1 => EvF prog w Bs k (.type T) vs σ1 Q)
    (hg : env.globals = mainGlobals := by rfl) (hb : env.builtins = builtinsNs := by rfl) (hk : env.scope.kind = .function := by rfl) (hx : env.kindOf fn = some .globalImplicit := by rfl) (hd : (fn == ("__debug__" : Str)) = false := by decide)
    (he : starEach (e :: rest) env = (false, eval e env) :: starEach rest env := by rfl) (hp : (backTo pos (starEach rest env)).any (·.1) = false := by rfl) : EvE prog w Bs k env (.Call (.Name fn p) (e :: rest) [] pos) m σ Q :=
  ev_callt (ev_builtin (hg ▸ B.ctx.g) B.off (hb ▸ B.ctx.b) B.val ⟨rfl, h⟩ hk hx hd) he hp
theorem ev_tname {T : String} {x : Str} {p : Pos} {Q : V → St → Prop} (B : BIs Bs mg mb x (.type T)) (h : Q (.raw (.type T)) σ)
    (hg : env.globals = mainGlobals := by rfl) (hb : env.builtins = builtinsNs := by rfl) (hk : env.scope.kind = .function := by rfl) (hx : env.kindOf x = some .globalImplicit := by rfl) (hd : (x == ("__debug__" : Str)) = false := by decide) : EvE prog w Bs k env (.Name x p) m σ Q :=
  ev_builtin (hg ▸ B.ctx.g) B.off (hb ▸ B.ctx.b) B.val h hk hx hd

theorem len_ok {n : Nat} (h : n ≤ 10000) : n ≤ sizeLine := by rw [sizeLine_eq]; omega
variable (prog w) in
/-- a sum, by what it does -/
def AddG (S : St) (a b : V) (Q : V → St → Prop) : Prop :=
  ∀ (A : Around) (g : Heap) (L : Addr) (m : Env') (s : Shared) (ca cb : Value) (Qc Ec : Value → Shared → Prop), Rel prog w g L m S s.heap → VR s.heap ca a → VR s.heap cb b →
    (∀ cv v σ' h' tk, Q v σ' → Rel prog w g L m σ' h' → VR h' cv v → TK s.heap h' → Qc cv { s with heap := h', toks := tk }) → wpAny (model prog w) A (binaryOp .Add ca cb) Qc Ec s
theorem addG_int {i j : Int} {Q : V → St → Prop} (h : Q (.int (i + j)) σ) : AddG prog w σ (.int i) (.int j) Q := fun A g L m s ca cb Qc Ec R ra rb hQ => by
  exact bin_any (Bin.add i j) ra rb fun cv tk r => hQ cv _ σ s.heap tk h R r (.refl _)
theorem addG_str {x y : Str} {Q : V → St → Prop} (hz : x.length + y.length ≤ sizeLine) (h : Q (.str (x ++ y)) σ) : AddG prog w σ (.str x) (.str y) Q := fun A g L m s ca cb Qc Ec R ra rb hQ => by
  exact bin_any (Bin.cat x y hz) ra rb fun cv tk r => hQ cv _ σ s.heap tk h R r (.refl _)
theorem ev_addG {l r : Expr} {pos : Pos} {Q : V → St → Prop} (h : EvE prog w Bs k env l m σ fun x σ1 => EvE prog w Bs k env r m σ1 fun y σ2 => AddG prog w σ2 x y Q) :
    EvE prog w Bs k env (.BinOp l .Add r pos) m σ Q := fun A g s Qc Ec hA hB R hQ =>
  wpAny_BinOp (Ev.two (Qc := fun c d s₂ => wpAny (model prog w) A (binaryOp .Add c d) Qc Ec s₂) h (fun t r => r.mono t) hA hB R fun c d x y σ' h' tk hq R' rx ry t =>
    hq A g env.locals m { s with heap := h', toks := tk } c d Qc Ec R' rx ry fun cv v σ2 h2 tk2 q R2 r2 t2 => hQ cv v σ2 h2 tk2 q R2 r2 (t.trans t2))
variable (Bs mg mb) in
/-- a constant of the text -/
structure GIs (x : Str) (v : V) : Prop where
  ctx : Ctx Bs mg mb
  val : ∃ cv, mg x = some cv ∧ VR Bs cv v
theorem ev_gname {v : V} {x : Str} {p : Pos} {Q : V → St → Prop} (B : GIs Bs mg mb x v) (h : Q v σ)
    (hg : env.globals = mainGlobals := by rfl) (hk : env.scope.kind = .function := by rfl) (hx : env.kindOf x = some .globalImplicit := by rfl) (hd : (x == ("__debug__" : Str)) = false := by decide) : EvE prog w Bs k env (.Name x p) m σ Q := by
  obtain ⟨cv, h1, h2⟩ := B.val
  exact ev_global (hg ▸ B.ctx.g) h1 h2 h hk hx hd
end
end Mine

set_option Elab.async false
set_option linter.unusedVariables false
set_option maxRecDepth 100000
namespace Mine
open PySem PyProof.Rows PySem.Calls PySem.W PySem.Spec

abbrev PS := List (Str × Int)
theorem SubP.more : ∀ {l' l : St} (p : Addr × O), SubP l' l → SubP l' (p :: l)
  | _, _, _, .nil => .nil
  | _, _, p, .cons t s => .cons (.tail t) (s.more p)
/-- the script's cell, 0 beyond its end -/
def cz (ns : List Int) (i : Nat) : Int := ns.getD i 0
theorem cz_in {ns : List Int} {i : Nat} (h : i < ns.length) : (ns.map V.int)[i]? = some (.int (cz ns i)) := by simp [cz, h]
theorem cz_out {ns : List Int} {i : Nat} (h : ¬ i < ns.length) : cz ns i = 0 := by simp [cz, List.getD, List.getElem?_eq_none (by omega : ns.length ≤ i)]

section
variable {prog : Program} {w : World} {Bs : Heap} {k : Nat} {env : Env} {m : Env'} {σ : St} {g h : Heap} {a b d : Addr} {oa ob : O} {ps qs : PS}
end
end Mine

set_option Elab.async false
set_option linter.unusedVariables false
set_option maxRecDepth 100000
namespace Mine
open PySem PyProof.Rows PySem.Calls PySem.W PySem.Spec

section
variable {prog p : Program} {w : World} {h : Heap} {l : Addr} {cvs : List Value} {n : Nat} {mg mb : Str → Option Value} {loose : List Str} {mean : ExcName → Option Value}
theorem ints_vr : ∀ {vs : List Value} {ns : List Int}, IntsAre vs ns → VRs h vs (ns.map .int)
  | _, _, .nil => .nil
  | _, _, .cons _ _ r => .cons (.int ..) (ints_vr r)
theorem low_of (ho : h.get? l = some (lstO cvs n)) (T : Top p loose mean mg mb h) (hs : (l == sysModules) = false) : cStatics < l := by
  have off : ∀ {a : Addr} {m : Str → Option Value}, h.Ns a m → l ≠ a := fun {a m} x e => by
    obtain ⟨o, es, ep, h1, h2, _⟩ := x
    rw [← e, ho] at h1; cases h1; cases h2
  have h0 : l ≠ 0 := off T.b
  have h2 : l ≠ 2 := let ⟨mc, a, b⟩ := T.nolimit; off a
  have h1 : l ≠ 1 := fun e => by subst e; simp [sysModules] at hs
  show (2 : Nat) < l
  have h0' : (l : Nat) ≠ 0 := h0
  have h1' : (l : Nat) ≠ 1 := h1
  have h2' : (l : Nat) ≠ 2 := h2
  exact Nat.lt_of_le_of_ne (Nat.lt_of_le_of_ne (Nat.lt_of_le_of_ne (Nat.zero_le _) h0'.symm) h1'.symm) h2'.symm
theorem lst_of {P : Params} {xs : List PyData} (hL : h.IsList l cvs.toArray) (w1 : Well P h (.ref l) (ofPy (.list xs))) : h.get? l = some (lstO cvs 0) := by
  obtain ⟨o1, h1, h2, n, h3⟩ := hL
  rw [show ofPy (.list xs) = .list (ofPys xs) from by simp [ofPy]] at w1
  cases w1 with
  | list ho _ =>
    rw [ho] at h1
    cases h1
    have := (Data.seq.inj h3).1
    rw [ho, this]
theorem sys_of {xs : List PyData} {bs cs : List Addr} (r : Reads h (.ref l) (.list xs) bs) (hlo : ∀ a ∈ bs ++ cs, (a == sysModules) = false) : (l == sysModules) = false := by
  cases r
  exact hlo _ (List.mem_append_left _ (.head _))
end
end Mine

set_option Elab.async false
set_option linter.unusedVariables false
set_option maxRecDepth 100000
namespace Mine
open PySem PyProof.Rows PySem.Calls PySem.W PySem.Spec

section
variable {prog : Program} {w : World} {Bs : Heap} {k : Nat} {env : Env} {m : Env'} {σ : St} {g g' h h' : Heap} {L a : Addr} {ob : O} {vs : List V}

/-- back into a frame that was laid by -/
theorem Rel.back (R : Rel prog w g L m σ h) {σ' : St} (le : ∀ b o, g.get? b = some o → g'.get? b = some o) (hL : ∀ o, h.get? L = some o → g'.get? L = some o) (R' : RH prog w g' σ' h') (tk : TK h h') : Rel prog w g L m σ' h' := by
  obtain ⟨mc, hn, hv⟩ := R.ns
  refine ⟨R'.less R.rh.st le, ⟨mc, ?_, fun x v e => let ⟨cv, a, b⟩ := hv x v e; ⟨cv, a, b.mono tk⟩⟩, fun p hp e => ?_⟩
  · obtain ⟨o, es, ep, ho, r⟩ := hn
    exact ⟨o, es, ep, R'.keep _ _ (hL o ho), r⟩
  · obtain ⟨o, ho⟩ := R.lt
    have := (R'.own p hp).1
    rw [e, hL o ho] at this; cases this

abbrev testsOf (ifs : List Expr) (env : Env) : Sem Bool := forIn ifs true fun c r => if r = true then do let ok ← isTrue c env (eval c env); pure (ForInStep.yield ok) else pure (ForInStep.yield r)
variable (prog w Bs) in
abbrev EvT (k : Nat) (env : Env) (ifs : List Expr) (m : Env') (σ : St) (Q : Bool → St → Prop) : Prop := Ev prog w Bs EqR k env.locals (testsOf ifs env) m σ Q
theorem evt_nil {Q : Bool → St → Prop} (h : Q true σ) : EvT prog w Bs k env [] m σ Q := fun A g s Qc Ec hA hB R hQ => wpAny_pure (hQ _ _ σ s.heap s.toks h R rfl (.refl _))
variable (prog w Bs) in
/-- a comprehension's turns -/
def CompB (k : Nat) (env : Env) (x : Str) (ifs : List Expr) (elt : Expr) (need : St → Prop) (Q : List V → St → Prop) : List V → List V → St → Prop
  | [], acc, σ => Q acc σ
  | v :: r, acc, σ => EvT prog w Bs k env ifs [(x, v)] σ fun ok σ1 => if ok then EvE prog w Bs k env elt [(x, v)] σ1 fun u σ2 => ∃ σ3, SubP σ3 σ2 ∧ need σ3 ∧ CompB k env x ifs elt need Q r (acc ++ [u]) σ3
      else ∃ σ3, SubP σ3 σ1 ∧ need σ3 ∧ CompB k env x ifs elt need Q r acc σ3
/-- the frame of a comprehension -/
def compOk (scope : Scope) (x : Str) : Bool := decide (scope.kind = .function) && (scope.names.all fun y => decide (y.2 ≠ .cell)) && (scope.names.all fun y => decide (y.2 = .local → scope.names.lookup y.1 = some .local)) && decide (scope.names.lookup x = some .local)

theorem not_in {S : Nat → Heap → Prop} {I : Addr} {fp wr : List Addr} {need : St → Prop} (W : Iter prog w I fp wr vs need S) {i : Nat} (hst : S i h) (R : RH prog w g' σ h') (gf : ∀ b ∈ fp, ∀ o, h.get? b = some o → g'.get? b = some o) : ∀ b ∈ fp, ∀ p ∈ σ, p.1 ≠ b := fun b hb p hp e => by
  obtain ⟨o, ho⟩ := W.there _ _ hst b hb
  have := (R.own p hp).1
  rw [e, gf b hb o ho] at this; cases this
theorem comp_loop {scope : Scope} {cl : List (Str × Addr)} {x : Str} {px pos : Pos} {ifs : List Expr} {elt iter : Expr} {I C D : Addr} {fp wr : List Addr} {need : St → Prop} {S : Nat → Heap → Prop} {g0 : Heap} (W : Iter prog w I fp wr vs need S) (hsz : vs.length ≤ sizeLine)
    {A : Around} {s : Shared} {Q : List V → St → Prop} {RR : Result → Shared → Prop} (hA : AOk k A) (hB : ∀ b o, Bs.get? b = some o → g0.get? b = some o)
    (hkind : scope.kind = .function) (hx : scope.names.lookup x = some .local)
    (R : Rel prog w g0 C [] σ s.heap) (hC : g0.get? C = none) (hD : g0.get? D = none) (hDC : D ≠ C) (hDσ : ∀ p ∈ σ, p.1 ≠ D) (hDo : s.heap.get? D = some (lstO [] 0)) (hst : S 0 s.heap) (hfp : ∀ b ∈ fp, b ≠ C ∧ b ≠ D ∧ ∀ p ∈ σ, p.1 ≠ b) (hwr : ∀ b ∈ wr, g0.get? b = none) (hn : need σ)
    (h : CompB prog w Bs k (compEnvC scope cl C env) x ifs elt need Q vs [] σ)
    (hRR : ∀ acc σ' h' tk m', Q acc σ' → Rel prog w g0 C m' σ' h' → (∃ cacc n, h'.get? D = some (lstO cacc n) ∧ VRs h' cacc acc) → (∀ p ∈ σ', p.1 ≠ D) → TK s.heap h' → RR (.ok .next) { s with heap := h', toks := tk }) :
    codeAny (model prog w) A (.compLoop (.ListComp elt [⟨.Name x px, iter, ifs, 0⟩] scope pos) 0 (.ref I) (.ref D) (compEnvC scope cl C env)) RR s := by
  have hl : (compEnvC scope cl C env).kindOf x = some .local := lookup_relabel_local hx
  have hk : (compEnvC scope cl C env).scope.kind = .function := by simp [compEnvC, relabel, hkind]
  refine codeAny_compLoop_tests (fun n s' => ∃ i m σ h tk acc cacc cn, s' = { s with heap := h, toks := tk } ∧ i ≤ vs.length ∧ n = vs.length - i ∧ Rel prog w g0 C m σ h ∧ S i h ∧ (∀ b ∈ fp, b ≠ C ∧ b ≠ D ∧ ∀ p ∈ σ, p.1 ≠ b) ∧ need σ ∧
      CompB prog w Bs k (compEnvC scope cl C env) x ifs elt need Q (vs.drop i) acc σ ∧ h.get? D = some (lstO cacc cn) ∧ VRs h cacc acc ∧ acc.length ≤ i ∧ (∀ p ∈ σ, p.1 ≠ D) ∧ TK s.heap h) ?_ vs.length
      ⟨0, [], σ, s.heap, s.toks, [], [], 0, rfl, Nat.zero_le _, rfl, R, hst, hfp, hn, by simpa using h, hDo, .nil, Nat.le_refl _, hDσ, .refl _⟩
  rintro n s' ⟨i, m, σ, hh, tk, acc, cacc, cn, rfl, hi, rfl, R, hst, hfp, hn, hb, hDo, hacc, hal, hDσ, ht⟩
  by_cases hlt : i < vs.length
  · have hv : vs[i]? = some vs[i] := by simp [hlt]
    have hd : vs.drop i = vs[i] :: vs.drop (i + 1) := List.drop_eq_getElem_cons hlt
    rw [hd] at hb
    refine W.item A k g0 σ _ _ _ i _ hA R.rh hn hst hv fun cv h1 tk1 r1 st1 kp1 t1 => ?_
    have R1 := R.but kp1 (fun b hb => ⟨hwr b hb, (hfp b (W.sub b hb)).1, (hfp b (W.sub b hb)).2.2⟩) t1
    have hD1 : h1.get? D = some (lstO cacc cn) := kp1 D _ (fun hm => (hfp D (W.sub D hm)).2.1 rfl) hDo
    refine wpAny_assign_Name ?_
    obtain ⟨mc, hn1, hm1⟩ := R1.ns
    refine wpAny_storeName_local hl hn1 (fun h2 hn2 hs2 => ?_) (by rw [hk]; rfl)
    have R2 : Rel prog w g0 C (mset m x vs[i]) σ h2 := R1.store hC hn1 hm1 hn2 hs2 r1
    have t2 : TK h1 h2 := ns_tk hn1 hs2
    have hD2 : h2.get? D = some (lstO cacc cn) := (hs2.2 D hDC).trans hD1
    have st2 : S (i + 1) h2 := W.frame _ _ _ st1 (fun b hb o e => (hs2.2 b (hfp b hb).1).trans e) t2
    have le := R2.le_mask hC
    have R2e : Rel prog w g0 C [(x, vs[i])] σ h2 := R2.env fun y u e => by
      rw [List.lookup_cons] at e
      rw [lookup_mset]
      cases q : y == x with
      | true => rw [q] at e; simpa using e
      | false => rw [q] at e; simp at e
    have gin : ∀ b, b ≠ C → (∀ p ∈ σ, p.1 ≠ b) → (mask h2 (C :: σ.map (·.1))).get? b = h2.get? b := fun b hb hs => by
      rw [mask_out]
      intro hm
      rcases List.mem_cons.mp hm with e | hm
      · exact hb e
      · obtain ⟨p, hp, q⟩ := List.mem_map.mp hm
        exact hs p hp q
    refine hb A _ _ _ _ hA (fun b o e => le b o (hB b o e)) (R2e.masked hC) fun okc ok σ1 h3 tk3 hq R3 eok t3 => ?_
    subst eok
    have hD3 : h3.get? D = some (lstO cacc cn) := R3.rh.keep _ _ (by rw [gin D hDC hDσ]; exact hD2)
    have offD : ∀ {σ' : St} {h' : Heap}, RH prog w (mask h2 (C :: σ.map (·.1))) σ' h' → ∀ p ∈ σ', p.1 ≠ D := fun {σ' h'} R' p hp e => by
      have := (R'.own p hp).1
      rw [e, gin D hDC hDσ] at this
      have hD2' : h2.get? D = some (lstO cacc cn) := hD2
      rw [hD2'] at this; cases this
    have offF : ∀ {σ' : St} {h' : Heap}, RH prog w (mask h2 (C :: σ.map (·.1))) σ' h' → ∀ b ∈ fp, ∀ p ∈ σ', p.1 ≠ b := fun {σ' h'} R' =>
      not_in W st2 R' fun b hb o e => by rw [gin b (hfp b hb).1 (hfp b hb).2.2]; exact e
    have keepF : ∀ {σ' : St} {h' : Heap}, RH prog w (mask h2 (C :: σ.map (·.1))) σ' h' → ∀ b ∈ fp, ∀ o, h2.get? b = some o → h'.get? b = some o := fun {σ' h'} R' b hb o e =>
      R'.keep b o (by rw [gin b (hfp b hb).1 (hfp b hb).2.2]; exact e)
    cases okc with
    | true =>
      refine hq A _ _ _ _ hA (fun b o e => le b o (hB b o e)) R3 fun cu u σ2 h4 tk4 hq4 R4 ru t4 => ?_
      obtain ⟨σ3, sub, hn3, hb3⟩ := hq4
      have hD4 : h4.get? D = some (lstO cacc cn) := R4.rh.keep _ _ (by rw [gin D hDC hDσ]; exact hD2)
      have hacc4 : VRs h4 cacc acc := hacc.mono (t1.trans (t2.trans (t3.trans t4)))
      refine wpAny_list_append_plain (l := D) (items := cacc.toArray) ⟨cn, hD4⟩ (fun h5 hp5 hs5 => ?_) (by simp [hacc.length]; omega)
      obtain ⟨n', ho5⟩ := hp5
      have t5 : TK h4 h5 := list_tk hD4 hs5
      have R4' : Rel prog w g0 C [(x, vs[i])] σ3 h4 := (R4.less R2.rh.st le).subP sub
      have R5 : Rel prog w g0 C [(x, vs[i])] σ3 h5 := R4'.but (wr := [D]) (fun b o hb e => (hs5.2 b fun q => hb (by rw [q]; exact .head _)).trans e) (fun b hb => by
        rw [List.mem_singleton.mp hb]
        exact ⟨hD, hDC, fun p hp => offD R4.rh p (sub.subset hp)⟩) t5
      refine ⟨_, ?_, i + 1, _, σ3, h5, tk4, acc ++ [u], cacc ++ [cu], n', rfl, hlt, rfl, R5, ?_, ?_, hn3, hb3, by rw [ho5]; simp, (hacc4.append (.cons ru .nil)).mono t5, by simp; omega, fun p hp => offD R4.rh p (sub.subset hp), ht.trans (t1.trans (t2.trans (t3.trans (t4.trans t5))))⟩
      · omega
      · refine W.frame _ _ _ st2 (fun b hb o e => (hs5.2 b (hfp b hb).2.1).trans (keepF R4.rh b hb o e)) (t3.trans (t4.trans t5))
      · exact fun b hb => ⟨(hfp b hb).1, (hfp b hb).2.1, fun p hp => offF R4.rh b hb p (sub.subset hp)⟩
    | false =>
      obtain ⟨σ3, sub, hn3, hb3⟩ := hq
      refine ⟨_, ?_, i + 1, _, σ3, h3, tk3, acc, cacc, cn, rfl, hlt, rfl, (R3.less R2.rh.st le).subP sub, ?_, ?_, hn3, hb3, hD3, hacc.mono (t1.trans (t2.trans t3)), by omega, fun p hp => offD R3.rh p (sub.subset hp), ht.trans (t1.trans (t2.trans t3))⟩
      · omega
      · exact W.frame _ _ _ st2 (keepF R3.rh) t3
      · exact fun b hb => ⟨(hfp b hb).1, (hfp b hb).2.1, fun p hp => offF R3.rh b hb p (sub.subset hp)⟩
  · have e : i = vs.length := by omega
    subst e
    refine W.done A k g0 σ _ _ _ hA R.rh hn hst fun h1 tk1 kp1 t1 => ?_
    have R1 := R.but kp1 (fun b hb => ⟨hwr b hb, (hfp b (W.sub b hb)).1, (hfp b (W.sub b hb)).2.2⟩) t1
    rw [List.drop_length] at hb
    exact hRR acc σ h1 tk1 m hb R1 ⟨cacc, cn, kp1 D _ (fun hm => (hfp D (W.sub D hm)).2.1 rfl) hDo, hacc.mono t1⟩ hDσ (ht.trans t1)
theorem comp_core {scope : Scope} {cl : List (Str × Addr)} {x : Str} {px pos : Pos} {ifs : List Expr} {elt iter : Expr} {I : Addr} {fp wr : List Addr} {need : St → Prop} {S : Nat → Heap → Prop} (W : Iter prog w I fp wr vs need S) (hsz : vs.length ≤ sizeLine)
    {A : Around} {s : Shared} {E : Value → Shared → Prop} {Q : List V → St → Prop} {RR : Value → Addr → Result → Shared → Prop} (hA : AOk k A) (hB : ∀ b o, Bs.get? b = some o → g.get? b = some o)
    (hkind : scope.kind = .function) (hx : scope.names.lookup x = some .local) (hcell : ∀ y ∈ scope.names, y.2 ≠ .cell)
    (R : Rel prog w g L m σ s.heap) (hst : S 0 s.heap) (hfp : ∀ b ∈ fp, b ≠ L ∧ ∀ p ∈ σ, p.1 ≠ b) (hwr : ∀ b ∈ wr, g.get? b = none) (hn : need σ)
    (h : ∀ C, CompB prog w Bs k (compEnvC scope cl C env) x ifs elt need Q vs [] σ)
    (hRR : ∀ D C acc σ' h' tk m', Q acc σ' → Rel prog w g L m ((D, .list acc) :: σ') h' → h'.Ns C m' → g.get? C = none → C ≠ L → C ≠ D → (∀ p ∈ σ', p.1 ≠ C) → TK s.heap h' → RR (.ref D) C (.ok .next) { s with heap := h', toks := tk }) :
    wpAny (model prog w) A (newList []) (fun acc s₃ => wpAny (model prog w) A (newFunctionEnv scope env.globals cl [] env.qual none .none (some env)) (fun cenv s₄ =>
      codeAny (model prog w) A (.compStart (.ListComp elt [⟨.Name x px, iter, ifs, 0⟩] scope pos) 0 (.ref I) acc { cenv with scope := relabel scope env }) (RR acc cenv.locals) s₄) E s₃) E s := by
  refine wpAny_newObj_type (wpAny_newFunctionEnv hcell (by intro y hy; simp at hy) (fun h₁ hns₁ hsb₁ => ?_) hkind)
  dsimp only at hns₁ hsb₁ ⊢
  generalize hH2 : s.heap.push { cls := .type "list", dict := none, data := .seq ([] : List Value).toArray } = H2 at hns₁ hsb₁ ⊢
  have hCz : H2.objs.size = s.heap.objs.size + 1 := by rw [← hH2, Heap.size_push]
  generalize hDz : s.heap.objs.size = D at *
  generalize hCC : H2.objs.size = C at *
  have hDC : D ≠ C := by rw [hCz]; exact Nat.ne_of_lt (Nat.lt_succ_self _)
  have fresh : ∀ a, s.heap.objs.size ≤ a → s.heap.get? a = none := fun a ha => get_none_of_size ha
  have hDn : s.heap.get? D = none := fresh D (by rw [hDz]; exact Nat.le_refl _)
  have hCn : s.heap.get? C = none := fresh C (by rw [hDz, hCz]; exact Nat.le_succ _)
  have hH2C : H2.get? C = none := get_none_of_size (by rw [hCC]; exact Nat.le_refl _)
  have keepH : ∀ b o, H2.get? b = some o → h₁.get? b = some o := fun b o e => (hsb₁.2 b fun q => by rw [q, hH2C] at e; cases e).trans (Heap.get?_push_of_some _ e)
  have old : ∀ b o, s.heap.get? b = some o → h₁.get? b = some o := fun b o e => keepH b o (by rw [← hH2]; exact Heap.get?_push_of_some _ e)
  have hDo : h₁.get? D = some (lstO [] 0) := keepH D _ (by rw [← hH2, ← hDz]; exact Heap.get?_push_size _ rfl)
  -- what is laid by during the loop
  have gout : ∀ b, b ∉ wr ++ σ.map (·.1) → (mask s.heap (wr ++ σ.map (·.1))).get? b = s.heap.get? b := fun b hb => mask_out hb
  have gle : ∀ b o, g.get? b = some o → (mask s.heap (wr ++ σ.map (·.1))).get? b = some o := fun b o e => by
    rw [gout]
    · exact R.rh.keep b o e
    · intro hm
      rcases List.mem_append.mp hm with hm | hm
      · rw [hwr b hm] at e; cases e
      · obtain ⟨p, hp, q⟩ := List.mem_map.mp hm
        have := (R.rh.own p hp).1
        rw [q, e] at this; cases this
  have gL : ∀ o, s.heap.get? L = some o → (mask s.heap (wr ++ σ.map (·.1))).get? L = some o := fun o e => by
    rw [gout]
    · exact e
    · intro hm
      rcases List.mem_append.mp hm with hm | hm
      · exact (hfp L (W.sub L hm)).1 rfl
      · obtain ⟨p, hp, q⟩ := List.mem_map.mp hm
        exact R.offS p hp q
  have gnone : ∀ b, s.heap.get? b = none → (mask s.heap (wr ++ σ.map (·.1))).get? b = none := fun b e => by
    cases q : (mask s.heap (wr ++ σ.map (·.1))).get? b with
    | none => rfl
    | some o => rw [mask_sub q] at e; cases e
  have offD : ∀ p ∈ σ, p.1 ≠ D := fun p hp e => by obtain ⟨_, o, ho, _⟩ := R.rh.own p hp; rw [e, hDn] at ho; cases ho
  have offC : ∀ p ∈ σ, p.1 ≠ C := fun p hp e => by obtain ⟨_, o, ho, _⟩ := R.rh.own p hp; rw [e, hCn] at ho; cases ho
  have R1 : RH prog w (mask s.heap (wr ++ σ.map (·.1))) σ h₁ :=
    ⟨fun b o e => old b o (mask_sub e), R.rh.nd, fun p hp => ⟨mask_in (List.mem_append_right _ (List.mem_map_of_mem hp)), let ⟨_, o, e, r⟩ := R.rh.own p hp; ⟨o, old _ _ e, r.mono _ _ (.of_keep old)⟩⟩,
      let ⟨o, e⟩ := R.rh.st; ⟨o, gle _ _ e⟩, R.rh.low⟩
  have Rc : Rel prog w (mask s.heap (wr ++ σ.map (·.1))) C [] σ h₁ := ⟨R1, ⟨_, hns₁, fun x v e => by simp at e⟩, offC⟩
  have st1 : S 0 h₁ := W.frame _ _ _ hst (fun b _ o e => old b o e) (.of_keep old)
  have loop : ∀ s₃ : Shared, s₃ = { s with heap := h₁, toks := s.toks + ([] : List (Str × Value)).length } →
      codeAny (model prog w) A (.compLoop (.ListComp elt [⟨.Name x px, iter, ifs, 0⟩] scope pos) 0 (.ref I) (.ref D) (compEnvC scope cl C env)) (RR (.ref D) C) s₃ := by
    rintro s₃ rfl
    refine comp_loop W hsz hA (fun b o e => gle b o (hB b o e)) hkind hx Rc (gnone C hCn) (gnone D hDn) hDC offD hDo st1 ?_ (fun b hb => mask_in (List.mem_append_left _ hb)) hn (h C) ?_
    · intro b hb
      obtain ⟨o, ho⟩ := W.there _ _ hst b hb
      refine ⟨fun e => ?_, fun e => ?_, (hfp b hb).2⟩
      · rw [e, hCn] at ho; cases ho
      · rw [e, hDn] at ho; cases ho
    · intro acc σ' h' tk m' hq R' ⟨cacc, n, hD', hacc⟩ hDσ t
      have t' : TK s.heap h' := (TK.of_keep old).trans t
      have Rb : Rel prog w g L m σ' h' := R.back gle gL R'.rh t'
      have gD : g.get? D = none := by
        cases q : g.get? D with
        | none => rfl
        | some o => have := gle _ _ q; rw [gnone D hDn] at this; cases this
      have gC : g.get? C = none := by
        cases q : g.get? C with
        | none => rfl
        | some o => have := gle _ _ q; rw [gnone C hCn] at this; cases this
      have hLo : ∃ o, s.heap.get? L = some o := R.lt
      have hDL : D ≠ L := fun e => by obtain ⟨o, ho⟩ := hLo; rw [← e, hDn] at ho; cases ho
      have hCL : C ≠ L := fun e => by obtain ⟨o, ho⟩ := hLo; rw [← e, hCn] at ho; cases ho
      obtain ⟨mc, hns', _⟩ := R'.ns
      refine hRR D C acc σ' h' tk mc hq ⟨⟨Rb.rh.keep, ?_, fun p hp => ?_, Rb.rh.st, fun p hp => ?_⟩, Rb.ns, fun p hp => ?_⟩ hns' gC hCL (Ne.symm hDC) R'.offS t'
      · refine List.nodup_cons.mpr ⟨fun hm => ?_, Rb.rh.nd⟩
        obtain ⟨p, hp, e⟩ := List.mem_map.mp hm
        exact hDσ p hp e
      · rcases List.mem_cons.mp hp with rfl | hp
        · exact ⟨gD, _, hD', cacc, n, rfl, hacc⟩
        · exact Rb.rh.own p hp
      · rcases List.mem_cons.mp hp with rfl | hp
        · show cStatics < D
          rw [← hDz]; exact R.rh.big
        · exact Rb.rh.low p hp
      · rcases List.mem_cons.mp hp with rfl | hp
        · exact hDL
        · exact Rb.offS p hp
  exact codeAny_compStart_list (loop _ rfl) (W.self A 0 _ _ _ st1 (loop _ rfl))
theorem Rel.offC {C : Addr} (R : Rel prog w g L m σ h) (hs : Heap.SameBut C h h') (gC : g.get? C = none) (hC : C ≠ L) (hσ : ∀ p ∈ σ, p.1 ≠ C) {mc : Str → Option Value} (hn : h.Ns C mc) : Rel prog w g L m σ h' ∧ TK h h' := by
  have t := ns_tk hn hs
  exact ⟨R.but (wr := [C]) (fun b o hb e => (hs.2 b fun q => hb (by rw [q]; exact .head _)).trans e) (fun b hb => by rw [List.mem_singleton.mp hb]; exact ⟨gC, hC, hσ⟩) t, t⟩
theorem evx_assign_comp {scope : Scope} {cl : List (Str × Addr)} {x y : Str} {px py pos spos : Pos} {ifs : List Expr} {elt iter : Expr} {Q : Fl → Env' → St → Prop} (hclos : closureFor scope env = pure cl) (hok : compOk scope x = true)
    (h : EvE prog w Bs k env iter m σ fun v σ1 => Its prog w Bs k env.locals v m σ1 fun vs need σ2 => vs.length ≤ sizeLine ∧ ∀ C, CompB prog w Bs k (compEnvC scope cl C env) x ifs elt need (fun acc σ3 => ∀ D, Q .next (mset m y (.ref D)) ((D, .list acc) :: σ3)) vs [] σ2)
    (hsw : swapsWith (.ListComp elt [⟨.Name x px, iter, ifs, 0⟩] scope pos) (some (.Name y py)) spos.line env = pure true := by rfl) (hl : env.kindOf y = some .local := by rfl) (hk : env.scope.kind = .function := by rfl)
    (hs : ∀ x, foldedSetIterable iter env x = pure x := by intro _; rfl) : EvX prog w Bs k env (.Assign [.Name y py] (.ListComp elt [⟨.Name x px, iter, ifs, 0⟩] scope pos) spos) m σ Q := fun A g s Qc Ec hA hB hL R hQ => by
  simp only [compOk, Bool.and_eq_true, decide_eq_true_eq, List.all_eq_true] at hok
  obtain ⟨⟨⟨o1, o2⟩, o3⟩, o4⟩ := hok
  rw [exec_Assign_Name_used _ _ _ _ hsw]
  refine wpAny_bind (wpAny_standAt (wpAny_bind ?_))
  show wpAny _ A (do let _ ← comprehension (.ListComp elt [⟨.Name x px, iter, ifs, 0⟩] scope pos) scope env _ (newList []) false (eval iter env) (some (assign (.Name y py) env))) _ _ s
  refine wpAny_bind (wpAny_mono (wpAny_comprehension_free (use := some (assign (.Name y py) env)) (Q := fun _ s' => Qc .next s') rfl hs hclos o1 (fun y hy => o3 y hy) ?_) (fun _ s' hq => wpAny_pure (wpAny_pure hq)) fun _ _ e => e)
  refine h A g s _ _ hA hB R fun cv v σ1 h1 tk1 hi R1 r1 t1 => hi A g _ cv _ _ hA hB R1 r1 fun I fp wr vs need S σ' h' tk hb W st R' t' hfp hwr hn _ => ?_
  refine comp_core (RR := fun acc C => compPost (model prog w) A Ec (some (assign (.Name y py) env)) (fun _ s' => Qc .next s') acc C) W hb.1 hA hB o1 o4 (fun y hy => o2 y hy) R' st hfp hwr hn hb.2 ?_
  intro D C acc σ3 h3 tk3 m3 hq R3 hns gC hCL hCD hσ t3
  show wpAny _ A (assign (.Name y py) env (.ref D)) _ _ _
  obtain ⟨mc, hnL, hmL⟩ := R3.ns
  refine wpAny_assign_Name (wpAny_storeName_local hl hnL (fun h4 hn4 hs4 => ?_) (by rw [hk]; rfl))
  have R4 := R3.store hL hnL hmL hn4 hs4 (.ref D)
  have t4 := ns_tk hnL hs4
  refine ⟨m3, hns.sameBut hs4 hCL, fun h5 hs5 => ?_⟩
  obtain ⟨R5, t5⟩ := R4.offC hs5 gC hCL (fun p hp => by
    rcases List.mem_cons.mp hp with rfl | hp
    · exact Ne.symm hCD
    · exact hσ p hp) (hns.sameBut hs4 hCL)
  exact hQ .next .next _ _ h5 _ (hq D) R5 .next (t1.trans (t'.trans (t3.trans (t4.trans t5))))
/-- turns that leave the objects alone -/
theorem compB_pure {α : Type} {x : Str} {ifs : List Expr} {elt : Expr} {need : St → Prop} {Q : List V → St → Prop} (f : α → V) (p : α → Bool) (u : α → V) : ∀ (xs : List α) (acc : List V),
    (∀ y ∈ xs, EvT prog w Bs k env ifs [(x, f y)] σ fun ok σ1 => ok = p y ∧ SubP σ σ1) → (∀ y ∈ xs, p y = true → EvE prog w Bs k env elt [(x, f y)] σ fun v σ1 => v = u y ∧ SubP σ σ1) → need σ → Q (acc ++ (xs.filter p).map u) σ →
    CompB prog w Bs k env x ifs elt need Q (xs.map f) acc σ
  | [], acc, _, _, _, hq => by simpa [CompB] using hq
  | y :: xs, acc, h1, h2, hn, hq => by
    simp only [List.map_cons, CompB]
    have e1 := h1 y (.head _)
    refine Ev.mono e1 fun ok σ1 ⟨e, sub⟩ => ?_
    subst e
    cases hp : p y with
    | true =>
      refine if_tt rfl ?_
      have e2 := h2 y (.head _) hp
      intro A g s Qc Ec hA hB R hQ
      refine e2 A g s Qc Ec hA hB (R.subP sub) fun cv v σ2 h' tk ⟨ev, sub2⟩ R' r t => hQ cv v σ2 h' tk ⟨σ, sub2, hn, ?_⟩ R' r t
      subst ev
      exact compB_pure f p u xs _ (fun z hz => h1 z (.tail _ hz)) (fun z hz => h2 z (.tail _ hz)) hn (by simpa [hp] using hq)
    | false =>
      refine if_ff rfl ?_
      exact ⟨σ, sub, hn, compB_pure f p u xs _ (fun z hz => h1 z (.tail _ hz)) (fun z hz => h2 z (.tail _ hz)) hn (by simpa [hp] using hq)⟩
theorem its_comp_list {α : Type} {x : Str} {ifs : List Expr} {elt : Expr} {ce : Addr → Env} {Q : List V → St → Prop} (xs : List α) (f : α → V) (p : α → Bool) (u : α → V) (hm : (a, ob) ∈ σ) (hl : ob.peel = .list (xs.map f)) (hz : xs.length ≤ 10000)
    (h1 : ∀ C, ∀ y ∈ xs, EvT prog w Bs k (ce C) ifs [(x, f y)] σ fun ok σ1 => ok = p y ∧ SubP σ σ1) (h2 : ∀ C, ∀ y ∈ xs, p y = true → EvE prog w Bs k (ce C) elt [(x, f y)] σ fun v σ1 => v = u y ∧ SubP σ σ1) (hq : Q ((xs.filter p).map u) σ) :
    Its prog w Bs k L (.ref a) m σ fun vs need σ2 => vs.length ≤ sizeLine ∧ ∀ C, CompB prog w Bs k (ce C) x ifs elt need Q vs [] σ2 :=
  its_list hm hl ⟨len_ok (by simpa using hz), fun C => compB_pure f p u xs [] (h1 C) (h2 C) hm (by simpa using hq)⟩
end
end Mine

set_option Elab.async false
set_option linter.unusedVariables false
set_option maxRecDepth 100000
namespace Mine
open PySem PyProof.Rows PySem.Calls PySem.W PySem.Spec

section
variable {prog : Program} {w : World} {Bs : Heap} {k : Nat} {env : Env} {m : Env'} {σ σ' : St} {g h h' : Heap} {L a d : Addr} {ob : O} {vs : List V} {kvs : KV}

end
end Mine

set_option Elab.async false
set_option linter.unusedVariables false
set_option maxRecDepth 100000
namespace Mine
open PySem PyProof.Rows PySem.Calls PySem.W PySem.Spec

section
variable (prog : Program) (w : World)
/-- what is walked into a target -/
structure IterT (target : Expr) (I : Addr) (fp wr : List Addr) (vs : List V) (need : St → Prop) (S : Nat → Heap → Prop) : Prop where
  sub : ∀ b ∈ wr, b ∈ fp
  there : ∀ i h, S i h → ∀ b ∈ fp, ∃ o, h.get? b = some o
  frame : ∀ i h h', S i h → (∀ b ∈ fp, ∀ o, h.get? b = some o → h'.get? b = some o) → TK h h' → S i h'
  item : ∀ (A : Around) (k : Nat) (g : Heap) (σ : St) (s : Shared) (Qc : Value → Shared → Prop) (Ec : Value → Shared → Prop) (i : Nat) (v : V), AOk k A → RH prog w g σ s.heap → need σ → S i s.heap → vs[i]? = some v →
    (∀ cv h' tk, VR h' cv v → S (i + 1) h' → (∀ b o, b ∉ wr → s.heap.get? b = some o → h'.get? b = some o) → TK s.heap h' → Qc cv { s with heap := h', toks := tk }) →
    wpAny (model prog w) A (pyNext (.ref I)) (fun r s₁ => ∃ cv, r = some cv ∧ wpAny (model prog w) A (letOwnedTupleGo target (.ref I) cv) (fun _ s₂ => Qc cv s₂) Ec s₁) Ec s
  done : ∀ (A : Around) (k : Nat) (g : Heap) (σ : St) (s : Shared) (Qc : Option Value → Shared → Prop) (Ec : Value → Shared → Prop), AOk k A → RH prog w g σ s.heap → need σ → S vs.length s.heap →
    (∀ h' tk, (∀ b o, b ∉ wr → s.heap.get? b = some o → h'.get? b = some o) → TK s.heap h' → Qc none { s with heap := h', toks := tk }) → wpAny (model prog w) A (pyNext (.ref I)) Qc Ec s
end
section
variable {prog : Program} {w : World} {Bs : Heap} {k : Nat} {env : Env} {m : Env'} {σ σ' : St} {g h h' : Heap} {L a d : Addr} {ob : O} {vs : List V} {kvs : KV}

variable (prog w) in
def AsgT (k : Nat) (env : Env) (target : Expr) (v : V) (bnd : Env' → V → Env') : Prop :=
  ∀ (A : Around) (g : Heap) (m : Env') (σ : St) (s : Shared) (cv : Value) (Qc : Unit → Shared → Prop) (Ec : Value → Shared → Prop), AOk k A → g.get? env.locals = none → Rel prog w g env.locals m σ s.heap → VR s.heap cv v →
    (∀ h' tk, Rel prog w g env.locals (bnd m v) σ h' → TK s.heap h' → (∀ b o, b ≠ env.locals → s.heap.get? b = some o → h'.get? b = some o) → Qc () { s with heap := h', toks := tk }) →
    wpAny (model prog w) A (assign target env cv) Qc Ec s
/-- names bound in a row -/
def bindT : List Str → List V → Env' → Env'
  | x :: xs, v :: vs, m => bindT xs vs (mset m x v)
  | _, _, m => m
def bndT (xs : List Str) (m : Env') : V → Env'
  | .tup vs => bindT xs vs m
  | _ => m
def namesE (es : List (Str × Pos)) : List Expr := es.map fun p => .Name p.1 p.2
theorem assign_names {A : Around} {Qc : Unit → Shared → Prop} {Ec : Value → Shared → Prop} (hk : env.scope.kind = .function) (hL : g.get? env.locals = none) : ∀ (es : List (Str × Pos)) (cvs : List Value) (vs : List V) (m : Env') (s : Shared),
    (∀ p ∈ es, env.kindOf p.1 = some .local) → Rel prog w g env.locals m σ s.heap → VRs s.heap cvs vs → cvs.length = es.length →
    (∀ h' tk, Rel prog w g env.locals (bindT (es.map (·.1)) vs m) σ h' → TK s.heap h' → (∀ b o, b ≠ env.locals → s.heap.get? b = some o → h'.get? b = some o) → Qc () { s with heap := h', toks := tk }) →
    wpAny (model prog w) A (assignInOrder ((assignEach (namesE es) env).map (·.2)) cvs) Qc Ec s
  | [], cvs, vs, m, s, _, R, r, hl, hQ => by
    cases cvs with
    | nil => cases r; exact wpAny_pure (hQ s.heap s.toks R (.refl _) fun _ _ _ e => e)
    | cons _ _ => simp at hl
  | (x, p) :: es, cvs, vs, m, s, hx, R, r, hl, hQ => by
    cases r with
    | nil => simp at hl
    | @cons c v cs vs r rs =>
      show wpAny _ A (do holding cs (assign (.Name x p) env c); assignInOrder ((assignEach (namesE es) env).map (·.2)) cs) _ _ _
      obtain ⟨mc, hn, hm⟩ := R.ns
      refine wpAny_bind (wpAny_holding (wpAny_assign_Name (wpAny_storeName_local (hx (x, p) (.head _)) hn (fun h1 hn1 hs1 => ?_) (by rw [hk]; rfl))))
      have t1 := ns_tk hn hs1
      refine assign_names hk hL es cs vs (mset m x v) _ (fun q hq => hx q (.tail _ hq)) (R.store hL hn hm hn1 hs1 r) (rs.mono t1) (by simpa using hl) fun h' tk R' t' kp => ?_
      exact hQ h' tk R' (t1.trans t') fun b o hb e => kp b o hb ((hs1.2 b hb).trans e)
theorem asg_tuple {es : List (Str × Pos)} {kk : Nat} {pos : Pos} {us : List V} (hk : env.scope.kind = .function) (hx : ∀ p ∈ es, env.kindOf p.1 = some .local) (hlen : us.length = es.length) :
    AsgT prog w k env (.Tuple (namesE es) kk pos) (.tup us) (bndT (es.map (·.1))) := fun A g m σ s cv Qc Ec hA hL R r hQ => by
  cases r with
  | @tup t cvs n _ ho rs =>
    have hz : ∀ (es : List (Str × Pos)), (assignEach (namesE es) env).length = es.length ∧ (assignEach (namesE es) env).findIdx? (·.1) = none := by
      intro es
      induction es with
      | nil => exact ⟨rfl, rfl⟩
      | cons p es ih =>
        refine ⟨?_, ?_⟩
        · show (assignEach (namesE es) env).length + 1 = _
          rw [ih.1]; rfl
        · show List.findIdx? (·.1) ((false, assign (.Name p.1 p.2) env) :: assignEach (namesE es) env) = none
          rw [List.findIdx?_cons]
          simp [ih.2]
    refine wpAny_assign_Tuple hA.1 (items := cvs.toArray) ⟨_, ho, rfl, n, rfl⟩ (by rw [(hz es).1, List.size_toArray, rs.length, hlen]) (hz es).2 fun h1 hx1 => ?_
    have kp : ∀ b o, s.heap.get? b = some o → h1.get? b = some o := fun b o e => hx1 b o (Nat.ne_of_lt (Heap.lt_size e)) e
    exact assign_names hk hL es cvs us m _ hx (R.ext kp) (rs.mono (.of_keep kp)) (by rw [rs.length, hlen]) fun h' tk R' t kp' => hQ h' tk R' ((TK.of_keep kp).trans t) fun b o hb e => kp' b o hb (kp b o e)

-- enumerate
def enumV (n : Nat) : List V → List V
  | [] => []
  | v :: r => .tup [.int (n : Int), v] :: enumV (n + 1) r
theorem enumV_get : ∀ {vs : List V} {n i : Nat} {u : V}, (enumV n vs)[i]? = some u → ∃ v, vs[i]? = some v ∧ u = .tup [.int ((n + i : Nat) : Int), v]
  | [], n, i, u, h => by simp [enumV] at h
  | v :: r, n, 0, u, h => by simp [enumV] at h; exact ⟨v, by simp, by simp [← h]⟩
  | v :: r, n, i + 1, u, h => by
    simp [enumV] at h
    obtain ⟨v', h1, h2⟩ := enumV_get h
    exact ⟨v', by simpa using h1, by rw [h2, show n + 1 + i = n + (i + 1) by omega]⟩
theorem enumV_length : ∀ (vs : List V) (n : Nat), (enumV n vs).length = vs.length
  | [], _ => rfl
  | v :: r, n => by simp [enumV, enumV_length r]
-- membership in a list
-- sum of a list of ints
end
end Mine

set_option Elab.async false
set_option linter.unusedVariables false
set_option maxRecDepth 100000
namespace Mine
open PySem PyProof.Rows PySem.Calls PySem.W PySem.Spec

/-- an answer -/
inductive An where
  | no
  | num (i : Int)
  | key (x : Str)
section
variable {prog : Program} {w : World} {σ : St} {K : List Str} {g l g2 l2 a b : Addr} {oa ob : O} {r q : List An × PS}
open Classical in
open Classical in
end
end Mine

set_option Elab.async false
set_option linter.unusedVariables false
set_option maxRecDepth 100000
namespace Mine
open PySem PyProof.Rows PySem.Calls PySem.W PySem.Spec

section
variable {prog : Program} {w : World} {Bs : Heap} {k : Nat} {env : Env} {m : Env'} {σ σ' : St} {g h h' : Heap} {L a d : Addr} {ob : O} {vs : List V} {kvs : KV}

end
end Mine

set_option Elab.async false
set_option linter.unusedVariables false
set_option maxRecDepth 100000
namespace Mine
open PySem PyProof.Rows PySem.Calls PySem.W PySem.Spec

section
variable {prog : Program} {w : World} {Bs : Heap} {k : Nat} {σ σ' : St} {g h h' : Heap} {d e : Addr} {ob : O} {kvs more : KV}
end
end Mine

set_option Elab.async false
set_option linter.unusedVariables false
set_option maxRecDepth 100000
namespace Mine
open PySem PyProof.Rows PySem.Calls PySem.W PySem.Spec

section
variable {prog : Program} {w : World} {Bs : Heap} {k : Nat} {env : Env} {m : Env'} {σ σ' : St} {g h h' : Heap} {L a d : Addr} {ob : O} {vs : List V} {kvs : KV}

-- and, as a value
end
-- dicts of counts, plainly
def cnt (ps : PS) (x : Str) : Int := (ps.lookup x).getD 0
end Mine

set_option Elab.async false
set_option linter.unusedVariables false
set_option maxRecDepth 100000
namespace Mine
open PySem PyProof.Rows PySem.Calls PySem.W PySem.Spec

/-- a function's code, whose table may grow -/
structure CodeAt (Bs : Heap) (c P : Addr) : Prop where
  code : ∃ o vs file tf flags tg inF text tt, Bs.get? c = some o ∧ o.cls = .type "code" ∧ o.data = .fields vs ∧ vs[11]? = some (.ref P) ∧ vs.getD 18 .none = .str file tf ∧
    vs.getD 7 .none = .int flags tg ∧ vs.getD 9 .none = .bool inF ∧ vs.getD 10 .none = .int text tt
  ne : c ≠ P
def TabIs (h : Heap) (P : Addr) (ps : Array Value) : Prop := h.get? P = some { cls := .none, data := .fields ps } ∧ TriplesOk ps.toList
section
variable {Bs h h' : Heap} {c P : Addr} {ps : Array Value}
theorem CodeAt.isCode (C : CodeAt Bs c P) (kp : ∀ b o, Bs.get? b = some o → h.get? b = some o) (t : TabIs h P ps) : h.IsCode c P ps ∧ h.TableAt c P ps := by
  obtain ⟨o, vs, file, tf, flags, tg, inF, text, tt, h1, h2, h3, h4, h5, h6, h7, h8⟩ := C.code
  exact ⟨⟨o, vs, file, tf, flags, tg, inF, text, tt, _, kp _ _ h1, h3, by rw [Array.getD_eq_getD_getElem?, h4]; rfl, h5, h6, h7, h8, t.1, rfl, t.2, C.ne⟩, ⟨o, vs, kp _ _ h1, h2, h3, h4⟩, t.1⟩
end

section
variable (prog : Program) (w : World) (Bs : Heap)
/-- a run that may make generators and let the table at P grow -/
def EvG {α β : Type} (P' : Heap → α → β → Prop) (P : Addr) (ps : Array Value) (k : Nat) (L : Addr) (t : Sem α) (m : Env') (σ : St) (Q : β → St → Array Value → Prop) : Prop :=
  ∀ (A : Around) (g : Heap) (s : Shared) (Qc : α → Shared → Prop) (Ec : Value → Shared → Prop), AOk k A → (∀ b o, Bs.get? b = some o → g.get? b = some o) → g.get? P = none → P ≠ L → TabIs s.heap P ps → (∀ p ∈ σ, p.1 ≠ P) → AllBare s.gens → Rel prog w g L m σ s.heap →
    (∀ c v σ' h' tk gn more, Q v σ' (ps ++ more) → Rel prog w g L m σ' h' → P' h' c v → TK s.heap h' → AllBare gn → TabIs h' P (ps ++ more) → (∀ p ∈ σ', p.1 ≠ P) → Qc c { s with heap := h', toks := tk, gens := gn }) →
    wpAny (model prog w) A t Qc Ec s
end
section
variable {prog : Program} {w : World} {Bs : Heap} {k : Nat} {env : Env} {m : Env'} {σ : St} {g h h' : Heap} {L a c P : Addr} {ob : O} {vs : List V} {ps : Array Value} {mg mb : Str → Option Value}

/-- what is quiet is also this -/
theorem Ev.toG {α β : Type} {P' : Heap → α → β → Prop} {t : Sem α} {Q : β → St → Array Value → Prop} (h : Ev prog w Bs P' k L t m σ fun v σ' => Q v σ' ps) : EvG prog w Bs P' P ps k L t m σ Q := by
  intro A g s Qc Ec hA hB hP hPL tab off hG R hQ
  have gin : (mask s.heap (L :: σ.map (·.1))).get? P = s.heap.get? P := mask_out fun hm => by
    rcases List.mem_cons.mp hm with e | hm
    · exact hPL e
    · obtain ⟨p, hp, e⟩ := List.mem_map.mp hm
      exact off p hp e
  -- hold P fast, and L loose
  let S := σ.map (·.1)
  have le : ∀ b o, g.get? b = some o → (mask s.heap S).get? b = some o := R.rh.le_mask
  have gP : (mask s.heap S).get? P = s.heap.get? P := mask_out fun hm => by
    obtain ⟨p, hp, e⟩ := List.mem_map.mp hm
    exact off p hp e
  have RM : Rel prog w (mask s.heap S) L m σ s.heap := ⟨R.rh.masked, R.ns, R.offS⟩
  refine h A (mask s.heap S) s Qc Ec hA (fun b o e => le b o (hB b o e)) RM fun cv v σ' h' tk hq R' p t => ?_
  have hP' : h'.get? P = some { cls := .none, data := .fields ps } := R'.rh.keep _ _ (by rw [gP]; exact tab.1)
  have := hQ cv v σ' h' tk s.gens #[] (by simpa using hq) (R'.less R.rh.st le) p t hG ⟨by simpa using hP', by simpa using tab.2⟩ fun q hq e => by
    have := (R'.rh.own q hq).1
    rw [e, gP, tab.1] at this; cases this
  exact this

/-- the built-ins module, as the text sees it -/
structure BMain (Bs : Heap) (mg : Str → Option Value) : Prop where
  bm : ∃ bm o, mg "__builtins__" = some (.ref bm) ∧ bm ≠ builtinsNs ∧ Bs.get? bm = some o ∧ o.cls = .type "module" ∧ o.dict = some builtinsNs ∧ o.data = .plain
def genOk (scope : Scope) (x : Str) : Bool := !scope.isCoroutine && decide (scope.kind = .function) && (scope.names.all fun y => decide (y.2 ≠ .cell)) && decide (scope.names.lookup (".0" : Str) = some .local) && decide (scope.names.lookup x = some .local)
theorem AllBare.onlyQ {g : Nat} {a b : Array GenState} (h : GenOnlyQ g a b) (ha : AllBare a) : AllBare b := by
  rcases h with rfl | ⟨⟨hz, hk⟩, hb⟩
  · exact ha
  · intro y hy
    obtain ⟨i, hi, rfl⟩ := Array.mem_iff_getElem.mp hy
    by_cases hg : i = g
    · subst hg
      exact hb _ (by simp [hi])
    · have h2 := hk i hg
      have h3 : b[i]? = some b[i] := by simp [hi]
      rw [h3] at h2
      exact ha _ (Array.mem_of_getElem? h2.symm)
/-- a generator over a list, made and handed to what consumes it -/
theorem gen_list {α : Type} {elt iter : Expr} {x : Str} {px gpos : Pos} {scope : Scope} {cl : List (Str × Addr)} {A : Around} {s : Shared} {Qc Ec : Value → Shared → Prop} (xs : List α) (f : α → V) (q : α → Bool) (C : Ctx Bs mg mb) (BM : BMain Bs mg) (CA : CodeAt Bs c P) (hcode : env.code = .ref c) (hgl : env.globals = mainGlobals) (hclos : closureFor scope env = pure cl) (hok : genOk scope x = true) (hnf : codeAmong gpos ps.toList = none) (hs : ∀ x, genFold iter env x = pure x)
    (hA : AOk (k + 1) A) (hB : ∀ b o, Bs.get? b = some o → g.get? b = some o) (hP : g.get? P = none) (hPL : P ≠ env.locals) (tab : TabIs s.heap P ps) (off : ∀ p ∈ σ, p.1 ≠ P) (hG : AllBare s.gens) (R : Rel prog w g env.locals m σ s.heap)
    (hiter : EvE prog w Bs (k + 1) env iter m σ fun v σ1 => v = .ref a ∧ σ1 = σ) (hm : (a, ob) ∈ σ) (hl : ob.peel = .list (xs.map f))
    (helt : ∀ C' code y, y ∈ xs → Ev prog w Bs VR k C' (eval elt (genEnv scope cl C' code builtinsNs env)) [(x, f y)] [] fun v _ => v = .bool (q y))
    (hQ : ∀ (I : Addr) (fp wr : List Addr) (G : Array GenState → Array GenState → Prop) (Pv : Nat → Value → Prop) (St : Nat → Shared → Prop) (s₅ : Shared), WalksS prog w A.in1 I fp wr G xs.length Pv St → St 0 s₅ → (∀ j v, Pv j v → ∃ y, xs[j]? = some y ∧ v = .bool (q y)) →
      (∀ s', Moved wr G s₅ s' → ∃ h' tk gn more, s' = { s with heap := h', toks := tk, gens := gn } ∧ Rel prog w g env.locals m σ h' ∧ TK s.heap h' ∧ AllBare gn ∧ TabIs h' P (ps ++ more)) → Qc (.ref I) s₅) :
    wpAny (model prog w) A (eval (.GeneratorExp elt [⟨.Name x px, iter, [], 0⟩] scope gpos) env) Qc Ec s := by
  simp only [genOk, Bool.and_eq_true, Bool.not_eq_true', decide_eq_true_eq, List.all_eq_true] at hok
  obtain ⟨⟨⟨⟨o1, o2⟩, o3⟩, o4⟩, o5⟩ := hok
  refine wpAny_GeneratorExp_walksQD hA.1 o1 hclos (fun y hy => o3 y hy) o4 o5 o2 hA.room ?_ hs
  refine (Ev.toG (P := P) (ps := ps) (Q := fun v σ' p' => v = .ref a ∧ σ' = σ ∧ p' = ps) (hiter.mono fun v σ' h => ⟨h.1, h.2, rfl⟩)) A g s _ _ hA hB hP hPL tab off hG R fun cv v σ' h1 tk1 gn1 more hq R1 rv t1 hG1 tab1 off1 => ?_
  obtain ⟨rfl, rfl, hps⟩ := hq
  rw [hps] at tab1
  cases rv
  obtain ⟨cvs, n, ho, rs⟩ := R1.rh.list_at hm hl
  have kpI := push_keep h1 { cls := .type "list_iterator", data := .fields #[.ref a, .int 0 0] }
  have BsP : Bs.get? P = none := by
    cases e : Bs.get? P with
    | none => rfl
    | some o => rw [hB _ _ e] at hP; cases hP
  have kB1 : ∀ b o, Bs.get? b = some o → h1.get? b = some o := fun b o e => R1.rh.keep b o (hB b o e)
  have kB2 : ∀ b o, Bs.get? b = some o → (h1.push { cls := .type "list_iterator", data := .fields #[.ref a, .int 0 0] }).get? b = some o := fun b o e => kpI b o (kB1 b o e)
  refine wpAny_pyIter_list ⟨_, ho, rfl, n, rfl⟩ ⟨C.lim.keeps kB2, ?_⟩
  have tab2 : TabIs (h1.push { cls := .type "list_iterator", data := .fields #[.ref a, .int 0 0] }) P ps := ⟨kpI _ _ tab1.1, tab1.2⟩
  obtain ⟨ic, tc⟩ := CA.isCode kB2 tab2
  refine wpAny_genexprCodeX hcode ic tc hnf fun c' h3 tk3 hx3 hc'1 hc'2 ic3 rec3 tab3 _ => ?_
  replace hx3 : Heap.ExtBut P (h1.push { cls := .type "list_iterator", data := .fields #[.ref a, .int 0 0] }) h3 := hx3
  have kB3 : ∀ b o, Bs.get? b = some o → h3.get? b = some o := fun b o e => hx3 b o (fun q => by rw [q, BsP] at e; cases e) (kB2 b o e)
  obtain ⟨bm, obm, b1, b2, b3, b4, b5, b6⟩ := BM.bm
  refine wpAny_builtinsFor (hgl ▸ C.g.keeps kB3) b1 b2 (kB3 _ _ b3) b4 b5 b6 ?_
  have hI1 : h1.get? h1.objs.size = none := get_size_none h1
  have hPI : P ≠ h1.objs.size := fun e => by have := tab1.1; rw [e, hI1] at this; cases this
  have haI : a ≠ h1.objs.size := Nat.ne_of_lt (Heap.lt_size ho)
  have haP : a ≠ P := fun e => off1 _ hm e
  have hIo : h3.get? h1.objs.size = some { cls := .type "list_iterator", data := .fields #[.ref a, .int 0 0] } := hx3 _ _ (Ne.symm hPI) (Heap.get?_push_size _ rfl)
  have hao : h3.get? a = some (lstO cvs n) := hx3 _ _ haP (kpI _ _ ho)
  have hBI : ∀ b o, Bs.get? b = some o → b ≠ h1.objs.size := fun b o e q => by have := kB1 b o e; rw [q, hI1] at this; cases this
  have hlen : cvs.toArray.size = xs.length := by simp [rs.length]
  have tk13 : TK h1 h3 := fun b cc nn e => hx3 b _ (fun q => by rw [q, tab1.1] at e; cases e) (kpI _ _ e)
  refine ⟨h1.objs.size, [h1.objs.size, a], [h1.objs.size], cvs.toArray.size, fun i v => cvs.toArray[i]? = some v, fun i h => h.IsListIter h1.objs.size a i ∧ h.IsList a cvs.toArray, fun _ => true, fun i y => ∃ z, xs[i]? = some z ∧ y = .bool (q z), rfl,
    fun A' hA' => Walks.list hA' _ a haI cvs.toArray, ⟨⟨_, hIo, rfl, rfl⟩, ⟨_, hao, rfl, n, rfl⟩⟩, fun b hb => ?_, C.lim.keeps kB3, fun hm => ?_, fun href hk => ⟨fun A' E' i v s₂ m₂ _ _ _ _ _ _ _ => ?_, fun A' E' i v s₂ m₂ hA' hD hU hPv _ hn hm2 hkk => ?_⟩, fun aa h5 tk5 gs hbare hlt5 hz5 kp5 W St5 => ?_⟩
  · rcases List.mem_cons.mp hb with rfl | hb
    · exact Heap.lt_size hIo
    · rw [List.mem_singleton.mp hb]; exact Heap.lt_size hao
  · obtain ⟨oS, hS⟩ := R1.rh.st
    have := R1.rh.keep _ _ hS
    rw [List.mem_singleton.mp hm, hI1] at this; cases this
  · exact wpAny_pure ⟨rfl, s₂.heap, s₂.toks, rfl, fun _ _ e => e⟩
  · have hv' : cvs[i]? = some v := by simpa using hPv
    obtain ⟨fy, hfy, rvy⟩ := rs.get' hv'
    rw [List.getElem?_map] at hfy
    obtain ⟨y, hy, rfl⟩ := Option.map_eq_some_iff.mp hfy
    have up : ∀ b o, b ≠ h1.objs.size → h3.get? b = some o → s₂.heap.get? b = some o := fun b o hb e => hkk b (List.mem_range.mpr (Heap.lt_size e)) (by simpa using hb) o (hk b o e)
    have tks : TK h1 s₂.heap := fun b cc nn e => up b _ (fun q => by rw [q, hI1] at e; cases e) (tk13 _ _ _ e)
    have kBs : ∀ b o, Bs.get? b = some o → s₂.heap.get? b = some o := fun b o e => up b o (hBI b o e) (kB3 b o e)
    have hAk : AOk k A' := ⟨hA', by have := hA.2.1; omega, by have := hA.2.2; omega⟩
    refine helt _ (.ref c') y (List.mem_of_getElem? hy) A' s₂.heap s₂ _ _ hAk kBs ⟨⟨fun _ _ e => e, by simp, by simp, ?_, by simp⟩, ⟨m₂, hn, fun z u e => ?_⟩, by simp⟩ fun cv v' σ' h' tk' hv' R' r' t' => ?_
    · obtain ⟨oS, hS⟩ := R.rh.st
      have hg1 : h1.get? cStatics = some oS := R1.rh.keep _ _ hS
      have hne : cStatics ≠ h1.objs.size := fun q => by rw [q, hI1] at hg1; cases hg1
      have hneP : cStatics ≠ P := fun q => by rw [q, hP] at hS; cases hS
      exact ⟨oS, up _ _ hne (hx3 _ _ hneP (kpI _ _ hg1))⟩
    · rw [List.lookup_cons] at e
      cases qz : z == x with
      | true => rw [qz] at e; cases e; rw [eq_of_beq qz]; exact ⟨v, hm2, rvy.mono tks⟩
      | false => rw [qz] at e; simp at e
    · subst hv'
      cases r'
      exact ⟨⟨y, hy, rfl⟩, h', tk', rfl, R'.rh.keep⟩
  · have hpass : passing (fun _ => true) cvs.toArray.size 0 = List.range cvs.toArray.size := by simp [passing]
    rw [hpass, List.length_range, hlen] at W
    rw [hlen] at St5
    refine hQ aa _ _ _ _ _ _ W.of_in1.of_in1.of_in1 St5 (fun j v hj => ?_) fun s' hmv => ?_
    · obtain ⟨i, hi, z, hz, e⟩ := hj
      have : i = j := by
        have := List.getElem?_eq_some_iff.mp hi
        obtain ⟨_, e2⟩ := this
        simpa using e2.symm
      subst this
      exact ⟨z, hz, e⟩
    · have hC : h3.get? h3.objs.size = none := get_size_none h3
      have kp15 : ∀ b o, b ≠ P → h1.get? b = some o → s'.heap.get? b = some o := fun b o hb e => by
        have h3b := hx3 b o hb (kpI _ _ e)
        refine hmv.heap b o (fun hm => ?_) (kp5 _ _ h3b)
        rcases List.mem_cons.mp hm with q | hm
        · rw [q] at h3b; exact absurd h3b (by rw [hC]; exact fun h => nomatch h)
        · rw [List.mem_singleton.mp hm, hI1] at e; cases e
      have tks : TK h1 s'.heap := fun b cc nn e => kp15 b _ (fun q => by rw [q, tab1.1] at e; cases e) e
      refine ⟨s'.heap, s'.toks, s'.gens, #[rawInt gpos.line, rawInt gpos.col, .ref c'], ?_, R1.but (wr := [P]) (fun b o hb e => kp15 b o (by simpa using hb) e) (fun b hb => by rw [List.mem_singleton.mp hb]; exact ⟨hP, hPL, off1⟩) tks, t1.trans tks, AllBare.onlyQ hmv.gens (hG1.push hbare), ?_⟩
      · obtain ⟨hh, gg, dd, tt, oo⟩ := s'
        have e1 : dd = s.drawn := hmv.drawn
        have e2 : oo = s.os := hmv.os
        subst e1 e2
        rfl
      · have h3P := tab3.2
        refine ⟨hmv.heap P _ (fun hm => ?_) (kp5 _ _ h3P), ?_⟩
        · rcases List.mem_cons.mp hm with q | hm
          · rw [q] at h3P; exact absurd h3P (by rw [hC]; exact fun h => nomatch h)
          · exact hPI (List.mem_singleton.mp hm)
        · obtain ⟨_, _, _, _, _, _, _, _, _, op, _, _, _, _, _, _, _, hop, hpd, htr, _⟩ := ic3
          exact htr

variable (prog w Bs) in
def EvStG (P : Addr) (ps : Array Value) (k : Nat) (L : Addr) (t : Sem Flow) (m : Env') (σ : St) (Q : Fl → Env' → St → Array Value → Prop) : Prop :=
  ∀ (A : Around) (g : Heap) (s : Shared) (Qc : Flow → Shared → Prop) (Ec : Value → Shared → Prop), AOk k A → (∀ b o, Bs.get? b = some o → g.get? b = some o) → g.get? L = none → g.get? P = none → P ≠ L → TabIs s.heap P ps → (∀ p ∈ σ, p.1 ≠ P) → AllBare s.gens → Rel prog w g L m σ s.heap →
    (∀ c f m' σ' h' tk gn more, Q f m' σ' (ps ++ more) → Rel prog w g L m' σ' h' → FR h' c f → TK s.heap h' → AllBare gn → TabIs h' P (ps ++ more) → (∀ p ∈ σ', p.1 ≠ P) → Qc c { s with heap := h', toks := tk, gens := gn }) →
    wpAny (model prog w) A t Qc Ec s
theorem EvSt.toG {t : Sem Flow} {Q : Fl → Env' → St → Array Value → Prop} (h : EvSt prog w Bs k L t m σ fun f m' σ' => Q f m' σ' ps) : EvStG prog w Bs P ps k L t m σ Q := by
  intro A g s Qc Ec hA hB hL hP hPL tab off hG R hQ
  have gP : (mask s.heap (L :: σ.map (·.1))).get? P = s.heap.get? P := mask_out fun hm => by
    rcases List.mem_cons.mp hm with e | hm
    · exact hPL e
    · obtain ⟨p, hp, e⟩ := List.mem_map.mp hm
      exact off p hp e
  have le := R.le_mask hL
  refine h A _ s Qc Ec hA (fun b o e => le b o (hB b o e)) (mask_in (.head _)) (R.masked hL) fun cv f m' σ' h' tk hq R' fr t => ?_
  have hP' : h'.get? P = some { cls := .none, data := .fields ps } := R'.rh.keep _ _ (by rw [gP]; exact tab.1)
  exact hQ cv f m' σ' h' tk s.gens #[] (by simpa using hq) (R'.less R.rh.st le) fr t hG ⟨by simpa using hP', by simpa using tab.2⟩ fun q hq e => by
    have := (R'.rh.own q hq).1
    rw [e, gP, tab.1] at this; cases this
theorem evsG_cons {st : Stmt} {rest : List Stmt} {Q : Fl → Env' → St → Array Value → Prop}
    (h : EvStG prog w Bs P ps k env.locals (exec st env) m σ fun f m1 σ1 p1 => match f with | .next => EvStG prog w Bs P p1 k env.locals (execs rest env) m1 σ1 Q | f => Q f m1 σ1 p1) : EvStG prog w Bs P ps k env.locals (execs (st :: rest) env) m σ Q :=
  fun A g s Qc Ec hA hB hL hP hPL tab off hG R hQ => wpAny_execs_cons (h A g s _ _ hA hB hL hP hPL tab off hG R fun c f m1 σ1 h1 tk gn more hq R1 e t hG1 tab1 off1 => by
    cases e with
    | next => exact hq A g _ _ _ hA hB hL hP hPL tab1 off1 hG1 R1 fun c v m' σ' h' tk gn' more' hq R' p t' hG' tab' off' => hQ c v m' σ' h' tk gn' (more ++ more') (by rw [← Array.append_assoc]; exact hq) R' p (t.trans t') hG' (by rw [← Array.append_assoc]; exact tab') off'
    | brk => exact hQ _ _ m1 σ1 h1 tk gn more hq R1 .brk t hG1 tab1 off1
    | cont => exact hQ _ _ m1 σ1 h1 tk gn more hq R1 .cont t hG1 tab1 off1
    | ret r => exact hQ _ _ m1 σ1 h1 tk gn more hq R1 (.ret r) t hG1 tab1 off1)
end
end Mine

set_option Elab.async false
set_option linter.unusedVariables false
set_option maxRecDepth 100000
namespace Mine
open PySem PyProof.Rows PySem.Calls PySem.W PySem.Spec

section
variable {prog : Program} {w : World} {Bs : Heap} {k : Nat} {σ : St} {P : Addr} {ps : Array Value} {mg mb : Str → Option Value} {vs : List V}
end

-- the glue, with a table
section
variable {prog p : Program} {w : World} {h : Heap} {l P : Addr} {cvs : List Value} {n : Nat} {mg mb : Str → Option Value} {loose : List Str} {mean : ExcName → Option Value}
theorem mask2 {b : Addr} {o : Obj} (ho : h.get? l = some (lstO cvs n)) (hP : h.get? P = some { cls := .none, data := .fields #[] }) (hb : h.get? b = some o) (h1 : ∀ c k, o.data = .seq c k → o.cls ≠ .type "list") (h2 : o.data ≠ .fields #[]) : (mask h [l, P]).get? b = some o := by
  rw [mask_out]
  · exact hb
  · intro hm
    rcases List.mem_cons.mp hm with e | hm
    · rw [e, ho] at hb; cases hb; exact h1 _ _ rfl rfl
    · rw [List.mem_singleton.mp hm, hP] at hb; cases hb; exact h2 rfl
theorem ns_mask2 {a : Addr} {m : Str → Option Value} (ho : h.get? l = some (lstO cvs n)) (hP : h.get? P = some { cls := .none, data := .fields #[] }) (x : h.Ns a m) : (mask h [l, P]).Ns a m := by
  obtain ⟨o, es, ep, h1, h2, r⟩ := x
  exact ⟨o, es, ep, mask2 ho hP h1 (fun c k e => by rw [h2] at e; cases e) (fun e => by rw [h2] at e; cases e), h2, r⟩
theorem ctx_mask2 (ho : h.get? l = some (lstO cvs n)) (hP : h.get? P = some { cls := .none, data := .fields #[] }) (T : Top p loose mean mg mb h) : Ctx (mask h [l, P]) mg mb where
  g := ns_mask2 ho hP T.g
  b := ns_mask2 ho hP T.b
  lim := let ⟨mc, a, b⟩ := T.nolimit; ⟨mc, ns_mask2 ho hP a, b⟩
theorem fn_mask2 (ho : h.get? l = some (lstO cvs n)) (hP : h.get? P = some { cls := .none, data := .fields #[] }) (T : Top p loose mean mg mb h) {fn : Str} {d : DefRec} (hd : d ∈ recsOf p) (hn : d.name = fn) : ∃ f pm code doc, FnAt (mask h [l, P]) mg fn d f pm code doc := by
  obtain ⟨a, o, pm, code, doc, h1, h2, h3, c, co, vs, t, h4, h5, h6, h7⟩ := T.fn d hd
  exact ⟨a, pm, code, doc, hn, h1, ⟨o, mask2 ho hP h2 (fun c k e => by rw [h3] at e; cases e) (fun e => by rw [h3] at e; cases e), h3⟩, c, co, vs, t, h4, mask2 ho hP h5 (fun c k e => by rw [h6] at e; cases e) (fun e => by rw [h6] at e; injection e with e; rw [e] at h7; simp at h7), h6, h7⟩
theorem bi_mask2 (ho : h.get? l = some (lstO cvs n)) (hP : h.get? P = some { cls := .none, data := .fields #[] }) (T : Top p loose mean mg mb h) {x : Str} {v : Value}
    (hx : x ∉ startupNames ∧ x ∉ loose ∧ x ∉ (recsOf p).map (·.name) ∧ x ∉ (litsOf p).map (·.1) ∧ x ∉ (clssOf p loose).map (·.name)) (hn : x ≠ "__name__") (hv : bootBuiltins x = some v) : BIs (mask h [l, P]) mg mb x v :=
  ⟨ctx_mask2 ho hP T, T.free x hx.1 hx.2.1 hx.2.2.1 hx.2.2.2.1 hx.2.2.2.2, (T.builtins x hn).trans hv⟩
theorem bmain_mask2 (ho : h.get? l = some (lstO cvs n)) (hP : h.get? P = some { cls := .none, data := .fields #[] }) (T : Top p loose mean mg mb h) : BMain (mask h [l, P]) mg := by
  obtain ⟨bm, ob, h1, h2, h3, h4, h5, h6⟩ := T.bmain
  exact ⟨bm, ob, h1, h2, mask2 ho hP h3 (fun c k e => by rw [h6] at e; cases e) (fun e => by rw [h6] at e; cases e), h4, h5, h6⟩
/-- the code of a def, and its table -/
theorem tab_of (T : Top p loose mean mg mb h) {d : DefRec} (hd : d ∈ recsOf p) : ∃ c P, h.IsCode c P #[] ∧ h.TableAt c P #[] ∧ ∀ a o fd, mg d.name = some (.ref a) → h.get? a = some o → o.data = .func fd → fd.code = .ref c := by
  obtain ⟨a, o, fd, c, P, h1, h2, h3, h4, h5, h6⟩ := T.tab d hd
  refine ⟨c, P, h5, h6, fun a' o' fd' g1 g2 g3 => ?_⟩
  rw [h1] at g1
  cases g1
  rw [h2] at g2
  cases g2
  rw [h3] at g3
  cases g3
  exact h4
theorem codeAt_mask2 {c : Addr} (ho : h.get? l = some (lstO cvs n)) (ic : h.IsCode c P #[]) (tc : h.TableAt c P #[]) : CodeAt (mask h [l, P]) c P := by
  obtain ⟨o, vs, file, tf, flags, tg, inF, text, tt, op, h1, h2, h3, h4, h5, h6, h7, h8, h9, h10, h11⟩ := ic
  obtain ⟨⟨o', vs', k1, k2, k3, k4⟩, k5⟩ := tc
  rw [h1] at k1; cases k1
  rw [h2] at k3; cases k3
  refine ⟨⟨o, vs, file, tf, flags, tg, inF, text, tt, mask2 ho k5 h1 (fun c k e => by rw [h2] at e; cases e) (fun e => by rw [h2] at e; injection e with e; rw [e] at k4; simp at k4), k2, h2, k4, h4, h5, h6, h7⟩, h11⟩
end
end Mine

set_option Elab.async false
set_option linter.unusedVariables false
set_option maxRecDepth 100000
namespace Mine
open PySem PyProof.Rows PySem.Calls PySem.W PySem.Spec

section
variable {prog : Program} {w : World} {Bs : Heap} {k : Nat} {env : Env} {m : Env'} {σ : St} {g h h' : Heap} {L a c d P : Addr} {ob : O} {vs : List V} {ps : Array Value} {mg mb : Str → Option Value}

-- and, as a value, whose last may grow the table
end
end Mine

set_option Elab.async false
set_option linter.unusedVariables false
set_option maxRecDepth 100000
namespace Mine
open PySem PyProof.Rows PySem.Calls PySem.W PySem.Spec

/-- the frames below: nobody else's, and dicts -/
def Frs (fs : List Env) (g : Heap) (σ : St) (h : Heap) : Prop := ∀ env ∈ fs, env.scope.kind ≠ .module ∧ ∃ L o es n, env.frame = some L ∧ g.get? L = none ∧ (∀ p ∈ σ, p.1 ≠ L) ∧ h.get? L = some o ∧ o.data = .dict es n
/-- the frames below are as they were, but for their slots -/
def UpS (fs : List Env) (h h' : Heap) : Prop := ∀ env ∈ fs, ∀ L, env.frame = some L → ∀ o, h.get? L = some o → ∃ sl, h'.get? L = some { o with slots := sl }
def fAdr (fs : List Env) : List Addr := fs.filterMap (·.frame)

section
variable {prog : Program} {w : World} {Bs : Heap} {k : Nat} {env : Env} {m : Env'} {σ σ' : St} {g g' h h' h'' : Heap} {L a d e : Addr} {fs : List Env} {cls : String} {av : V}
theorem UpS.refl : UpS fs h h := fun _ _ _ _ o e => ⟨o.slots, e⟩
theorem UpS.trans (x : UpS fs h h') (y : UpS fs h' h'') : UpS fs h h'' := fun en he L hL o ho => let ⟨_, e1⟩ := x en he L hL o ho; let ⟨sl, e2⟩ := y en he L hL _ e1; ⟨sl, e2⟩
theorem UpS.of_keep (k : ∀ b o, h.get? b = some o → h'.get? b = some o) : UpS fs h h' := fun _ _ L _ o ho => ⟨o.slots, k L o ho⟩
theorem Frs.mem {b : Addr} (F : Frs fs g σ h) (hb : b ∈ fAdr fs) : g.get? b = none ∧ (∀ p ∈ σ, p.1 ≠ b) ∧ ∃ o es n, h.get? b = some o ∧ o.data = .dict es n := by
  obtain ⟨en, hen, hf⟩ := List.mem_filterMap.mp hb
  obtain ⟨_, L, o, es, n, h1, h2, h3, h4, h5⟩ := F en hen
  rw [h1] at hf; cases hf
  exact ⟨h2, h3, o, es, n, h4, h5⟩
theorem Frs.move (F : Frs fs g σ h) (u : UpS fs h h') : Frs fs g σ h' := fun en hen => by
  obtain ⟨k, L, o, es, n, h1, h2, h3, h4, h5⟩ := F en hen
  obtain ⟨sl, e⟩ := u en hen L h1 o h4
  exact ⟨k, L, _, es, n, h1, h2, h3, e, h5⟩
theorem Frs.sub (F : Frs fs g σ h) (s : ∀ p ∈ σ', p ∈ σ) : Frs fs g σ' h := fun en hen => by
  obtain ⟨k, L, o, es, n, h1, h2, h3, h4, h5⟩ := F en hen
  exact ⟨k, L, o, es, n, h1, h2, fun p hp => h3 p (s p hp), h4, h5⟩
/-- objects of a ledger that lies over a heap with the frames -/
theorem Frs.over {σ' : St} (F : Frs fs g σ h) (h0 : ∀ b ∈ fAdr fs, ∀ o, h.get? b = some o → g'.get? b = some o) (R' : RH prog w g' σ' h') : Frs fs g σ' h' := fun en hen => by
  obtain ⟨k, L, o, es, n, h1, h2, h3, h4, h5⟩ := F en hen
  have hg' := h0 L (List.mem_filterMap.mpr ⟨en, hen, h1⟩) o h4
  refine ⟨k, L, o, es, n, h1, h2, fun p hp q => ?_, R'.keep _ _ hg', h5⟩
  have := (R'.own p hp).1
  rw [q, hg'] at this; cases this

/-- what a raise does to the heap: some places S may change, and slots -/
def Moves (S : List Addr) (h h' : Heap) : Prop := (∀ b o, b ∉ S → h.get? b = some o → h'.get? b = some o) ∧ h.UpToSlots h'
theorem Moves.tk {S : List Addr} (M : Moves S h h') (hS : ∀ b ∈ S, ∀ c n, h.get? b ≠ some (tupO c n)) : TK h h' := fun a c n e => M.1 a _ (fun hm => hS a hm c n e) e
theorem RH.moves {S : List Addr} (R : RH prog w g σ h) (M : Moves S h h') (tk : TK h h') (hS : ∀ b ∈ S, g.get? b = none ∧ ∀ p ∈ σ, p.1 ≠ b) : RH prog w g σ h' :=
  ⟨fun b o e => M.1 b o (fun hm => by rw [(hS b hm).1] at e; cases e) (R.keep b o e), R.nd, fun p hp => let ⟨h1, o, h2, h3⟩ := R.own p hp; ⟨h1, o, M.1 _ _ (fun hm => (hS _ hm).2 p hp rfl) h2, h3.mono _ _ tk⟩, R.st, R.low⟩
theorem Rel.moves {S : List Addr} (R : Rel prog w g L m σ h) (M : Moves S h h') (tk : TK h h') (hS : ∀ b ∈ S, g.get? b = none ∧ ∀ p ∈ σ, p.1 ≠ b) : Rel prog w g L m σ h' := by
  obtain ⟨mc, hn, hv⟩ := R.ns
  exact ⟨R.rh.moves M tk hS, ⟨mc, M.2.ns hn, fun x v e => let ⟨cv, a, b⟩ := hv x v e; ⟨cv, a, b.mono tk⟩⟩, R.offS⟩
theorem UpS.moves {S : List Addr} (F : Frs fs g σ h) (M : Moves S h h') : UpS fs h h' := fun en hen L hL o ho => by
  obtain ⟨k, L', o', es, n, h1, h2, h3, h4, h5⟩ := F en hen
  rw [hL] at h1; cases h1
  rw [ho] at h4; cases h4
  exact M.2 L o ho fun vs q => by rw [h5] at q; cases q

/-- own frame and those below -/
theorem Rel.frs (R : Rel prog w g L m σ h) (hL : g.get? L = none) (hf : env.frame = some L) (hk : env.scope.kind = .function) (F : Frs fs g σ h) : Frs (env :: fs) g σ h := fun en hen => by
  rcases List.mem_cons.mp hen with rfl | hen
  · obtain ⟨mc, ⟨o, es, n, ho, hd, _⟩, _⟩ := R.ns
    exact ⟨by rw [hk]; decide, L, o, es, n, hf, hL, R.offS, ho, hd⟩
  · exact F en hen
theorem Frs.fun_ {S : List Addr} (F : Frs fs g σ h) (hS : ∀ b ∈ fAdr fs, b ∈ S) : h.FunFrames (mask h S) fs := by
  induction fs with
  | nil => exact trivial
  | cons en fs ih =>
    obtain ⟨k, L, o, es, n, h1, h2, h3, h4, h5⟩ := F en (.head _)
    refine ⟨k, ⟨L, o, h1, mask_in (hS L (by simp [fAdr, h1])), h4, fun vs q => by rw [h5] at q; cases q⟩, ih (fun e he => F e (.tail _ he)) fun b hb => hS b ?_⟩
    obtain ⟨e', he', hf'⟩ := List.mem_filterMap.mp hb
    exact List.mem_filterMap.mpr ⟨e', .tail _ he', hf'⟩
end
end Mine

set_option Elab.async false
set_option linter.unusedVariables false
set_option maxRecDepth 100000
namespace Mine
open PySem PyProof.Rows PySem.Calls PySem.W PySem.Spec

section
variable (prog : Program) (w : World) (Bs : Heap)
end

section
variable {prog : Program} {w : World} {Bs : Heap} {k : Nat} {env : Env} {m : Env'} {σ σ' : St} {g g' h h' h'' : Heap} {L a d e : Addr} {fs : List Env} {cls : String} {av : V} {vs : List V} {mg mb : Str → Option Value}

-- statements
-- try
end
-- the glue
section
variable {prog p : Program} {w : World} {h : Heap} {l : Addr} {cvs : List Value} {n : Nat} {mg mb : Str → Option Value} {loose : List Str} {mean : ExcName → Option Value}
end
end Mine

set_option Elab.async false
set_option linter.unusedVariables false
set_option maxRecDepth 100000
namespace Mine
open PySem PySem.NumText Builtin Builtin.Str PySem.StrLaws

theorem sub_one (x : Str) (c : Nat) : subAt x ⟨#[c]⟩ 0 = decide (x.cps.toList.head? = some c) := by
  obtain ⟨⟨l⟩⟩ := x
  unfold subAt
  cases l with
  | nil => rfl
  | cons a r =>
    show ((Array.mk (a :: r)).extract 0 (0 + 1) == #[c]) = _
    rw [Bool.eq_iff_iff]
    simp
theorem starts_minus (x : Str) : Txt.startswith x "-" = decide (x.cps.toList.head? = some 45) := by
  unfold Txt.startswith
  have h := sub_one x 45
  have e : (("-" : Str)) = ⟨#[45]⟩ := rfl
  rw [e, h]
  obtain ⟨⟨l⟩⟩ := x
  cases l with
  | nil => rfl
  | cons a r => simp [Str.length]
theorem remove_minus (x : Str) : (Txt.removeprefix x "-").cps.toList = if x.cps.toList.head? = some 45 then x.cps.toList.drop 1 else x.cps.toList := by
  rw [removeprefix_eq]
  have h := starts_minus x
  unfold Txt.startswith at h
  rw [h]
  by_cases h0 : x.cps.toList.head? = some 45
  · rw [if_pos (decide_eq_true h0), if_pos h0]
    show ((x.cps.toList.drop 1).take (x.length - 1)) = _
    exact List.take_of_length_le (by simp [Str.length])
  · rw [if_neg (by rw [decide_eq_false h0]; simp), if_neg h0]
theorem filterMap_range (l : List Nat) : ∀ (n s : Nat), ((List.range n).map (s + ·)).filterMap (l[·]?) = (l.drop s).take n := by
  intro n
  induction n with
  | zero => intro s; simp
  | succ n ih =>
    intro s
    rw [List.range_succ, List.map_append, List.filterMap_append, ih s]
    rw [List.take_add_one]
    congr 1
    simp only [List.map_cons, List.map_nil, List.filterMap_cons, List.filterMap_nil, List.getElem?_drop]
    cases l[s + n]? <;> rfl
theorem slice_list (x : Str) (lo hi : Option Int) {a b : Nat} (hab : strSliceIndices lo hi 1 x.length = (List.range (b - a)).map (a + ·)) (hb : b ≤ x.length) : (Txt.slice x lo hi).cps.toList = (x.cps.toList.drop a).take (b - a) := by
  unfold Txt.slice
  rw [hab]
  split
  · rename_i h
    have hlen : b - a = x.length := by simpa using h
    have ha : a = 0 ∨ x.length = 0 := by omega
    have hl : x.cps.toList.length = x.length := by simp [Str.length]
    rcases ha with rfl | h0
    · rw [List.drop_zero, List.take_of_length_le (by omega)]
    · have : x.cps.toList = [] := List.length_eq_zero_iff.mp (by omega)
      rw [this]; simp
  · show (List.filterMap _ _).toArray.toList = _
    have := filterMap_range x.cps.toList (b - a) a
    simpa using this
theorem ind_take (n : Nat) (j : Nat) : strSliceIndices none (some (j : Int)) 1 n = (List.range (min j n - 0)).map (0 + ·) := by
  unfold strSliceIndices
  have e : (if (j : Int) < 0 then (j : Int) + n else (j : Int)) = j := if_neg (by omega)
  simp only [show (1 : Int) > 0 by decide, if_true, e]
  rw [show max 0 (min (j : Int) (n : Int)) = ((min j n : Nat) : Int) by omega]
  have := sliceRange_one 0 (min j n)
  simpa using this
theorem slice_take (x : Str) (j : Nat) : (Txt.slice x none (some (j : Int))).cps.toList = x.cps.toList.take j := by
  rw [slice_list x none (some (j : Int)) (ind_take x.length j) (by omega)]
  have hl : x.cps.toList.length = x.length := by simp [Str.length]
  rw [List.drop_zero, Nat.sub_zero, ← hl]
  rw [List.take_eq_take_iff]
  omega
theorem digit_small : ∀ c : Fin 128, Unicode.isDigit c.1 = decide (48 ≤ c.1 ∧ c.1 ≤ 57) := by decide +kernel
theorem ascii_digits (x : Str) : (Txt.isascii x && Txt.isdigit x) = true ↔ x.cps.toList ≠ [] ∧ AllDigits x.cps.toList := by
  unfold Txt.isascii Txt.isdigit AllDigits
  rw [Bool.and_eq_true, Bool.and_eq_true, ← Array.all_toList, ← Array.all_toList, List.all_eq_true, List.all_eq_true, decide_eq_true_eq]
  have hl : x.cps.toList.length = x.length := by simp [Str.length]
  constructor
  · rintro ⟨h1, h2, h3⟩
    refine ⟨fun e => by rw [e] at hl; simp at hl; omega, fun c hc => ?_⟩
    have hc1 : c < 128 := of_decide_eq_true (h1 c hc)
    have := h3 c hc
    rw [digit_small ⟨c, hc1⟩] at this
    exact of_decide_eq_true this
  · rintro ⟨h1, h2⟩
    refine ⟨fun c hc => decide_eq_true (by have := h2 c hc; omega), ?_, fun c hc => ?_⟩
    · cases h : x.cps.toList with
      | nil => exact absurd h h1
      | cons a r => rw [h] at hl; simp at hl; omega
    · have := h2 c hc
      rw [digit_small ⟨c, by omega⟩]
      exact decide_eq_true this
theorem lstrip_zero (x : Str) : (Txt.lstripChars x "0").cps.toList = x.cps.toList.dropWhile (fun c => c == 48) := by
  have hl : x.cps.toList.length = x.length := by simp [Str.length]
  have hg : (("0" : Str).cps.contains : Nat → Bool) = fun c => c == 48 := by
    funext c
    show (#[48] : Array Nat).contains c = _
    rw [Bool.eq_iff_iff]; simp
  unfold Txt.lstripChars Txt.stripBy stripSame stripped stripLo stripHi
  rw [hg]
  simp only [if_true, Bool.false_eq_true, if_false, beq_self_eq_true, Bool.and_true]
  have key : x.cps.toList.drop (x.cps.toList.takeWhile (fun c => c == 48)).length = x.cps.toList.dropWhile (fun c => c == 48) := by
    have := List.takeWhile_append_dropWhile (p := fun c => c == 48) (l := x.cps.toList)
    have h2 := congrArg (List.drop (x.cps.toList.takeWhile (fun c => c == 48)).length) this
    rw [List.drop_left] at h2
    exact h2.symm
  split
  · rename_i h
    have h' : (x.cps.toList.takeWhile (fun c => c == 48)).length = 0 := by simpa using h
    rw [← key, h', List.drop_zero]
  · rw [strSub_toList, key]
    exact List.take_of_length_le (by rw [← key, List.length_drop]; omega)
theorem digitsVal_zeros : ∀ (l : List Nat), digitsVal (l.dropWhile (fun c => c == 48)) = digitsVal l
  | [] => rfl
  | c :: l => by
    rw [List.dropWhile_cons]
    split
    · rename_i h
      have : c = 48 := by simpa using h
      rw [digitsVal_zeros l, this]; rfl
    · rfl
theorem foldl_ge : ∀ (l : List Nat) (a : Nat), a * 10 ^ l.length ≤ l.foldl (fun acc c => acc * 10 + (c - 48)) a
  | [], a => by simp
  | c :: l, a => by
    have := foldl_ge l (a * 10 + (c - 48))
    rw [List.foldl_cons, List.length_cons, Nat.pow_succ]
    refine Nat.le_trans ?_ this
    rw [Nat.mul_comm (10 ^ l.length) 10, ← Nat.mul_assoc]
    exact Nat.mul_le_mul_right _ (by omega)
theorem digitsVal_big {l : List Nat} (h : AllDigits l) (hl : 19 < (l.dropWhile (fun c => c == 48)).length) : 10 ^ 19 ≤ digitsVal l := by
  rw [← digitsVal_zeros]
  have hm : ∀ c ∈ l.dropWhile (fun c => c == 48), 48 ≤ c ∧ c ≤ 57 := fun c hc => h c ((List.dropWhile_suffix _).subset hc)
  have hh : ∀ c r, l.dropWhile (fun c => c == 48) = c :: r → c ≠ 48 := fun c r e => by
    have := List.head?_dropWhile_not (fun c => c == 48) l
    rw [e] at this
    simpa using this
  cases e : l.dropWhile (fun c => c == 48) with
  | nil => rw [e] at hl; simp at hl
  | cons c r =>
    rw [e] at hl hm
    have h1 := hm c (.head _)
    have h2 := hh c r e
    have := foldl_ge r (0 * 10 + (c - 48))
    show 10 ^ 19 ≤ r.foldl _ (0 * 10 + (c - 48))
    refine Nat.le_trans ?_ this
    have h3 : 10 ^ 19 ≤ 10 ^ r.length := Nat.pow_le_pow_right (by decide) (by simp at hl; omega)
    have h4 : 1 * 10 ^ r.length ≤ (0 * 10 + (c - 48)) * 10 ^ r.length := Nat.mul_le_mul_right _ (by omega)
    omega
/-- behind the sign -/
def bodyOf (cs : List Nat) : List Nat := if cs.head? = some 45 then cs.drop 1 else cs
def signOf (cs : List Nat) : Int := if cs.head? = some 45 then -1 else 1
theorem ad_pos {α : Type} {l : List Nat} {a b : α} (h : AllDigits l) : (if ∀ c ∈ l, 48 ≤ c ∧ c ≤ 57 then a else b) = a := if_pos h
theorem ad_neg {α : Type} {l : List Nat} {a b : α} (h : ¬ AllDigits l) : (if ∀ c ∈ l, 48 ≤ c ∧ c ≤ 57 then a else b) = b := if_neg h
/-- what a text is worth, or none -/
def dueO (cs : List Nat) : Option Int := if bodyOf cs = [] then none else if ∀ c ∈ bodyOf cs, 48 ≤ c ∧ c ≤ 57 then (if 10 ^ 18 < digitsVal (bodyOf cs) then none else some (signOf cs * (digitsVal (bodyOf cs) : Nat))) else none
end Mine

set_option Elab.async false
set_option linter.unusedVariables false
set_option maxRecDepth 100000
namespace Mine
open PySem Builtin Builtin.Str

-- ascii(text), by a copy of the model's own escape that is the same by unfolding
def hexD (n width : Nat) : List Nat :=
  let ds := (Nat.toDigits 16 n).map Char.toNat
  List.replicate (width - ds.length) 48 ++ ds
def aEsc (c : Nat) : List Nat :=
  if c < 128 then [c]
  else if c < 256 then [92, 120] ++ hexD c 2
  else if c < 65536 then [92, 117] ++ hexD c 4
  else [92, 85] ++ hexD c 8
theorem aEsc_len (c : Nat) (hc : c < 16 ^ 8) : (aEsc c).length ≤ 10 := by
  have h8 := StrLaws.hex_len (w := 8) (by decide) hc
  have h4 (h : c < 16 ^ 4) := StrLaws.hex_len (w := 4) (by decide) h
  have h2 (h : c < 16 ^ 2) := StrLaws.hex_len (w := 2) (by decide) h
  unfold aEsc
  split
  · simp
  split
  · rename_i h
    have := h2 (by simpa using h)
    unfold hexD
    simp only [List.length_append, List.length_cons, List.length_nil] at this ⊢
    omega
  split
  · rename_i h
    have := h4 (by simpa using h)
    unfold hexD
    simp only [List.length_append, List.length_cons, List.length_nil] at this ⊢
    omega
  · unfold hexD
    simp only [List.length_append, List.length_cons, List.length_nil] at h8 ⊢
    omega
theorem kind_ascii : builtinKind "ascii" = none := by decide +kernel
theorem plain_ascii : plainId "ascii" = true := by decide +kernel
theorem entry_ascii : entryFor table "ascii" = some Builtin.«ascii» := entryFor_of_fast (by kernel_rfl)
theorem args_ascii (a : Value) : argsOk "ascii" ⟨[a], []⟩ := by unfold argsOk; kernel_rfl
theorem flat_len {f : Nat → List Nat} : ∀ (l : List Nat), (∀ c ∈ l, (f c).length ≤ 10) → (l.flatMap f).length ≤ 10 * l.length
  | [], _ => by simp
  | c :: l, h => by
    have := flat_len l fun d hd => h d (.tail _ hd)
    have h1 := h c (.head _)
    simp only [List.flatMap_cons, List.length_append, List.length_cons]
    omega
/-- the code points of a text's repr -/
theorem repr_small (x : Str) (hx : ∀ c ∈ x.cps.toList, c < 16 ^ 8) : ∀ c ∈ (reprText x).cps.toList, c < 16 ^ 8 := by
  have hq : reprQuote x < 16 ^ 8 := by unfold reprQuote; split <;> decide
  have hd : ∀ (k fuel n : Nat) (ds : List Char), (∀ ch ∈ ds, ch.toNat < 128) → ∀ ch ∈ Nat.toDigitsCore 16 fuel n ds, ch.toNat < 128 := by
    intro k fuel
    induction fuel with
    | zero => intro n ds h ch hch; exact h ch (by simpa [Nat.toDigitsCore] using hch)
    | succ fuel ih =>
      intro n ds h ch hch
      have h16 : ∀ r : Fin 16, (Nat.digitChar r.1).toNat < 128 := by decide
      have h2 : ∀ ch ∈ Nat.digitChar (n % 16) :: ds, ch.toNat < 128 := fun ch hch => by
        rcases List.mem_cons.mp hch with rfl | hch
        · exact h16 ⟨n % 16, Nat.mod_lt _ (by decide)⟩
        · exact h ch hch
      unfold Nat.toDigitsCore at hch
      dsimp only at hch
      split at hch
      · exact h2 ch hch
      · exact ih _ _ h2 ch hch
  have hhex : ∀ c w d, d ∈ (List.replicate (w - ((Nat.toDigits 16 c).map Char.toNat).length) 48 ++ (Nat.toDigits 16 c).map Char.toNat) → d < 128 := by
    intro c w d h
    rcases List.mem_append.mp h with h | h
    · rw [List.eq_of_mem_replicate h]; decide
    · obtain ⟨ch, hch, rfl⟩ := List.mem_map.mp h
      exact hd 0 _ _ [] (by simp) ch hch
  have hr : ∀ q c, q < 16 ^ 8 → c < 16 ^ 8 → ∀ d ∈ reprChar q c, d < 16 ^ 8 := by
    intro q c hq hc d hd
    have b128 : ∀ d, d < 128 → d < 16 ^ 8 := fun d h => Nat.lt_trans h (by decide)
    unfold reprChar at hd
    dsimp only at hd
    repeat' split at hd
    all_goals first
      | (simp only [List.mem_cons, List.not_mem_nil, or_false] at hd; rcases hd with rfl | rfl <;> first | exact hc | decide)
      | (simp only [List.mem_cons, List.not_mem_nil, or_false] at hd; subst hd; exact hc)
      | (rcases List.mem_append.mp hd with hd | hd
         · simp only [List.mem_cons, List.not_mem_nil, or_false] at hd; rcases hd with rfl | rfl <;> decide
         · exact b128 _ (hhex _ _ _ hd))
  have hf : ∀ (l : List Nat) (acc : Array Nat), (∀ c ∈ l, c < 16 ^ 8) → (∀ c ∈ acc.toList, c < 16 ^ 8) → ∀ c ∈ (l.foldl (fun out c => out ++ (reprChar (reprQuote x) c).toArray) acc).toList, c < 16 ^ 8 := by
    intro l
    induction l with
    | nil => intro acc _ h; exact h
    | cons c l ih =>
      intro acc h1 h2
      refine ih _ (fun d hd => h1 d (.tail _ hd)) fun d hd => ?_
      rw [Array.toList_append] at hd
      rcases List.mem_append.mp hd with hd | hd
      · exact h2 d hd
      · exact hr _ _ hq (h1 c (.head _)) d (by simpa using hd)
  intro c hc
  unfold reprText at hc
  have hc' : c ∈ ((x.cps.foldl (fun out c => out ++ (reprChar (reprQuote x) c).toArray) #[reprQuote x]).push (reprQuote x)).toList := hc
  rw [Array.toList_push, ← Array.foldl_toList] at hc'
  rcases List.mem_append.mp hc' with hc' | hc'
  · exact hf _ _ hx (by intro d hd; simp at hd; rw [hd]; exact hq) c hc'
  · simp at hc'; rw [hc']; exact hq
section
variable {prog : Program} {w : World} {A : Around} {E : Value → Shared → Prop} {s : Shared} {x : Str} {t : Tok} {Q : Value → Shared → Prop}
theorem call_ascii (hx : x.length ≤ 100) (hc : ∀ c ∈ x.cps.toList, c < 16 ^ 8) (h : ∀ y t' k, y.length ≤ 20000 → Q (.str y t') { s with toks := k }) : wpAny (model prog w) A (call (.builtin "ascii") [.str x t]) Q E s := by
  have hl := StrLaws.reprText_len x hc
  have hs := repr_small x hc
  refine call_function_tree kind_ascii plain_ascii entry_ascii (args_ascii _) ?_
  unfold Builtin.«ascii»
  refine wpAny_bind (m := oneArg "ascii" _) (wpAny_pure ?_)
  have hv : [Value.str x t].any Value.onHeap = false := rfl
  simp only [cRoomFor, hv, Bool.false_eq_true, if_false, pure_bind]
  refine wpAny_bind (m := callSpecialIfBound? (.str x t) (Str.ofString "__repr__")) (wpAny_callSpecialIfBound?_slot (name := Str.ofString "__repr__") (typeIs_str s x t) F.slot_str_repr (call_gives F.slot_str_repr (typeIs_str _ _ _) F.entry_str_repr (F.args_str_repr_1 _) (gives_str_repr x t) ⟨by rw [sizeLine_eq]; omega, ?_⟩))
  refine wpAny_bind (wpAny_pure ?_)
  dsimp only
  cases ha : (reprText x).cps.all (· < 128)
  · simp only [Bool.false_eq_true, if_false]
    refine wpAny_bind (wpAny_letGo ?_)
    have h10 : decide (10 * (reprText x).length > sizeLine) = false := decide_eq_false (by rw [sizeLine_eq]; omega)
    rw [h10, Bool.false_and]
    simp only [Bool.false_eq_true, if_false]
    have hlen : ∀ f : Nat → Array Nat, (∀ c, f c = (aEsc c).toArray) → (Array.flatMap f (reprText x).cps).size ≤ 10 * (reprText x).length := by
      intro f hf
      have e : f = fun c => (aEsc c).toArray := funext hf
      subst e
      have h1 := flat_len (f := aEsc) (reprText x).cps.toList fun c hc' => aEsc_len c (hs c hc')
      have e2 : (Array.flatMap (fun c => (aEsc c).toArray) (reprText x).cps).toList = (reprText x).cps.toList.flatMap aEsc := by
        rw [Array.toList_flatMap]
      have e3 : (Array.flatMap (fun c => (aEsc c).toArray) (reprText x).cps).size = ((reprText x).cps.toList.flatMap aEsc).length := by
        rw [← e2, Array.length_toList]
      rw [e3]
      simpa [Str.length] using h1
    unfold retStr
    have key := hlen _ (fun c => by with_unfolding_all exact rfl)
    refine wpAny_bind (wpAny_mkStr ?_ ?_)
    · exact wpAny_pure (h _ _ _ (Nat.le_trans key (by omega)))
    · exact Nat.le_trans key (by rw [sizeLine_eq]; omega)
  · simp only [if_true]
    refine wpAny_bind (wpAny_rule (wpAny_pure (h _ _ _ (by omega))))
end
end Mine

set_option Elab.async false
set_option linter.unusedVariables false
set_option maxRecDepth 100000
namespace Mine
open PySem PyProof.Rows PySem.Calls PySem.W PySem.Spec Builtin Builtin.Str

section
variable {prog : Program} {w : World} {Bs : Heap} {k : Nat} {env : Env} {m : Env'} {σ : St} {g h h' : Heap} {L a : Addr} {ob : O} {x y : Str} {mg mb : Str → Option Value}

theorem bf_s1 {f : Value} {v : V} {Q : V → St → Prop} (h : ∀ (A : Around) (s : Shared) (t : Tok) (Qc Ec : Value → Shared → Prop), (∀ cv tk, VR s.heap cv v → Qc cv { s with toks := tk }) → wpAny (model prog w) A (call f [.str x t]) Qc Ec s) (hq : Q v σ) : EvF prog w Bs k f [.str x] σ Q := by
  intro A g s Qc Ec cvs hA hB R rs hQ
  cases rs with
  | cons r rs =>
    cases r; cases rs
    exact h A s _ Qc Ec fun cv tk rv => hQ cv v σ s.heap tk hq R rv (.refl _)
theorem bf_s2 {f : Value} {v : V} {Q : V → St → Prop} (h : ∀ (A : Around) (s : Shared) (t u : Tok) (Qc Ec : Value → Shared → Prop), (∀ cv tk, VR s.heap cv v → Qc cv { s with toks := tk }) → wpAny (model prog w) A (call f [.str x t, .str y u]) Qc Ec s) (hq : Q v σ) : EvF prog w Bs k f [.str x, .str y] σ Q := by
  intro A g s Qc Ec cvs hA hB R rs hQ
  cases rs with
  | cons r rs =>
    cases r
    cases rs with
    | cons r rs =>
      cases r; cases rs
      exact h A s _ _ Qc Ec fun cv tk rv => hQ cv v σ s.heap tk hq R rv (.refl _)
theorem bf_i1 {f : Value} {i : Int} {v : V} {Q : V → St → Prop} (h : ∀ (A : Around) (s : Shared) (t : Tok) (Qc Ec : Value → Shared → Prop), (∀ cv tk, VR s.heap cv v → Qc cv { s with toks := tk }) → wpAny (model prog w) A (call f [.int i t]) Qc Ec s) (hq : Q v σ) : EvF prog w Bs k f [.int i] σ Q := by
  intro A g s Qc Ec cvs hA hB R rs hQ
  cases rs with
  | cons r rs =>
    cases r; cases rs
    exact h A s _ Qc Ec fun cv tk rv => hQ cv v σ s.heap tk hq R rv (.refl _)
theorem bf_isascii {Q : V → St → Prop} (hq : Q (.bool (Txt.isascii x)) σ) : EvF prog w Bs k (.builtin "str.isascii") [.str x] σ Q := bf_s1 (fun A s t Qc Ec hQ => SC.isascii (hQ _ s.toks (.bool _))) hq
theorem bf_isdigit {Q : V → St → Prop} (hq : Q (.bool (Txt.isdigit x)) σ) : EvF prog w Bs k (.builtin "str.isdigit") [.str x] σ Q := bf_s1 (fun A s t Qc Ec hQ => SC.isdigit (hQ _ s.toks (.bool _))) hq
theorem bf_removeprefix {Q : V → St → Prop} (hz : x.length ≤ sizeLine) (hq : Q (.str (Txt.removeprefix x y)) σ) : EvF prog w Bs k (.builtin "str.removeprefix") [.str x, .str y] σ Q := bf_s2 (fun A s t u Qc Ec hQ => SC.removeprefix (fun t' k => hQ _ k (.str ..)) hz) hq
theorem bf_lstripc {Q : V → St → Prop} (hz : x.length ≤ sizeLine) (hq : Q (.str (Txt.lstripChars x y)) σ) : EvF prog w Bs k (.builtin "str.lstrip") [.str x, .str y] σ Q := bf_s2 (fun A s t u Qc Ec hQ => SC.lstripChars (fun t' k => hQ _ k (.str ..)) hz) hq
theorem bf_startswith {Q : V → St → Prop} (hq : Q (.bool (Txt.startswith x y)) σ) : EvF prog w Bs k (.builtin "str.startswith") [.str x, .str y] σ Q := bf_s2 (fun A s t u Qc Ec hQ => SC.startswith (hQ _ s.toks (.bool _))) hq
theorem len_fit (hz : x.length ≤ sizeLine) : ¬ (x.length : Int) ≥ 2 ^ 63 := by rw [sizeLine_eq] at hz; omega
theorem bf_len_str {Q : V → St → Prop} (hz : x.length ≤ sizeLine) (hq : Q (.int x.length) σ) : EvF prog w Bs k (.builtin "len") [.str x] σ Q := bf_s1 (fun A s t Qc Ec hQ => PyProof.Rows.len_str (len_fit hz) (hQ _ _ (.int ..))) hq
theorem bf_str_int {i : Int} {Q : V → St → Prop} (hi : i.natAbs.log2 < 1920) (hq : Q (.str (Str.ofString (toString i))) σ) : EvF prog w Bs k (.type "str") [.int i] σ Q := bf_i1 (fun A s t Qc Ec hQ => P.str_of_int hi (hQ _ _ (.str ..))) hq
theorem bf_int_str {i : Int} {Q : V → St → Prop} (hn : PySem.intText? x = some i) (hl : x.length ≤ 640) (hq : Q (.int i) σ) : EvF prog w Bs k (.type "int") [.str x] σ Q := bf_s1 (fun A s t Qc Ec hQ => KIN.call_text hn hl (hQ _ _ (.int ..))) hq
theorem bf_isint {i : Int} {Q : V → St → Prop} (hq : Q (.bool true) σ) : EvF prog w Bs k (.builtin "isinstance") [.int i, .raw (.type "int")] σ Q := by
  intro A g s Qc Ec cvs hA hB R rs hQ
  cases rs with
  | cons r rs =>
    cases r
    cases rs with
    | cons r rs =>
      cases rs; cases r
      exact PySem.IsiPair.int_int (hQ _ _ σ s.heap _ hq R (.bool _) (.refl _))
theorem bf_isint_bool {i : Int} {Q : V → St → Prop} (hq : Q (.bool false) σ) : EvF prog w Bs k (.builtin "isinstance") [.int i, .raw (.type "bool")] σ Q := by
  intro A g s Qc Ec cvs hA hB R rs hQ
  cases rs with
  | cons r rs =>
    cases r
    cases rs with
    | cons r rs =>
      cases rs; cases r
      exact PySem.IsiPair.int_bool (hQ _ _ σ s.heap _ hq R (.bool _) (.refl _))
/-- sep.join(a list of strs): some text -/
theorem bf_join {ss : List Str} {Q : V → St → Prop} (hm : (a, ob) ∈ σ) (hl : ob.peel = .list (ss.map .str)) (hz : tooLong (ss.toArray.foldl (· + ·.length + x.length) 0) = false) (h1 : ∀ z ∈ ss, z.length ≤ sizeLine) (h2 : (glued x ss).length ≤ sizeLine)
    (hq : Q (.str (match ss with | [z] => z | ss => glued x ss)) σ) : EvF prog w Bs k (.builtin "str.join") [.str x, .ref a] σ Q := by
  intro A g s Qc Ec cvs hA hB R rs hQ
  cases rs with
  | cons r rs =>
    cases r
    cases rs with
    | cons r rs =>
      cases r; cases rs
      rename_i tk
      obtain ⟨cl, n, ho, rl⟩ := R.list_at hm hl
      obtain ⟨l, e1, e2⟩ : ∃ l : List (Str × Tok), cl = strValues l ∧ l.map (·.1) = ss := by
        clear hz h1 h2 hq hl ho
        induction ss generalizing cl with
        | nil => cases rl; exact ⟨[], rfl, rfl⟩
        | cons z ss ih =>
          cases rl with
          | cons r rl =>
            cases r
            obtain ⟨l, e1, e2⟩ := ih _ rl
            exact ⟨(z, _) :: l, by rw [e1]; rfl, by rw [← e2]; rfl⟩
      subst e1 e2
      refine call_meets F.slot_str_join (typeIs_str _ _ _) F.entry_str_join (F.args_str_join_2 _ _) (meets_str_join_list x tk a l hz) ⟨⟨_, ho, rfl, n, rfl⟩, ?_⟩
      match l, hq, h1, h2 with
      | [], hq, h1, h2 => exact ⟨h2, hQ _ _ σ s.heap _ hq R (.str ..) (.refl _)⟩
      | [p], hq, h1, h2 => exact hQ _ _ σ s.heap s.toks hq R (.str ..) (.refl _)
      | p :: q :: l, hq, h1, h2 => exact ⟨h2, hQ _ _ σ s.heap _ hq R (.str ..) (.refl _)⟩
theorem cmp_notInT : CmpG prog w σ .NotIn (.str y) (.str x) (!Txt.contains x y) := fun A k g s ca cb Qc Ec hA R ra rb hQ => by cases ra; cases rb; exact P.notIn_str (hQ s.toks)
/-- text * n -/
theorem ev_mulT {l r : Expr} {pos : Pos} {Q : V → St → Prop} (h : EvE prog w Bs k env l m σ fun a σ1 => EvE prog w Bs k env r m σ1 fun b σ2 => ∃ x n, a = .str x ∧ b = .int n ∧ MulOk x n ∧ Q (.str (Txt.mul x n)) σ2) :
    EvE prog w Bs k env (.BinOp l .Mult r pos) m σ Q := fun A g s Qc Ec hA hB R hQ =>
  wpAny_BinOp (Ev.two (Qc := fun c d s₂ => wpAny (model prog w) A (binaryOp .Mult c d) Qc Ec s₂) h (fun t r => r.mono t) hA hB R fun c d a b σ' h' tk ⟨x, n, ea, eb, hok, hq⟩ R' ra rb t => by
    subst ea eb
    cases ra; cases rb
    exact SB.mul hok fun t' k' => hQ _ _ σ' h' k' hq R' (.str ..) t)
/-- a ** n -/
theorem ev_pow {l r : Expr} {pos : Pos} {Q : V → St → Prop} (h : EvE prog w Bs k env l m σ fun a σ1 => EvE prog w Bs k env r m σ1 fun b σ2 => ∃ i n, a = .int i ∧ b = .int n ∧ 0 ≤ n ∧ n ≤ 1000000 ∧ i.natAbs < 2 ^ 64 ∧ Q (.int (i ^ n.toNat)) σ2) :
    EvE prog w Bs k env (.BinOp l .Pow r pos) m σ Q := fun A g s Qc Ec hA hB R hQ =>
  wpAny_BinOp (Ev.two (Qc := fun c d s₂ => wpAny (model prog w) A (binaryOp .Pow c d) Qc Ec s₂) h (fun t r => r.mono t) hA hB R fun c d a b σ' h' tk ⟨i, n, ea, eb, h0, h1, h2, hq⟩ R' ra rb t => by
    subst ea eb
    cases ra; cases rb
    exact pow_int_small h0 h1 h2 (hQ _ _ σ' h' _ hq R' (.int ..) t))
/-- x or y, of texts -/
theorem ev_orT {e1 e2 : Expr} {pos : Pos} {Q : V → St → Prop} (h : EvE prog w Bs k env e1 m σ fun v σ1 => ∃ x, v = .str x ∧ x.length ≤ sizeLine ∧ if x.length = 0 then EvE prog w Bs k env e2 m σ1 Q else Q (.str x) σ1) : EvE prog w Bs k env (.BoolOp .Or [e1, e2] pos) m σ Q := fun A g s Qc Ec hA hB R hQ => by
  show wpAny _ A (eval e1 env >>= fun v => standAt pos >>= fun _ => holding [v] (truthy v) >>= fun t => _) _ _ _
  refine wpAny_bind (h A g s _ _ hA hB R fun cv v σ1 h1 tk ⟨x, e, hz, hq⟩ R1 r t => ?_)
  subst e
  cases r
  refine wpAny_bind (wpAny_standAt (wpAny_bind (wpAny_holding (P.truthy_str (len_fit hz) ?_))))
  by_cases h0 : x.length = 0
  · rw [if_pos h0] at hq
    rw [show ((x.length : Int) != 0) = false by simp [h0]]
    exact hq A g _ _ _ hA hB R1 fun c v σ' h' tk hq R' p t' => hQ c v σ' h' tk hq R' p (t.trans t')
  · rw [if_neg h0] at hq
    rw [show ((x.length : Int) != 0) = true by simp; omega]
    exact wpAny_pure (hQ _ _ σ1 h1 _ hq R1 (.str ..) t)
/-- a <= b <= c, as a test -/
theorem evb_cmp2 {l r1 r2 : Expr} {op1 op2 : CmpOp} {pos : Pos} {Q : Bool → St → Prop}
    (h : EvE prog w Bs k env l m σ fun a σ1 => EvE prog w Bs k env r1 m σ1 fun b σ2 => ∃ t, CmpG prog w σ2 op1 a b t ∧ if t then EvE prog w Bs k env r2 m σ2 fun c σ3 => (∃ u, CmpG prog w σ3 op2 b c u ∧ Q u σ3) else Q false σ2)
    (hm : lastMarks [op1, op2] [r1, r2] = false := by with_unfolding_all rfl) :
    EvB prog w Bs k env (.Compare l [op1, op2] [r1, r2] pos) m σ Q := fun A g s Qc Ec hA hB R hQ => by
  refine isTrue_chain (h A g s _ _ hA hB R fun ca a σ1 h1 tk1 hh R1 ra t1 => ?_) hm
  refine test_link (hh A g _ _ _ hA hB R1 fun cb b σ2 h2 tk2 ⟨t, hc, hq⟩ R2 rb t2 => ?_)
  refine hc A k _ { s with heap := h2, toks := tk2 } _ _ _ _ hA R2.rh (ra.mono t2) rb fun tk3 => wpAny_truthy_bool ?_
  cases t with
  | false => exact hQ _ _ σ2 h2 tk3 hq R2 rfl (t1.trans t2)
  | true =>
    have hq' : EvE prog w Bs k env r2 m σ2 fun c σ3 => (∃ u, CmpG prog w σ3 op2 b c u ∧ Q u σ3) := hq
    refine test_last (hq' A g _ _ _ hA hB R2 fun cc c σ3 h3 tk4 ⟨u, hc2, hq2⟩ R3 rc t3 => ?_)
    exact hc2 A k _ { s with heap := h3, toks := tk4 } _ _ _ _ hA R3.rh (rb.mono t3) rc fun tk5 => wpAny_truthy_bool (hQ _ _ σ3 h3 tk5 hq2 R3 rfl (t1.trans (t2.trans t3)))
inductive PartV : V → Option Int → Prop
  | none : PartV .none none
  | int (i : Int) : PartV (.int i) (some i)
/-- a slice of a text -/
theorem ev_sliceT {value : Expr} {lower upper : Option Expr} {p pos : Pos} {Q : V → St → Prop}
    (h : EvE prog w Bs k env value m σ fun o σ1 => EvP prog w Bs k env lower m σ1 fun l σ2 => EvP prog w Bs k env upper m σ2 fun u σ3 =>
      ∃ x lo hi, o = .str x ∧ PartV l lo ∧ PartV u hi ∧ x.length ≤ sizeLine ∧ Q (.str (Txt.slice x lo hi)) σ3)
    (ht : ∀ o r, letTemporaryGo value o r = pure () := by intro _ _; rfl) : EvE prog w Bs k env (.Subscript value (.Slice lower upper none p) pos) m σ Q := fun A g s Qc Ec hA hB R hQ => by
  refine wpAny_Subscript_Slice (T := "str") F.slot_str_getitem.lookup (h A g s _ _ hA hB R fun co o σ1 h1 tk1 hl R1 ro t1 => wpAny_Slice (hl A g _ _ _ hA hB R1 fun cl l σ2 h2 tk2 hu R2 rl t2 => hu A g _ _ _ hA hB R2 fun cu u σ3 h3 tk3 hq R3 ru t3 => ?_)) ht
  obtain ⟨x, lo, hi, rfl, pl, pu, hz, hq⟩ := hq
  cases ro
  rw [evalPart_none]
  have e1 : ∃ q : Option (Int × Tok), cl = partValue q ∧ q.map (·.1) = lo := by
    cases pl with
    | none => cases rl; exact ⟨none, rfl, rfl⟩
    | int i => cases rl; exact ⟨some (i, _), rfl, rfl⟩
  have e2 : ∃ q : Option (Int × Tok), cu = partValue q ∧ q.map (·.1) = hi := by
    cases pu with
    | none => cases ru; exact ⟨none, rfl, rfl⟩
    | int i => cases ru; exact ⟨some (i, _), rfl, rfl⟩
  obtain ⟨q1, rfl, rfl⟩ := e1
  obtain ⟨q2, rfl, rfl⟩ := e2
  have kp := push_keep h3 { cls := .type "slice", data := .fields #[partValue q1, partValue q2, .none] }
  refine wpAny_pure ⟨typeIs_str _ _ _, wpAny_getItem_str_slice (l := q1) (u := q2) (st := none) ⟨_, Heap.get?_push_size _ rfl, rfl, rfl⟩ rfl
    (post_val_or_str ⟨Nat.le_trans (Txt.slice_le x _ _) hz, fun t' k' => hQ _ _ σ3 _ k' hq (R3.ext kp) (.str ..) (t1.trans (t2.trans (t3.trans (.of_keep kp))))⟩)⟩
-- for c in text
end
end Mine

set_option Elab.async false
set_option linter.unusedVariables false
set_option maxRecDepth 100000
namespace Mine
open PySem PyProof.Rows PySem.Calls PySem.W PySem.Spec

section
variable {prog : Program} {w : World} {Bs : Heap} {k : Nat} {env : Env} {m : Env'} {σ : St} {g h h' : Heap} {L a : Addr} {ob : O} {x y : Str} {mg mb : Str → Option Value}
theorem ev_fmt {value : Expr} {pos : Pos} {Q : V → St → Prop} (h : EvE prog w Bs k env value m σ fun v σ1 => ∃ i, v = .int i ∧ i.natAbs.log2 < 1920 ∧ Q (.str (Str.ofString (toString i))) σ1) : EvE prog w Bs k env (.FormattedValue value (-1) none pos) m σ Q := fun A g s Qc Ec hA hB R hQ =>
  wpAny_FormattedValue_plain (h A g s _ _ hA hB R fun cv v σ1 h1 tk1 ⟨i, ev, hi, hq⟩ R1 rv t1 => by
    subst ev
    cases rv
    exact wpAny_formatField_int hi (hQ _ _ σ1 h1 _ hq R1 (.str ..) t1))
theorem ev_fmt_a {value : Expr} {pos : Pos} {Q : V → St → Prop} (h : EvE prog w Bs k env value m σ fun v σ1 => ∃ x, v = .str x ∧ x.length ≤ 100 ∧ (∀ c ∈ x.cps.toList, c < 16 ^ 8) ∧ ∀ y, y.length ≤ 20000 → Q (.str y) σ1) : EvE prog w Bs k env (.FormattedValue value 97 none pos) m σ Q := fun A g s Qc Ec hA hB R hQ => by
  rw [arm_eval_FormattedValue]
  refine wpAny_bind (h A g s _ _ hA hB R fun cv v σ1 h1 tk1 ⟨x, ev, hx, hc, hq⟩ R1 rv t1 => ?_)
  subst ev
  cases rv
  refine wpAny_bind (wpAny_standAt ?_)
  show wpAny _ _ (do let v' ← holding [.str x _] (call (.builtin "ascii") [.str x _]); formatField v' Str.empty) Qc Ec _
  refine wpAny_bind (wpAny_holding (call_ascii hx hc fun y t' k' hy => ?_))
  have hz : y.length ≤ sizeLine := by rw [sizeLine_eq]; omega
  exact wpAny_formatField_str (hQ _ _ σ1 h1 _ (hq y hy) R1 (.str ..) t1) (hQ _ _ σ1 h1 _ (hq y hy) R1 (.str ..) t1) hz
end
end Mine

set_option Elab.async false
set_option linter.unusedVariables false
set_option maxRecDepth 100000
namespace Mine
open PySem PyProof.Rows PySem.Calls PySem.W PySem.Spec

/-- a ValueError: what it says, its context, its trace -/
def EOb (h : Heap) (e : Addr) (a0 cx tb : Value) : Prop := ∃ oe vs, h.get? e = some oe ∧ oe.cls = .type "ValueError" ∧ oe.data = .fields vs ∧ vs[0]? = some a0 ∧ vs[1]? = some tb ∧ vs[2]? = some cx ∧ 4 < vs.size
def TOb (h : Heap) (T : Addr) (fl : Value) : Prop := ∃ oT ts, h.get? T = some oT ∧ oT.data = .fields ts ∧ ts[3]? = some fl
def Exv (g : Heap) (σ : St) (fl : Option Value) (e : Addr) (fr : Bool) (av : V) (h : Heap) : Prop :=
  g.get? e = none ∧ (∀ p ∈ σ, p.1 ≠ e) ∧ ∃ a0 cx, VR h a0 av ∧ (fr = true → cx = .none) ∧
    ((fl = none ∧ EOb h e a0 cx .none) ∨ ∃ f T, fl = some f ∧ EOb h e a0 cx (.ref T) ∧ TOb h T f ∧ T ≠ e ∧ g.get? T = none ∧ ∀ p ∈ σ, p.1 ≠ T)

section
variable {prog : Program} {w : World} {M : Model} {A : Around} {E : Value → Shared → Prop} {s : Shared} {env : Env} {m : Env'} {σ σ' : St} {g h h' h'' : Heap} {L a d e T : Addr} {fs outer : List Env} {av : V} {fr : Bool} {fl : Option Value} {a0 cx tb head f : Value}

theorem Moves.trans {S S' : List Addr} (x : Moves S h h') (y : Moves S' h' h'') : Moves (S ++ S') h h'' :=
  ⟨fun b o hb e => y.1 b o (fun hm => hb (List.mem_append_right _ hm)) (x.1 b o (fun hm => hb (List.mem_append_left _ hm)) e), x.2.trans y.2⟩
theorem EOb.get (x : EOb h e a0 cx tb) : ∃ oe vs, h.get? e = some oe ∧ oe.data = .fields vs ∧ vs[1]? = some tb := let ⟨oe, vs, h1, _, h3, _, h5, _⟩ := x; ⟨oe, vs, h1, h3, h5⟩
/-- a field of a record is written -/
theorem put_field {i : Nat} {x : Value} {o : Obj} {vs : Array Value} {Q : Unit → Shared → Prop} (ho : s.heap.get? a = some o) (hd : o.data = .fields vs) (hi : i < vs.size)
    (h : ∀ h' o', Moves [a] s.heap h' → h'.get? a = some o' → o'.cls = o.cls → o'.data = .fields (vs.setIfInBounds i x) → Q () { s with heap := h' }) : wpAny M A (setField (.ref a) i x) Q E s := by
  have hd3 := Obj.data_mapFields hd (·.setIfInBounds i x)
  refine wpAny_setField ho hd hi (h _ _ ⟨fun b o' hb e => ?_, fun b o' e hn => ?_⟩ (Heap.get?_update_self _ ho (Obj.isFreed_of_fields hd3)) (Obj.cls_mapFields _ _) hd3)
  · rw [Heap.get?_update_other _ _ (fun q => hb (by simp [q]))]; exact e
  · have : a ≠ b := fun q => by subst q; rw [ho] at e; cases e; exact hn _ hd
    exact ⟨o'.slots, by rw [Heap.get?_update_other _ _ this]; exact e⟩
/-- a new entry of the trace -/
theorem note_entry {base : Heap} {hadNext : Bool} {Q : Unit → Shared → Prop} (hfr : A.frames = some (env :: outer)) (hl : s.heap.FunFrames base (env :: outer)) (hf : env.frame = some L) (x : EOb s.heap e a0 cx head)
    (hh : ∀ h' T, Moves (e :: fAdr (env :: outer)) s.heap h' → EOb h' e a0 cx (.ref T) → TOb h' T (rawInt L) → T ≠ e → s.heap.get? T = none → Q () { s with heap := h' }) :
    wpAny M A (do let a ← frameOf env; let pl ← entryPlaceOf L hadNext; let b ← EntryCells.newEntry head a .none (rawInt L) .none pl; setField (.ref e) 1 b) Q E s := by
  obtain ⟨oe, vs, h1, h2, h3, h4, h5, h6, h7⟩ := x
  have off : e ∉ fAdr (env :: outer) := fun hm => by
    obtain ⟨_, o, ho, hnf⟩ := hl.mem hm
    rw [h1] at ho; cases ho; exact hnf vs h3
  refine wpAny_bind (wpAny_frameOf_fun hfr hl hf fun k1 hs => ?_)
  refine wpAny_bind (wpAny_entryPlaceOf fun pl hpl => ?_)
  unfold EntryCells.newEntry newFields
  refine wpAny_bind (wpAny_newObj_type ?_ (hpl.sizeOk5 _ _ _ _ _))
  have e1 : k1.get? e = some oe := (hs.2.1 e off).trans h1
  generalize htO : ({ cls := .type "traceback", dict := none, data := .fields ([head, .ref L, .none, rawInt L, .none] ++ (if pl.isEmpty then List.replicate 6 Value.none else pl)).toArray } : Obj) = tO
  have hne : k1.objs.size ≠ e := Nat.ne_of_gt (Heap.lt_size e1)
  have hfz : tO.isFreed = false := by subst htO; rfl
  refine put_field (s := { s with heap := k1.push tO }) (Heap.get?_push_of_some (h := k1) tO e1) h3 (by omega) fun k2 o2 M2 g1 g2 g3 => ?_
  have hT : k2.get? k1.objs.size = some tO := M2.1 _ _ (by simpa using hne) (Heap.get?_push_size k1 hfz)
  refine hh k2 k1.objs.size ⟨fun b o hb eb => ?_, fun b o eb hn => ?_⟩ ⟨o2, _, g1, g2.trans h2, g3, ?_, ?_, ?_, by simpa using h7⟩ ⟨tO, _, hT, by subst htO; rfl, ?_⟩ hne ?_
  · refine M2.1 b o (fun hm => hb (by simp at hm; simp [hm])) (Heap.get?_push_of_some tO ?_)
    rw [hs.2.1 b fun hm => hb (.tail _ hm)]; exact eb
  · obtain ⟨sl, q⟩ := hs.2.2 b o eb
    exact M2.2 b { o with slots := sl } (Heap.get?_push_of_some tO q) hn
  · rw [Array.getElem?_setIfInBounds_ne (by decide)]; exact h4
  · have : 1 < vs.size := by omega
    simp [this]
  · rw [Array.getElem?_setIfInBounds_ne (by decide)]; exact h6
  · simp
  · cases q : s.heap.get? k1.objs.size with
    | none => rfl
    | some o =>
      obtain ⟨sl, q2⟩ := hs.2.2 _ o q
      rw [get_size_none] at q2; cases q2
theorem note_first {base : Heap} {Q : Unit → Shared → Prop} (hfr : A.frames = some (env :: outer)) (hl : s.heap.FunFrames base (env :: outer)) (hf : env.frame = some L) (x : EOb s.heap e a0 cx .none)
    (hh : ∀ h' T, Moves (e :: fAdr (env :: outer)) s.heap h' → EOb h' e a0 cx (.ref T) → TOb h' T (rawInt L) → T ≠ e → s.heap.get? T = none → Q () { s with heap := h' }) : wpAny M A (noteFrame (.ref e) env) Q E s := by
  obtain ⟨oe, vs, h1, h3, h5⟩ := x.get
  unfold noteFrame
  simp only [hf]
  refine wpAny_bind (wpAny_field h1 h3 h5 ?_)
  rw [if_neg (by decide)]
  exact note_entry hfr hl hf x hh
theorem note_on {base : Heap} {Q : Unit → Shared → Prop} (hfr : A.frames = some (env :: outer)) (hl : s.heap.FunFrames base (env :: outer)) (hf : env.frame = some L) (x : EOb s.heap e a0 cx (.ref T)) (t : TOb s.heap T .none) (hT : T ≠ e)
    (hh : ∀ h' T', Moves (T :: e :: fAdr (env :: outer)) s.heap h' → EOb h' e a0 cx (.ref T') → TOb h' T' (rawInt L) → T' ≠ e → s.heap.get? T' = none → Q () { s with heap := h' }) : wpAny M A (noteFrame (.ref e) env) Q E s := by
  obtain ⟨oe, vs, h1, h3, h5⟩ := x.get
  obtain ⟨oT, ts, t1, t2, t3⟩ := t
  unfold noteFrame
  simp only [hf]
  refine wpAny_bind (wpAny_field h1 h3 h5 ?_)
  rw [if_pos (show (Value.ref T != Value.none) = true from by simp)]
  refine wpAny_bind (wpAny_field t1 t2 t3 ?_)
  rw [if_neg (show ¬ ((Value.none == rawInt L) = true) from by simp [rawInt])]
  refine wpAny_bind (put_field t1 t2 (Array.getElem?_eq_some_iff.mp t3).1 fun k1 o1 M1 q1 q2 q3 => ?_)
  have x' : EOb k1 e a0 cx (.ref T) := by
    obtain ⟨oe', vs', y1, r⟩ := x
    exact ⟨oe', vs', M1.1 _ _ (by simpa using Ne.symm hT) y1, r⟩
  refine note_entry (s := { s with heap := k1 }) (base := base) hfr (hl.of_keeps fun b o hb hnf => ?_) hf x' fun h' T' M2 y1 y2 y3 y4 => hh h' T' (by simpa using M1.trans M2) y1 y2 y3 ?_
  · obtain ⟨sl, q⟩ := M1.2 b o hb hnf
    exact ⟨_, q, rfl⟩
  · cases q : s.heap.get? T' with
    | none => rfl
    | some o =>
      by_cases hTT : T' = T
      · subst hTT; have : k1.get? T' = none := y4; rw [q1] at this; cases this
      · have := M1.1 _ _ (by simpa using hTT) q
        have y4' : k1.get? T' = none := y4
        rw [y4'] at this; cases this
theorem note_again {Q : Unit → Shared → Prop} (hf : env.frame = some L) (x : EOb s.heap e a0 cx (.ref T)) (t : TOb s.heap T (rawInt L)) (h : Q () s) : wpAny M A (noteFrame (.ref e) env) Q E s := by
  obtain ⟨oe, vs, h1, h3, h5⟩ := x.get
  obtain ⟨oT, ts, t1, t2, t3⟩ := t
  unfold noteFrame
  simp only [hf]
  refine wpAny_bind (wpAny_field h1 h3 h5 ?_)
  rw [if_pos (show (Value.ref T != Value.none) = true from by simp)]
  refine wpAny_bind (wpAny_field t1 t2 t3 ?_)
  rw [if_pos (show (rawInt L == rawInt L) = true from by simp)]
  exact wpAny_pure h
theorem flight_set {fo : Option Addr} {Q : Unit → Shared → Prop} (x : EOb s.heap e a0 cx (.ref T)) (t : TOb s.heap T f) (hT : T ≠ e)
    (h : ∀ h', Moves [T] s.heap h' → EOb h' e a0 cx (.ref T) → TOb h' T (fo.elim .none fun f => rawInt f) → Q () { s with heap := h' }) : wpAny M A (setFlight (.ref e) fo) Q E s := by
  obtain ⟨oe, vs, h1, h3, h5⟩ := x.get
  obtain ⟨oT, ts, t1, t2, t3⟩ := t
  have hsz := (Array.getElem?_eq_some_iff.mp t3).1
  unfold setFlight
  refine wpAny_bind (wpAny_field h1 h3 h5 ?_)
  rw [if_pos (show (Value.ref T != Value.none) = true from by simp)]
  refine put_field t1 t2 hsz fun k1 o1 M1 q1 q2 q3 => h k1 M1 ?_ ⟨o1, _, q1, q3, by simp [hsz]⟩
  obtain ⟨oe', vs', y1, r⟩ := x
  exact ⟨oe', vs', M1.1 _ _ (by simpa using Ne.symm hT) y1, r⟩

/-- places that may change -/
def Loose (g : Heap) (σ : St) (S : List Addr) (h : Heap) : Prop := ∀ b ∈ S, (g.get? b = none ∧ ∀ p ∈ σ, p.1 ≠ b) ∧ ∀ c n, h.get? b ≠ some (tupO c n)
theorem Loose.tk {S : List Addr} (l : Loose g σ S h) (M : Moves S h h') : TK h h' := M.tk fun b hb => (l b hb).2
theorem Loose.off {S : List Addr} (l : Loose g σ S h) : ∀ b ∈ S, g.get? b = none ∧ ∀ p ∈ σ, p.1 ≠ b := fun b hb => (l b hb).1
theorem eob_loose (x : EOb h e a0 cx tb) : ∀ c n, h.get? e ≠ some (tupO c n) := fun c n q => by
  obtain ⟨oe, vs, h1, h3, h5⟩ := x.get
  rw [h1] at q; cases q; cases h3
theorem tob_loose (x : TOb h T f) : ∀ c n, h.get? T ≠ some (tupO c n) := fun c n q => by
  obtain ⟨oe, vs, h1, h3, h5⟩ := x
  rw [h1] at q; cases q; cases h3
theorem fr_loose (F : Frs fs g σ h) : Loose g σ (fAdr fs) h := fun b hb => by
  obtain ⟨q1, q2, o, es, n, q3, q4⟩ := F.mem hb
  exact ⟨⟨q1, q2⟩, fun c n q => by rw [q3] at q; cases q; cases q4⟩
theorem Loose.cons {S : List Addr} (l : Loose g σ S h) (h1 : g.get? a = none) (h2 : ∀ p ∈ σ, p.1 ≠ a) (h3 : ∀ c n, h.get? a ≠ some (tupO c n)) : Loose g σ (a :: S) h := fun b hb => by
  rcases List.mem_cons.mp hb with rfl | hb
  · exact ⟨⟨h1, h2⟩, h3⟩
  · exact l b hb
theorem new_off (R : RH prog w g σ h) (hn : h.get? T = none) : g.get? T = none ∧ ∀ p ∈ σ, p.1 ≠ T := by
  refine ⟨?_, fun p hp q => ?_⟩
  · cases q : g.get? T with
    | none => rfl
    | some o => rw [R.keep _ _ q] at hn; cases hn
  · obtain ⟨_, o, ho, _⟩ := R.own p hp
    rw [q, hn] at ho; cases ho
theorem Exv.sub (x : Exv g σ fl e fr av h) (s : ∀ p ∈ σ', p ∈ σ) : Exv g σ' fl e fr av h := by
  obtain ⟨x1, x2, a0, cx, x3, x4, x5⟩ := x
  exact ⟨x1, fun p hp => x2 p (s p hp), a0, cx, x3, x4, x5.imp id fun ⟨f, T, t1, t2, t3, t4, t5, t6⟩ => ⟨f, T, t1, t2, t3, t4, t5, fun p hp => t6 p (s p hp)⟩⟩

/-- noteFrame -/
theorem note_exv {Q : Unit → Shared → Prop} (hfr : A.frames = some (env :: fs)) (hf : env.frame = some L) (R : RH prog w g σ s.heap) (F : Frs (env :: fs) g σ s.heap) (x : Exv g σ fl e fr av s.heap) (hfl : fl = none ∨ fl = some .none ∨ fl = some (rawInt L))
    (hQ : ∀ h' S, Moves S s.heap h' → Loose g σ S s.heap → Exv g σ (some (rawInt L)) e fr av h' → Q () { s with heap := h' }) : wpAny M A (noteFrame (.ref e) env) Q E s := by
  obtain ⟨x1, x2, a0, cx, x3, x4, x5⟩ := x
  have FF : s.heap.FunFrames (mask s.heap (fAdr (env :: fs))) (env :: fs) := F.fun_ fun b hb => hb
  rcases x5 with ⟨rfl, x5⟩ | ⟨f, T, rfl, x5, t1, t2, t3, t4⟩
  · refine note_first hfr FF hf x5 fun h' T M y1 y2 y3 y4 => ?_
    have lo := (fr_loose F).cons x1 x2 (eob_loose x5)
    have := new_off R y4
    exact hQ h' _ M lo ⟨x1, x2, a0, cx, x3.mono (lo.tk M), x4, .inr ⟨_, T, rfl, y1, y2, y3, this.1, this.2⟩⟩
  · by_cases hfe : f = rawInt L
    · subst hfe
      exact note_again hf x5 t1 (hQ s.heap [] ⟨fun b o _ e => e, .refl _⟩ (fun _ hb => nomatch hb) ⟨x1, x2, a0, cx, x3, x4, .inr ⟨_, T, rfl, x5, t1, t2, t3, t4⟩⟩)
    · have hf0 : f = .none := by
        rcases hfl with q | q | q
        · cases q
        · cases q; rfl
        · cases q; exact absurd rfl hfe
      subst hf0
      refine note_on hfr FF hf x5 t1 t2 fun h' T' M y1 y2 y3 y4 => ?_
      have lo := ((fr_loose F).cons x1 x2 (eob_loose x5)).cons t3 t4 (tob_loose t1)
      have := new_off R y4
      exact hQ h' _ M lo ⟨x1, x2, a0, cx, x3.mono (lo.tk M), x4, .inr ⟨_, T', rfl, y1, y2, y3, this.1, this.2⟩⟩
/-- setFlight -/
theorem flight_exv {fo : Option Addr} {Q : Unit → Shared → Prop} (x : Exv g σ (some f) e fr av s.heap)
    (hQ : ∀ h' S, Moves S s.heap h' → Loose g σ S s.heap → Exv g σ (some (fo.elim .none fun f => rawInt f)) e fr av h' → Q () { s with heap := h' }) : wpAny M A (setFlight (.ref e) fo) Q E s := by
  obtain ⟨x1, x2, a0, cx, x3, x4, x5⟩ := x
  rcases x5 with ⟨q, _⟩ | ⟨f', T, q, x5, t1, t2, t3, t4⟩
  · cases q
  · cases q
    refine flight_set x5 t1 t2 fun h' M y1 y2 => ?_
    have lo : Loose g σ [T] s.heap := Loose.cons (fun _ hb => nomatch hb) t3 t4 (tob_loose t1)
    exact hQ h' _ M lo ⟨x1, x2, a0, cx, x3.mono (lo.tk M), x4, .inr ⟨_, T, rfl, y1, y2, t2, t3, t4⟩⟩
/-- leaving a function by an exception -/
theorem leave_exv {Q : Unit → Shared → Prop} (hfr : A.frames = some (env :: fs)) (hf : env.frame = some L) (R : RH prog w g σ s.heap) (F : Frs (env :: fs) g σ s.heap) (x : Exv g σ fl e fr av s.heap) (hfl : fl = none ∨ fl = some .none ∨ fl = some (rawInt L))
    (hQ : ∀ h', RH prog w g σ h' → Frs fs g σ h' → UpS fs s.heap h' → TK s.heap h' → Exv g σ (some .none) e fr av h' → Q () { s with heap := h' }) : wpAny M A (leaving env (.ref e)) Q E s := by
  unfold leaving
  refine wpAny_bind (note_exv hfr hf R F x hfl fun h1 S1 M1 l1 x1 => flight_exv (s := { s with heap := h1 }) x1 fun h2 S2 M2 l2 x2 => ?_)
  have t1 := l1.tk M1
  have t2 := l2.tk M2
  have R1 := R.moves M1 t1 l1.off
  have u1 : UpS (env :: fs) s.heap h1 := UpS.moves F M1
  have F1 := F.move u1
  have u2 : UpS (env :: fs) h1 h2 := UpS.moves F1 M2
  have F2 := F1.move u2
  exact hQ h2 (R1.moves M2 t2 l2.off) (fun en hen => F2 en (.tail _ hen)) (fun en hen => (u1.trans u2) en (.tail _ hen)) (t1.trans t2) x2
end
end Mine

set_option Elab.async false
set_option linter.unusedVariables false
set_option maxRecDepth 100000
namespace Mine
open PySem PyProof.Rows PySem.Calls PySem.W PySem.Spec

section
variable {prog : Program} {w : World} {A : Around} {E : Value → Shared → Prop} {s : Shared} {env : Env} {e t0 h : Addr} {a0 : Value}
theorem slot_VE_format : Slot "ValueError" "__format__" "object.__format__" := .of (owner := "object") (n := "__format__") (by rw [typeLookup_type, builtinLookup_eq_fast]; kernel_rfl) (by decide +kernel) (by decide +kernel) (by decide +kernel)
    (by first | exact .inl (by decide +kernel) | exact .inr (by decide +kernel)) (by rw [isSubtype_type]; kernel_rfl)
theorem fmt_exc {m : Str} {tk : Tok} {Q : Value → Shared → Prop} (hu : A.units + 2 < cLine) (x : s.heap.ExcAt e "ValueError" (.ref t0)) (ht : s.heap.TupAt t0 [.str m tk]) (hq : Q (.str m tk) { s with toks := s.toks + 1 }) : wpAny (model prog w) A (formatField (.ref e) Str.empty) Q E s := by
  show wpAny _ _ (holding [.ref e] (pyFormat (.ref e) Str.empty)) Q E s
  refine wpAny_holding ?_
  unfold pyFormat
  refine wpAny_bind (wpAny_mkStr ?_ (by decide))
  have hT : ({ s with toks := s.toks + 1 } : Shared).TypeIs (.ref e) "ValueError" := x.typeIs
  refine wpAny_bind (m := callSpecial? (.ref e) (Str.ofString "__format__") [.str Str.empty s.toks]) (wpAny_callSpecial?_slot (name := Str.ofString "__format__") hT slot_VE_format (wpAny_call_entry slot_VE_format hT F.entry_object_format ?_ (F.args_object_format_2 _ _)))
  show wpAny _ _ (do let _shown ← typeNameOf (.str Str.empty s.toks); (do ret (← pyStrObj (.ref e)))) _ _ _
  refine wpAny_bind (wpAny_typeNameOf (T := "str") (typeIs_str _ _ _) (by decide) fun _ => ?_)
  refine wpAny_bind (pyStrObj_exc_one F.excStr_ValueError (by show A.units + 1 < cLine; omega) x ht ?_)
  exact wpAny_pure ⟨_, rfl, wpAny_bind (wpAny_isInstance (T := "str") (b := true) rfl isSubtype_str_str (wpAny_pure hq))⟩
theorem entry_unchain : entryFor table "proto.unchain" = some Builtin.«proto.unchain» := entryFor_of_tree (by kernel_rfl)
theorem unchain_none {oe : Obj} {vs : Array Value} {Q : Value → Shared → Prop} (ho : s.heap.get? h = some oe) (hd : oe.data = .fields vs) (h2 : vs[2]? = some .none) (hq : Q .none s) :
    wpAny (model prog w) A (runValue (.builtin "proto.unchain" ⟨[.ref e, .ref h, .ref h, .bool false], []⟩)) Q E s := by
  refine wpAny_runValue (codeAny_builtin entry_unchain ?_)
  unfold Builtin.«proto.unchain»
  dsimp only
  refine wpAny_bind (wpAny_field ho hd h2 ?_)
  rw [if_pos (by rfl)]
  exact wpAny_pure hq
/-- raise … from None, while another one is handled -/
theorem raise_from {exc : Expr} {kk : Nat} {cpos pos : Pos} {Q : Flow → Shared → Prop} (hh : A.handled = some (.ref h))
    (hx : wpAny (model prog w) A (eval exc env) (fun v s₁ => ∃ e a0, v = .ref e ∧ EOb s₁.heap e a0 .none .none ∧ (∃ a1 tb, EOb s₁.heap h a1 .none tb) ∧ h ≠ e ∧ ∀ h', Moves [e] s₁.heap h' → EOb h' e a0 (.ref h) .none → E (.ref e) { s₁ with heap := h' }) E s) :
    wpAny (model prog w) A (exec (.Raise (some exc) (some (.Constant .none kk cpos)) pos) env) Q E s := by
  show wpAny _ A (do standAt pos; raiseStmt env (some (do let v ← eval exc env; standAt pos; pure v)) (some (do let v ← eval (.Constant .none kk cpos) env; standAt pos; pure v))) Q E s
  refine wpAny_bind (wpAny_standAt ?_)
  unfold raiseStmt
  dsimp only
  refine wpAny_bind (wpAny_bind (wpAny_mono hx (fun v s₁ h₁ => wpAny_bind (wpAny_standAt (wpAny_pure ?_))) fun _ _ x => x))
  obtain ⟨e, a0, rfl, x, ⟨a1, tb, xh⟩, hne, hE⟩ := h₁
  obtain ⟨oe, vs, h1, h2, h3, h4, h5, h6, h7⟩ := x
  have hT : s₁.TypeIs (.ref e) "ValueError" := ⟨oe, h1, h2⟩
  have hnt : ∀ {s₁ : Shared} {oe : Obj} {vs : Array Value}, s₁.heap.get? e = some oe → oe.data = .fields vs → ∀ {Q' : Bool → Shared → Prop}, Q' false s₁ → wpAny (model prog w) A (isType (.ref e)) Q' E s₁ := by
    intro s₁ oe vs h1 h3 Q' hq
    simp only [isType, loadHead]
    refine wpAny_bind (wpAny_loadPart h1 ?_)
    rw [h3]; exact wpAny_pure hq
  refine wpAny_bind (wpAny_holding (wpAny_bind (wpAny_Constant_none (wpAny_bind (wpAny_standAt (wpAny_pure ?_))))))
  refine wpAny_bind (wpAny_pure ?_)
  dsimp only
  refine wpAny_bind (wpAny_holding ?_)
  unfold excFromValue isExcClass
  refine wpAny_bind (wpAny_bind (hnt h1 h3 ?_))
  simp only [Bool.false_eq_true, if_false]
  refine wpAny_pure ?_
  simp only [Bool.false_eq_true, if_false]
  refine wpAny_bind (wpAny_isInstance hT excClass_ValueError.base ?_)
  simp only [if_true]
  refine wpAny_pure ?_
  rw [if_pos (by rfl)]
  refine wpAny_bind (wpAny_pure ?_)
  refine wpAny_bind (put_field h1 h3 (by omega) fun k1 o1 M1 q1 q2 q3 => ?_)
  refine wpAny_bind (put_field (s := { s₁ with heap := k1 }) q1 q3 (by simp; omega) fun k2 o2 M2 p1 p2 p3 => ?_)
  refine wpAny_bind (hnt p1 p3 ?_)
  simp only [Bool.false_eq_true, if_false]
  unfold raisedInstance
  have hT2 : ({ s₁ with heap := k2 } : Shared).TypeIs (.ref e) "ValueError" := ⟨o2, p1, p2.trans (q2.trans h2)⟩
  refine wpAny_bind (wpAny_bind (wpAny_typeOf hT2 (wpAny_bind (m := typeOf (.type "ValueError")) (wpAny_pure ?_))))
  rw [if_pos excClass_ValueError.metaType]
  refine wpAny_pure ?_
  unfold setFlight raiseNew
  have f1 : ((vs.setIfInBounds 3 Value.none).setIfInBounds 4 (.bool true))[1]? = some .none := by rw [Array.getElem?_setIfInBounds_ne (by decide), Array.getElem?_setIfInBounds_ne (by decide)]; exact h5
  refine wpAny_bind (wpAny_bind (wpAny_field p1 p3 f1 ?_))
  rw [if_neg (by decide)]
  refine wpAny_pure (wpAny_bind (wpAny_handled ?_))
  rw [hh]
  dsimp only
  rw [if_pos (by simp [hne])]
  obtain ⟨oh, vh, g1, g2, g3, g4, g5, g6, g7⟩ := xh
  have gh : k2.get? h = some oh := M2.1 _ _ (by simpa using hne) (M1.1 _ _ (by simpa using hne) g1)
  refine wpAny_bind (wpAny_holding (unchain_none (s := { s₁ with heap := k2 }) gh g3 g6 ?_))
  refine wpAny_bind (m := setField (.ref e) 2 (.ref h)) ?_
  refine put_field (s := { s₁ with heap := k2 }) p1 p3 (by simp; omega) fun k3 o3 M3 r1 r2 r3 => ?_
  refine wpAny_throw (hE k3 ?_ ⟨o3, _, r1, r2.trans (p2.trans (q2.trans h2)), r3, ?_, ?_, ?_, by simpa using h7⟩)
  · have := (M1.trans M2).trans M3
    exact ⟨fun b o hb eb => this.1 b o (by simpa using hb) eb, this.2⟩
  · rw [Array.getElem?_setIfInBounds_ne (by decide), Array.getElem?_setIfInBounds_ne (by decide), Array.getElem?_setIfInBounds_ne (by decide)]; exact h4
  · rw [Array.getElem?_setIfInBounds_ne (by decide)]; exact f1
  · have : 2 < vs.size := by omega
    simp [this]
end
end Mine

set_option Elab.async false
set_option linter.unusedVariables false
set_option maxRecDepth 100000
namespace Mine
open PySem PyProof.Rows PySem.Calls PySem.W PySem.Spec

def HereFl (L : Addr) (fl : Option Value) : Prop := fl = none ∨ fl = some .none ∨ fl = some (rawInt L)
section
variable (prog : Program) (w : World) (Bs : Heap)
/-- the frame that runs -/
structure RunV (A : Around) (env : Env) (fs : List Env) (g : Heap) (σ : St) (h : Heap) : Prop where
  fr : A.frames = some (env :: fs)
  own : env.frame = some env.locals
  kind : env.scope.kind = .function
  none : g.get? env.locals = none
  low : Frs fs g σ h
  apart : ∀ en ∈ fs, en.frame ≠ some env.locals
/-- an expression that may raise a ValueError -/
def EvThV {α β : Type} (P' : Heap → α → β → Prop) (k : Nat) (env : Env) (t : Sem α) (m : Env') (σ : St) (Q : β → St → Prop) (X : Bool → V → St → Prop) : Prop :=
  ∀ (A : Around) (g : Heap) (s : Shared) (fs : List Env) (Qc : α → Shared → Prop) (Ec : Value → Shared → Prop), AOk k A → (∀ b o, Bs.get? b = some o → g.get? b = some o) → RunV A env fs g σ s.heap → Rel prog w g env.locals m σ s.heap →
    (∀ c v σ' h' tk, Q v σ' → Rel prog w g env.locals m σ' h' → P' h' c v → TK s.heap h' → Frs fs g σ' h' → UpS fs s.heap h' → Qc c { s with heap := h', toks := tk }) →
    (∀ e fr av σ' h' tk, X fr av σ' → Rel prog w g env.locals m σ' h' → Exv g σ' (some .none) e fr av h' → TK s.heap h' → Frs fs g σ' h' → UpS fs s.heap h' → Ec (.ref e) { s with heap := h', toks := tk }) →
    wpAny (model prog w) A t Qc Ec s
/-- statements that may raise -/
def EvStV (k : Nat) (env : Env) (t : Sem Flow) (m : Env') (σ : St) (Q : Fl → Env' → St → Prop) (X : Bool → V → Env' → St → Prop) : Prop :=
  ∀ (A : Around) (g : Heap) (s : Shared) (fs : List Env) (Qc : Flow → Shared → Prop) (Ec : Value → Shared → Prop), AOk k A → (∀ b o, Bs.get? b = some o → g.get? b = some o) → RunV A env fs g σ s.heap → Rel prog w g env.locals m σ s.heap →
    (∀ c f m' σ' h' tk, Q f m' σ' → Rel prog w g env.locals m' σ' h' → FR h' c f → TK s.heap h' → Frs fs g σ' h' → UpS fs s.heap h' → Qc c { s with heap := h', toks := tk }) →
    (∀ e fl fr av m' σ' h' tk, X fr av m' σ' → Rel prog w g env.locals m' σ' h' → HereFl env.locals fl → Exv g σ' fl e fr av h' → TK s.heap h' → Frs fs g σ' h' → UpS fs s.heap h' → Ec (.ref e) { s with heap := h', toks := tk }) →
    wpAny (model prog w) A t Qc Ec s
/-- functions that may raise -/
def EvFV (k : Nat) (f : Value) (vs : List V) (σ : St) (Q : V → St → Prop) (X : Bool → V → St → Prop) : Prop :=
  ∀ (A : Around) (g : Heap) (s : Shared) (fs : List Env) (Qc Ec : Value → Shared → Prop) (cvs : List Value), AOk k A → (∀ b o, Bs.get? b = some o → g.get? b = some o) → A.frames = some fs → Frs fs g σ s.heap → RH prog w g σ s.heap → VRs s.heap cvs vs →
    (∀ cv v σ' h' tk, Q v σ' → RH prog w g σ' h' → VR h' cv v → TK s.heap h' → Frs fs g σ' h' → UpS fs s.heap h' → Qc cv { s with heap := h', toks := tk }) →
    (∀ e fr av σ' h' tk, X fr av σ' → RH prog w g σ' h' → Exv g σ' (some .none) e fr av h' → TK s.heap h' → Frs fs g σ' h' → UpS fs s.heap h' → Ec (.ref e) { s with heap := h', toks := tk }) →
    wpAny (model prog w) A (call f cvs) Qc Ec s
end

section
variable {prog : Program} {w : World} {Bs : Heap} {k : Nat} {env : Env} {m : Env'} {σ σ' : St} {g g' h h' h'' : Heap} {L a d e : Addr} {fs : List Env} {av : V} {vs : List V} {mg mb : Str → Option Value} {Q : Fl → Env' → St → Prop} {X : Bool → V → Env' → St → Prop}

theorem Ev.toV {α β : Type} {P' : Heap → α → β → Prop} {t : Sem α} {Q : β → St → Prop} {X : Bool → V → St → Prop} (h : Ev prog w Bs P' k env.locals t m σ Q) : EvThV prog w Bs P' k env t m σ Q X := by
  intro A g s fs Qc Ec hA hB U R hQ hX
  let S := σ.map (·.1)
  have le : ∀ b o, g.get? b = some o → (mask s.heap S).get? b = some o := R.rh.le_mask
  have RM : Rel prog w (mask s.heap S) env.locals m σ s.heap := ⟨R.rh.masked, R.ns, R.offS⟩
  have h0 : ∀ b ∈ fAdr fs, ∀ o, s.heap.get? b = some o → (mask s.heap S).get? b = some o := fun b hb o ho => by
    rw [mask_out]; exact ho
    intro hm
    obtain ⟨p, hp, q⟩ := List.mem_map.mp hm
    exact (U.low.mem hb).2.1 p hp q
  refine h A (mask s.heap S) s Qc Ec hA (fun b o e => le b o (hB b o e)) RM fun cv v σ' h' tk hq R' p t => ?_
  exact hQ cv v σ' h' tk hq (R'.less R.rh.st le) p t (U.low.over h0 R'.rh) fun en hen L hL o ho => ⟨o.slots, R'.rh.keep _ _ (h0 L (List.mem_filterMap.mpr ⟨en, hen, hL⟩) o ho)⟩
theorem RunV.move {A : Around} (U : RunV A env fs g σ h) (F : Frs fs g σ' h') : RunV A env fs g σ' h' := ⟨U.fr, U.own, U.kind, U.none, F, U.apart⟩
theorem EvSt.toV {t : Sem Flow} (h : EvSt prog w Bs k env.locals t m σ Q) : EvStV prog w Bs k env t m σ Q X := by
  intro A g s fs Qc Ec hA hB U R hQ hX
  have le := R.le_mask U.none
  have h0 : ∀ b ∈ fAdr fs, ∀ o, s.heap.get? b = some o → (mask s.heap (env.locals :: σ.map (·.1))).get? b = some o := fun b hb o ho => by
    rw [mask_out]; exact ho
    intro hm
    rcases List.mem_cons.mp hm with q | hm
    · obtain ⟨en, hen, hf⟩ := List.mem_filterMap.mp hb
      exact U.apart en hen (by rw [hf, q])
    · obtain ⟨p, hp, q⟩ := List.mem_map.mp hm
      exact (U.low.mem hb).2.1 p hp q
  refine h A _ s Qc Ec hA (fun b o e => le b o (hB b o e)) (mask_in (.head _)) (R.masked U.none) fun cv f m' σ' h' tk hq R' fr t => ?_
  exact hQ cv f m' σ' h' tk hq (R'.less R.rh.st le) fr t (U.low.over h0 R'.rh) fun en hen L hL o ho => ⟨o.slots, R'.rh.keep _ _ (h0 L (List.mem_filterMap.mpr ⟨en, hen, hL⟩) o ho)⟩
-- statements
theorem evsV_cons {st : Stmt} {rest : List Stmt}
    (h : EvStV prog w Bs k env (exec st env) m σ (fun f m1 σ1 => match f with | .next => EvStV prog w Bs k env (execs rest env) m1 σ1 Q X | f => Q f m1 σ1) X) : EvStV prog w Bs k env (execs (st :: rest) env) m σ Q X :=
  fun A g s fs Qc Ec hA hB U R hQ hX => wpAny_execs_cons (h A g s fs _ _ hA hB U R (fun c f m1 σ1 h1 tk hq R1 e t F1 u1 => by
    cases e with
    | next => exact hq A g _ fs _ _ hA hB (U.move F1) R1 (fun c v m' σ' h' tk hq R' p t' F' u' => hQ c v m' σ' h' tk hq R' p (t.trans t') F' (u1.trans u')) fun e fl fr av m' σ' h' tk hx R' hf x t' F' u' => hX e fl fr av m' σ' h' tk hx R' hf x (t.trans t') F' (u1.trans u')
    | brk => exact hQ _ _ m1 σ1 h1 tk hq R1 .brk t F1 u1
    | cont => exact hQ _ _ m1 σ1 h1 tk hq R1 .cont t F1 u1
    | ret r => exact hQ _ _ m1 σ1 h1 tk hq R1 (.ret r) t F1 u1) hX)
theorem evsV_nil (h : Q .next m σ) : EvStV prog w Bs k env (execs [] env) m σ Q X :=
  fun A g s fs Qc Ec hA hB U R hQ hX => wpAny_execs_nil (hQ _ _ m σ s.heap s.toks h R .next (.refl _) U.low .refl)
theorem evxV_if {test : Expr} {body orelse : List Stmt} {pos : Pos}
    (h : EvB prog w Bs k env test m σ fun b σ1 => if b then EvStV prog w Bs k env (execs body env) m σ1 Q X else EvStV prog w Bs k env (execs orelse env) m σ1 Q X) : EvStV prog w Bs k env (exec (.If test body orelse pos) env) m σ Q X :=
  fun A g s fs Qc Ec hA hB U R hQ hX => wpAny_If ((Ev.toV (X := fun _ _ _ => False) h) A g s fs _ _ hA hB U R (fun c b σ1 h1 tk hq R1 e t F1 u1 => by
    subst e
    have fin : EvStV prog w Bs k env (execs (if c then body else orelse) env) m σ1 Q X := by
      cases c with
      | true => exact hq
      | false => exact hq
    have := fin A g { s with heap := h1, toks := tk } fs Qc Ec hA hB (U.move F1) R1 (fun c v m' σ' h' tk hq R' p t' F' u' => hQ c v m' σ' h' tk hq R' p (t.trans t') F' (u1.trans u')) fun e fl fr av m' σ' h' tk hx R' hf x t' F' u' => hX e fl fr av m' σ' h' tk hx R' hf x (t.trans t') F' (u1.trans u')
    cases c with
    | true => exact this
    | false => exact this) fun _ _ _ _ _ _ x => x.elim)
theorem evxV_ret {e : Expr} {pos : Pos} (h : EvThV prog w Bs VR k env (eval e env) m σ (fun v σ1 => Q (.ret v) m σ1) fun fr av σ1 => X fr av m σ1) : EvStV prog w Bs k env (exec (.Return (some e) pos) env) m σ Q X :=
  fun A g s fs Qc Ec hA hB U R hQ hX => wpAny_Return_some (h A g s fs _ _ hA hB U R (fun c b σ1 h1 tk hq R1 e t F1 u1 => hQ _ _ m σ1 h1 tk hq R1 (.ret e) t F1 u1) fun e fr av σ' h' tk hx R' x t' F' u' => hX e _ fr av m σ' h' tk hx R' (.inr (.inl rfl)) x t' F' u')
theorem RunV.store {A : Around} (U : RunV A env fs g σ h) (hs : Heap.SameBut env.locals h h') : Frs fs g σ h' ∧ UpS fs h h' := by
  have key : ∀ en ∈ fs, ∀ L, en.frame = some L → h'.get? L = h.get? L := fun en hen L hL => hs.2 L fun q => U.apart en hen (by rw [hL, q])
  refine ⟨fun en hen => ?_, fun en hen L hL o ho => ⟨o.slots, (key en hen L hL).trans ho⟩⟩
  obtain ⟨k, L, o, es, n, h1, h2, h3, h4, h5⟩ := U.low en hen
  exact ⟨k, L, o, es, n, h1, h2, h3, (key en hen L h1).trans h4, h5⟩
theorem evxV_assign {x : Str} {xp pos : Pos} {value : Expr} (h : EvThV prog w Bs VR k env (eval value env) m σ (fun v σ1 => Q .next (mset m x v) σ1) fun fr av σ1 => X fr av m σ1)
    (hs : swapsWith value (some (.Name x xp)) pos.line env = pure false := by rfl) (hl : env.kindOf x = some .local := by rfl) (hk : env.scope.kind = .function := by rfl) :
    EvStV prog w Bs k env (exec (.Assign [.Name x xp] value pos) env) m σ Q X :=
  fun A g s fs Qc Ec hA hB U R hQ hX => wpAny_Assign_Name (h A g s fs _ _ hA hB U R (fun c v σ1 h1 tk hq R1 r t F1 u1 => by
    obtain ⟨mc, hn, hm⟩ := R1.ns
    refine wpAny_storeName_local hl hn (fun h' hn' hs' => ?_) (by rw [hk]; rfl)
    obtain ⟨F2, u2⟩ := (U.move F1).store hs'
    exact hQ _ _ _ σ1 h' _ hq (R1.store U.none hn hm hn' hs' r) .next (t.trans (ns_tk hn hs')) F2 (u1.trans u2)) fun e fr av σ' h' tk hx R' x t' F' u' => hX e _ fr av m σ' h' tk hx R' (.inr (.inl rfl)) x t' F' u') hs
theorem EvStV.weak {t : Sem Flow} {m1 : Env'} {σ1 : St} (hm : leE m1 m) (hs : SubP σ1 σ) (h : EvStV prog w Bs k env t m1 σ1 Q X) : EvStV prog w Bs k env t m σ Q X :=
  fun A g s fs Qc Ec hA hB U R hQ hX => h A g s fs Qc Ec hA hB (U.move (U.low.sub fun p hp => hs.subset hp)) ((R.env hm.get).subP hs) hQ hX
theorem EvStV.mono {t : Sem Flow} {Q' : Fl → Env' → St → Prop} {X' : Bool → V → Env' → St → Prop} (h : EvStV prog w Bs k env t m σ Q X) (q : ∀ f m' σ', Q f m' σ' → Q' f m' σ') (x : ∀ fr av m' σ', X fr av m' σ' → X' fr av m' σ') : EvStV prog w Bs k env t m σ Q' X' :=
  fun A g s fs Qc Ec hA hB U R hQ hX => h A g s fs Qc Ec hA hB U R (fun c f m' σ' h' tk hq => hQ c f m' σ' h' tk (q f m' σ' hq)) fun e fl fr av m' σ' h' tk hx => hX e fl fr av m' σ' h' tk (x fr av m' σ' hx)
/-- raise ValueError(text) -/
theorem evxV_raise {np cpos pos : Pos} {e : Expr} (B : BIs Bs mg mb "ValueError" (.type "ValueError"))
    (h : EvA prog w Bs k env cpos [e] m σ fun vs σ1 => vs.length ≤ 10 ∧ X true (.tup vs) m σ1)
    (hg : env.globals = mainGlobals := by rfl) (hb : env.builtins = builtinsNs := by rfl) (hk : env.scope.kind = .function := by rfl) (hx : env.kindOf "ValueError" = some .globalImplicit := by rfl)
    (he : starEach [e] env = (false, eval e env) :: starEach [] env := by rfl) :
    EvStV prog w Bs k env (exec (.Raise (some (.Call (.Name "ValueError" np) [e] [] cpos)) none pos) env) m σ Q X := by
  intro A g s fs Qc Ec hA hB U R hQ hX
  refine Raise_madeB PySem.F.excCall_ValueError PySem.F.excRaise_ValueError hA.1 ?_ he rfl
  have hname : EvE prog w Bs k env (.Name "ValueError" np) m σ fun v σ1 => v = .raw (.type "ValueError") ∧ σ1 = σ := ev_builtin (hg ▸ B.ctx.g) B.off (hb ▸ B.ctx.b) B.val ⟨rfl, rfl⟩ hk hx (by decide)
  refine (Ev.toV (X := fun _ _ _ => False) hname) A g s fs _ _ hA hB U R (fun cv v σ0 h0 tk0 hv R0 rv t0 F0 u0 => ?_) fun _ _ _ _ _ _ x => x.elim
  obtain ⟨rfl, rfl⟩ := hv
  cases rv
  refine ⟨rfl, (Ev.toV (X := fun _ _ _ => False) h) A g _ fs _ _ hA hB (U.move F0) R0 (fun cvs vs σ1 h1 tk1 hq R1 rs t1 F1 u1 => ⟨by rw [rs.length]; exact len_ok (by have := hq.1; omega), fun h' ex hn => ?_⟩) fun _ _ _ _ _ _ x => x.elim⟩
  obtain ⟨t, q1, q2, q3⟩ := hn.there
  have kp : ∀ b o, h1.get? b = some o → h'.get? b = some o := hn.keeps
  have R2 := R1.ext kp
  have nw := new_off R1.rh hn.new
  exact hX ex none true _ m σ1 h' _ hq.2 R2 (.inl rfl) ⟨nw.1, nw.2, .ref t, .none, .tup q3 (rs.mono (.of_keep kp)), fun _ => rfl, .inl ⟨rfl, _, _, q1, rfl, rfl, rfl, rfl, rfl, by simp⟩⟩ (t0.trans (t1.trans (.of_keep kp))) (F1.move (.of_keep kp)) (u0.trans (u1.trans (.of_keep kp)))
/-- a call of a function that may raise -/
theorem evV_fn {fn : Str} {D : DefRec} {f : Addr} {pm code doc : Value} {p pos : Pos} {e : Expr} {rest : List Expr} {Q : V → St → Prop} {X : Bool → V → St → Prop} (C : Ctx Bs mg mb) (F : FnAt Bs mg fn D f pm code doc)
    (h : EvA prog w Bs k env pos (e :: rest) m σ fun vs σ1 => EvFV prog w Bs k (.ref f) vs σ1 Q X)
    (hgl : env.globals = mainGlobals := by rfl) (hk : env.scope.kind = .function := by rfl) (hx : env.kindOf fn = some .globalImplicit := by rfl) (hdb : (fn == ("__debug__" : Str)) = false := by decide)
    (he : starEach (e :: rest) env = (false, eval e env) :: starEach rest env := by rfl) :
    EvThV prog w Bs VR k env (eval (.Call (.Name fn p) (e :: rest) [] pos) env) m σ Q X := fun A g s fs Qc Ec hA hB U R hQ hX => by
  obtain ⟨fo, hf, hd⟩ := F.obj
  have hmg := F.name
  rw [F.nm] at hmg
  have hname : EvE prog w Bs k env (.Name fn p) m σ fun v σ1 => v = .raw (.ref f) ∧ σ1 = σ := ev_global (hgl ▸ C.g) hmg (.raw _) ⟨rfl, rfl⟩ hk hx hdb
  refine Call_ ?_
  refine (Ev.toV (X := fun _ _ _ => False) hname) A g s fs _ _ hA hB U R (fun cv v σ0 h0 tk0 hv R0 rv t0 F0 u0 => ?_) fun _ _ _ _ _ _ x => x.elim
  obtain ⟨rfl, rfl⟩ := hv
  cases rv
  refine callWith_def hd ((Ev.toV (X := fun _ _ _ => False) h) A g _ fs _ _ hA hB (U.move F0) R0 (fun cvs vs σ1 h1 tk1 hq R1 rs t1 F1 u1 => ?_) fun _ _ _ _ _ _ x => x.elim) he
  refine ⟨R1.rh.keep _ _ (hB _ _ hf), ?_⟩
  have FF : Frs (env :: fs) g σ1 h1 := R1.frs U.none U.own U.kind F1
  have own : ∀ {σ2 : St} {h2 : Heap}, RH prog w g σ2 h2 → TK h1 h2 → Frs (env :: fs) g σ2 h2 → UpS (env :: fs) h1 h2 → Rel prog w g env.locals m σ2 h2 := fun {σ2 h2} R2 t2 F2 u2 => by
    obtain ⟨mc, ⟨o, es, ep, ho, hdd, r⟩, hv⟩ := R1.ns
    obtain ⟨sl, hs⟩ := u2 env (.head _) env.locals U.own o ho
    exact ⟨R2, ⟨mc, ⟨_, es, ep, hs, hdd, r⟩, fun x v e => let ⟨cv, a, b⟩ := hv x v e; ⟨cv, a, b.mono t2⟩⟩, (F2.mem (b := env.locals) (by simp [fAdr, U.own])).2.1⟩
  refine hq A g _ (env :: fs) _ _ cvs hA hB U.fr FF R1.rh rs (fun cv v σ2 h2 tk2 hq2 R2 rv2 t2 F2 u2 => ?_) fun ex fr av σ2 h2 tk2 hx2 R2 x2 t2 F2 u2 => ?_
  · exact hQ cv v σ2 h2 tk2 hq2 (own R2 t2 F2 u2) rv2 (t0.trans (t1.trans t2)) (fun en hen => F2 en (.tail _ hen)) (u0.trans (u1.trans fun en hen => u2 en (.tail _ hen)))
  · exact hX ex fr av σ2 h2 tk2 hx2 (own R2 t2 F2 u2) x2 (t0.trans (t1.trans t2)) (fun en hen => F2 en (.tail _ hen)) (u0.trans (u1.trans fun en hen => u2 en (.tail _ hen)))
/-- a function of the text that may raise -/
theorem evfV_c {fn : Str} {D : DefRec} {f : Addr} {pm code doc : Value} {xs : List Str} {Q : V → St → Prop} {X : Bool → V → St → Prop} (C : Ctx Bs mg mb) (F : FnAt Bs mg fn D f pm code doc)
    (hbind : ∀ cvs : List Value, cvs.length = xs.length → bindArgs (docDef D.name D.params D.body D.scope pm code doc) ⟨cvs, []⟩ = pure (xs.zip cvs)) (hlen : vs.length = xs.length)
    (hs : lawful D.scope xs = true) (ls : Env') (st : Addr → St) (hls : locs (docDef D.name D.params D.body D.scope pm code doc) xs vs = ls) (hst : ∀ L, cellsσ (docDef D.name D.params D.body D.scope pm code doc) L xs vs ++ σ = st L)
    (h : ∀ L, EvStV prog w Bs k (callEnvC (docDef D.name D.params D.body D.scope pm code doc) L f) (execs D.body (callEnvC (docDef D.name D.params D.body D.scope pm code doc) L f)) ls (st L) (fun fl _ σ' => ∃ σ'', SubP σ'' σ' ∧ Q (retOf fl) σ'') fun fr av _ σ' => ∃ σ'', SubP σ'' σ' ∧ X fr av σ'') : EvFV prog w Bs (k + 1) (.ref f) vs σ Q X := by
  simp only [lawful, Bool.and_eq_true, decide_eq_true_eq, Bool.not_eq_true', List.all_eq_true, Bool.or_eq_true, beq_iff_eq] at hs
  obtain ⟨⟨⟨⟨⟨h1, h2⟩, h3⟩, h4⟩, h5⟩, h6⟩ := hs
  obtain ⟨o, ho, hd⟩ := F.obj
  intro A g s fs Qc Ec cvs hA hB hfr Fr R rs hQ hX
  refine evf_enterX ho hd C.lim F.code rfl hbind hlen hA hB R rs (fun h₁ tk₁ hk₁ Rc hgL hA' => ?_) rfl h1 (fun x hx => (h3 x hx).imp id fun q => ⟨q, fun n => cellsFrom_some _ _ _ _ (.inr q)⟩) h2 h4 h5 h6
  rw [hls, hst] at Rc
  have hLT : ∀ en ∈ fs, ∀ L, en.frame = some L → L < s.heap.objs.size := fun en hen L hL => by
    obtain ⟨_, L', o', es, n, q1, q2, q3, q4, q5⟩ := Fr en hen
    rw [hL] at q1; cases q1
    exact Heap.lt_size q4
  have off1 : Frs fs g (st s.heap.objs.size) h₁ := fun en hen => by
    obtain ⟨kk, L', o', es, n, q1, q2, q3, q4, q5⟩ := Fr en hen
    refine ⟨kk, L', o', es, n, q1, q2, fun p hp e => ?_, hk₁ _ _ q4, q5⟩
    have hPs := hLT en hen L' q1
    rw [← hst] at hp
    rcases List.mem_append.mp hp with hp | hp
    · obtain ⟨nc, hn, rfl⟩ := List.mem_map.mp hp
      have : ∀ (names : List (Str × NameKind)) (n : Nat) (acc : List (Str × Addr)), (∀ y ∈ acc, s.heap.objs.size < y.2) → s.heap.objs.size < n → ∀ y ∈ cellsFrom n names acc, s.heap.objs.size < y.2 := by
        intro names
        induction names with
        | nil => intro n acc ha _ y hy; exact ha y hy
        | cons p r ih =>
          intro n acc ha hn y hy
          unfold cellsFrom at hy
          split at hy
          · exact ih _ _ (fun z hz => by
              rcases List.mem_cons.mp hz with rfl | hz
              · exact hn
              · exact ha z hz) (Nat.lt_succ_of_lt hn) y hy
          · exact ih _ _ ha hn y hy
      have h9 := this _ _ [] (by simp) (Nat.lt_succ_self _) nc hn
      have e' : nc.2 = L' := e
      rw [e'] at h9
      exact Nat.lt_irrefl _ (Nat.lt_trans hPs h9)
    · exact q3 p hp e
  have hfr' : (A.deeper (callEnvC (docDef D.name D.params D.body D.scope pm code doc) s.heap.objs.size f)).frames = some (callEnvC (docDef D.name D.params D.body D.scope pm code doc) s.heap.objs.size f :: fs) := Around.frames_deeper hfr
  have U : RunV (A.deeper (callEnvC (docDef D.name D.params D.body D.scope pm code doc) s.heap.objs.size f)) (callEnvC (docDef D.name D.params D.body D.scope pm code doc) s.heap.objs.size f) fs g (st s.heap.objs.size) h₁ :=
    ⟨hfr', rfl, h6, hgL, off1, fun en hen e => Nat.lt_irrefl _ (hLT en hen _ e)⟩
  refine h s.heap.objs.size _ g _ fs _ _ hA' hB U Rc (fun c fl m' σ' h' tk' hh R' fr t F' u' => ?_) fun ex fl fr av m' σ' h' tk' hh R' hfl x' t F' u' => ?_
  · obtain ⟨σ'', sub, hq⟩ := hh
    have t' : TK s.heap h' := (TK.of_keep hk₁).trans t
    have R'' : RH prog w g σ'' h' := R'.rh.subP sub
    have F'' : Frs fs g σ'' h' := F'.sub fun p hp => sub.subset hp
    have u'' : UpS fs s.heap h' := (UpS.of_keep hk₁).trans u'
    cases fr with
    | next => exact hQ _ _ σ'' h' tk' hq R'' .none t' F'' u''
    | brk => exact hQ _ _ σ'' h' tk' hq R'' .none t' F'' u''
    | cont => exact hQ _ _ σ'' h' tk' hq R'' .none t' F'' u''
    | ret r => exact hQ _ _ σ'' h' tk' hq R'' r t' F'' u''
  · obtain ⟨σ'', sub, hx⟩ := hh
    have t' : TK s.heap h' := (TK.of_keep hk₁).trans t
    have R'' : Rel prog w g s.heap.objs.size m' σ'' h' := Rel.subP R' sub
    have F'' : Frs fs g σ'' h' := F'.sub fun p hp => sub.subset hp
    have u'' : UpS fs s.heap h' := (UpS.of_keep hk₁).trans u'
    refine leave_exv (s := { s with heap := h', toks := tk' }) hfr' rfl R''.rh (R''.frs hgL rfl h6 F'') (x'.sub fun p hp => sub.subset hp) hfl fun h2 R2 F2 u2 t2 x2 => ?_
    exact hX ex fr av σ'' h2 tk' hx R2 x2 (t'.trans t2) F2 (u''.trans u2)
end
end Mine

set_option Elab.async false
set_option linter.unusedVariables false
set_option maxRecDepth 100000
namespace Mine
open PySem PyProof.Rows PySem.Calls PySem.W PySem.Spec

theorem sub_VV : isSubtype (.type "ValueError") (.type "ValueError") = pure true := by rw [isSubtype_type]; kernel_rfl
theorem sub_VB : isSubtype (.type "ValueError") (.type "BaseException") = pure true := by rw [isSubtype_type]; kernel_rfl
theorem meta_V : isSubtype (.type ((Manifest.find? "ValueError").elim "type" fun x => x.metatype)) (.type "tuple") = pure false := by rw [isSubtype_type]; kernel_rfl
section
variable {prog : Program} {w : World} {Bs : Heap} {k : Nat} {env : Env} {m : Env'} {σ σ' : St} {g g' h h' h'' : Heap} {L a d e T : Addr} {fs : List Env} {av : V} {vs : List V} {mg mb : Str → Option Value} {Q : Fl → Env' → St → Prop} {X : Bool → V → Env' → St → Prop} {fr : Bool} {fl : Option Value} {f : Value}

theorem none_le (le : ∀ b o, g.get? b = some o → g'.get? b = some o) {b : Addr} (h : g'.get? b = none) : g.get? b = none := by
  cases q : g.get? b with
  | none => rfl
  | some o => rw [le _ _ q] at h; cases h
theorem Frs.less (F : Frs fs g' σ h) (le : ∀ b o, g.get? b = some o → g'.get? b = some o) : Frs fs g σ h := fun en hen => by
  obtain ⟨k, L, o, es, n, h1, h2, h3, h4, h5⟩ := F en hen
  exact ⟨k, L, o, es, n, h1, none_le le h2, h3, h4, h5⟩
theorem Exv.less (x : Exv g' σ fl e fr av h) (le : ∀ b o, g.get? b = some o → g'.get? b = some o) : Exv g σ fl e fr av h := by
  obtain ⟨x1, x2, a0, cx, x3, x4, x5⟩ := x
  exact ⟨none_le le x1, x2, a0, cx, x3, x4, x5.imp id fun ⟨f, T, t1, t2, t3, t4, t5, t6⟩ => ⟨f, T, t1, t2, t3, t4, none_le le t5, t6⟩⟩
theorem UpS.at (k : ∀ b ∈ fAdr fs, ∀ o, h.get? b = some o → h'.get? b = some o) : UpS fs h h' := fun en hen L hL o ho => ⟨o.slots, k L (List.mem_filterMap.mpr ⟨en, hen, hL⟩) o ho⟩
/-- everything but the frames and the ledger held fast -/
theorem RunV.held {A : Around} (U : RunV A env fs g σ h) (R : Rel prog w g env.locals m σ h) : ∃ g', (∀ b o, g.get? b = some o → g'.get? b = some o) ∧ RunV A env fs g' σ h ∧ Rel prog w g' env.locals m σ h ∧ ∀ b o, b ≠ env.locals → (∀ p ∈ σ, p.1 ≠ b) → b ∉ fAdr fs → h.get? b = some o → g'.get? b = some o := by
  let S := env.locals :: (σ.map (·.1) ++ fAdr fs)
  have le : ∀ b o, g.get? b = some o → (mask h S).get? b = some o := fun b o e => by
    rw [mask_out]
    · exact R.rh.keep b o e
    · intro hm
      rcases List.mem_cons.mp hm with rfl | hm
      · rw [U.none] at e; cases e
      · rcases List.mem_append.mp hm with hm | hm
        · obtain ⟨p, hp, q⟩ := List.mem_map.mp hm
          have := (R.rh.own p hp).1
          rw [q, e] at this; cases this
        · rw [(U.low.mem hm).1] at e; cases e
  refine ⟨mask h S, le, ⟨U.fr, U.own, U.kind, mask_in (.head _), fun en hen => ?_, U.apart⟩, ⟨⟨fun b o e => mask_sub e, R.rh.nd, fun p hp => ⟨mask_in (.tail _ (List.mem_append_left _ (List.mem_map_of_mem hp))), (R.rh.own p hp).2⟩, let ⟨o, e⟩ := R.rh.st; ⟨o, le _ _ e⟩, R.rh.low⟩, R.ns, R.offS⟩, fun b o h1 h2 h3 ho => ?_⟩
  · obtain ⟨k, L, o, es, n, h1, h2, h3, h4, h5⟩ := U.low en hen
    exact ⟨k, L, o, es, n, h1, mask_in (.tail _ (List.mem_append_right _ (List.mem_filterMap.mpr ⟨en, hen, h1⟩))), h3, h4, h5⟩
  · rw [mask_out]; exact ho
    intro hm
    rcases List.mem_cons.mp hm with q | hm
    · exact h1 q
    · rcases List.mem_append.mp hm with hm | hm
      · obtain ⟨p, hp, q⟩ := List.mem_map.mp hm
        exact h2 p hp q
      · exact h3 hm
/-- back in the frame that runs -/
theorem came_exv {M : Model} {A : Around} {E : Value → Shared → Prop} {s : Shared} (hf : env.frame = some L) (x : Exv g σ (some f) e fr av s.heap)
    (hQ : ∀ h' S, Moves S s.heap h' → Loose g σ S s.heap → Exv g σ (some (rawInt L)) e fr av h' → E (.ref e) { s with heap := h' }) : cameBackBy M A env E (.ref e) s := by
  obtain ⟨x1, x2, a0, cx, x3, x4, x5⟩ := x
  rcases x5 with ⟨q, _⟩ | ⟨f', T, q, x5, t1, t2, t3, t4⟩
  · cases q
  cases q
  obtain ⟨oe, vs, h1, h3, h5⟩ := x5.get
  unfold cameBackBy
  refine wpAny_bind (wpAny_field h1 h3 h5 ?_)
  rw [if_neg (show ¬ ((Value.ref T == Value.none) = true) from by simp)]
  rw [hf]
  exact flight_exv (fo := some L) (f := f) ⟨x1, x2, a0, cx, x3, x4, .inr ⟨f, T, rfl, x5, t1, t2, t3, t4⟩⟩ hQ
theorem pass_exv {α : Type} {M : Model} {A : Around} {what : String} {E : Value → Shared → Prop} {s : Shared} {Q : α → Shared → Prop} (hf : env.frame = some L) (x : Exv g σ (some f) e fr av s.heap)
    (hQ : ∀ h' S, Moves S s.heap h' → Loose g σ S s.heap → Exv g σ (some (rawInt L)) e fr av h' → E (.ref e) { s with heap := h' }) : wpAny M A (PySem.passOn what (.ref e) env) Q E s := by
  obtain ⟨x1, x2, a0, cx, x3, x4, x5⟩ := x
  rcases x5 with ⟨q, _⟩ | ⟨f', T, q, x5, t1, t2, t3, t4⟩
  · cases q
  cases q
  obtain ⟨oe, vs, h1, h3, h5⟩ := x5.get
  unfold PySem.passOn
  refine wpAny_bind (wpAny_field h1 h3 h5 ?_)
  rw [if_neg (show ¬ ((Value.ref T == Value.none) = true) from by simp)]
  rw [hf]
  exact wpAny_bind (flight_exv (fo := some L) (f := f) ⟨x1, x2, a0, cx, x3, x4, .inr ⟨f, T, rfl, x5, t1, t2, t3, t4⟩⟩ fun h' S a b c => wpAny_throw (hQ h' S a b c))

variable (prog w Bs) in
def ForBV (k : Nat) (env : Env) (bnd : Env' → V → Env') (body : List Stmt) (need : St → Prop) (Q : Fl → Env' → St → Prop) (X : Bool → V → Env' → St → Prop) : List V → Env' → St → Prop
  | [], m, σ => Q .next m σ
  | v :: r, m, σ => EvStV prog w Bs k env (execs body env) (bnd m v) σ (fun f m' σ' => match f with
    | .brk => Q .next m' σ'
    | .ret u => Q (.ret u) m' σ'
    | _ => need σ' ∧ ForBV k env bnd body need Q X r m' σ') X
theorem for_iterV {target : Expr} {bnd : Env' → V → Env'} {body : List Stmt} {I : Addr} {fp wr : List Addr} {need : St → Prop} {S : Nat → Heap → Prop} (W : IterT prog w target I fp wr vs need S)
    {A : Around} {s : Shared} {R' : Result → Shared → Prop} (hA : AOk k A) (hB : ∀ b o, Bs.get? b = some o → g.get? b = some o) (U : RunV A env fs g σ s.heap)
    (hasg : ∀ (i : Nat) v, vs[i]? = some v → AsgT prog w k env target v bnd)
    (R : Rel prog w g env.locals m σ s.heap) (hst : S 0 s.heap) (hfp : ∀ b ∈ fp, (b ≠ env.locals ∧ ∀ p ∈ σ, p.1 ≠ b) ∧ b ∉ fAdr fs) (hwr : ∀ b ∈ wr, g.get? b = none) (hn : need σ)
    (h : ForBV prog w Bs k env bnd body need Q X vs m σ)
    (hQ : ∀ c f m' σ' h' tk, Q f m' σ' → Rel prog w g env.locals m' σ' h' → FR h' c f → TK s.heap h' → Frs fs g σ' h' → UpS fs s.heap h' → R' (.ok c) { s with heap := h', toks := tk })
    (hX : ∀ e fr av m' σ' h' tk, X fr av m' σ' → Rel prog w g env.locals m' σ' h' → Exv g σ' (some (rawInt env.locals)) e fr av h' → TK s.heap h' → Frs fs g σ' h' → UpS fs s.heap h' → R' (.error (.ref e)) { s with heap := h', toks := tk }) :
    codeAny (model prog w) A (.forLoop target (.ref I) body [] env) R' s := by
  refine codeAny_forLoop_any (fun n s' => ∃ i m σ h tk, s' = { s with heap := h, toks := tk } ∧ i ≤ vs.length ∧ n = vs.length - i ∧ Rel prog w g env.locals m σ h ∧ RunV A env fs g σ h ∧ S i h ∧ (∀ b ∈ fp, (b ≠ env.locals ∧ ∀ p ∈ σ, p.1 ≠ b) ∧ b ∉ fAdr fs) ∧ need σ ∧
      ForBV prog w Bs k env bnd body need Q X (vs.drop i) m σ ∧ TK s.heap h ∧ UpS fs s.heap h) ?_ vs.length ⟨0, m, σ, s.heap, s.toks, rfl, Nat.zero_le _, rfl, R, U, hst, hfp, hn, by simpa using h, .refl _, .refl⟩
  clear hst hn h R hfp U
  rintro n s' ⟨i, m, σ, h, tk, rfl, hi, rfl, R, U, hst, hfp, hn, hb, ht, hu⟩
  by_cases hlt : i < vs.length
  · have hv : vs[i]? = some vs[i] := by simp [hlt]
    have hd : vs.drop i = vs[i] :: vs.drop (i + 1) := List.drop_eq_getElem_cons hlt
    rw [hd] at hb
    refine wpAny_mono (W.item A k g σ _ (fun cv s₁' => wpAny (model prog w) A (assign target env cv) (fun _ s₂ => wpAny (model prog w) A (execs body env) (fun f s₃ => match f with
            | .next | .cont => ∃ m, m < vs.length - i ∧ (fun n s' => ∃ i m σ h tk, s' = { s with heap := h, toks := tk } ∧ i ≤ vs.length ∧ n = vs.length - i ∧ Rel prog w g env.locals m σ h ∧ RunV A env fs g σ h ∧ S i h ∧ (∀ b ∈ fp, (b ≠ env.locals ∧ ∀ p ∈ σ, p.1 ≠ b) ∧ b ∉ fAdr fs) ∧ need σ ∧
      ForBV prog w Bs k env bnd body need Q X (vs.drop i) m σ ∧ TK s.heap h ∧ UpS fs s.heap h) m s₃
            | .brk => R' (.ok .next) s₃
            | .ret v => R' (.ok (.ret v)) s₃) (notedBy (model prog w) A env fun e s' => R' (.error e) s') s₂) (notedBy (model prog w) A env fun e s' => R' (.error e) s') s₁') _ i _ hA R.rh hn hst hv fun cv h1 tk1 r1 st1 kp1 t1 => ?_) (fun r s₁ hx => by obtain ⟨cv, e, hw⟩ := hx; subst e; exact hw) fun _ _ e => e
    have R1 := R.but kp1 (fun b hb => ⟨hwr b hb, (hfp b (W.sub b hb)).1⟩) t1
    have u1 : UpS fs h h1 := UpS.at fun b hb o ho => kp1 b o (fun hm => (hfp b (W.sub b hm)).2 hb) ho
    have U1 : RunV A env fs g σ h1 := U.move (U.low.move u1)
    refine hasg i _ hv A g m σ _ cv _ _ hA U.none R1 r1 fun h2 tk2 R2 t2 kp2 => ?_
    have u2 : UpS fs h1 h2 := UpS.at fun b hb o ho => kp2 b o (fun q => by
      obtain ⟨en, hen, hf⟩ := List.mem_filterMap.mp hb
      exact U.apart en hen (by rw [hf, q])) ho
    have U2 : RunV A env fs g σ h2 := U1.move (U1.low.move u2)
    have st2 : S (i + 1) h2 := W.frame _ _ _ st1 (fun b hb o e => kp2 b o (hfp b hb).1.1 e) t2
    obtain ⟨g', le, U2', R2', hold⟩ := U2.held R2
    have key : ∀ {m' σ' h3}, Rel prog w g' env.locals m' σ' h3 → (∀ b ∈ fp, ∀ o, h2.get? b = some o → h3.get? b = some o) ∧ ∀ b ∈ fp, (b ≠ env.locals ∧ ∀ p ∈ σ', p.1 ≠ b) ∧ b ∉ fAdr fs := fun {m' σ' h3} R3 =>
      ⟨fun b hb o e => R3.rh.keep b o (hold b o (hfp b hb).1.1 (hfp b hb).1.2 (hfp b hb).2 e), fun b hb => ⟨⟨(hfp b hb).1.1, fun p hp q => by
        obtain ⟨o, ho⟩ := W.there _ _ st2 b hb
        have := (R3.rh.own p hp).1
        rw [q, hold b o (hfp b hb).1.1 (hfp b hb).1.2 (hfp b hb).2 ho] at this; cases this⟩, (hfp b hb).2⟩⟩
    refine hb A g' _ fs _ _ hA (fun b o e => le b o (hB b o e)) U2' R2' (fun c f m' σ' h3 tk3 hq R3 fr t3 F3 u3 => ?_) fun e fl fr av m' σ' h3 tk3 hx R3 hfl x3 t3 F3 u3 => ?_
    · have R3' := R3.less R2.rh.st le
      have st3 := W.frame _ _ _ st2 (key R3).1 t3
      have tt : TK s.heap h3 := ht.trans (t1.trans (t2.trans t3))
      have uu : UpS fs s.heap h3 := hu.trans (u1.trans (u2.trans u3))
      have FF : Frs fs g σ' h3 := F3.less le
      cases fr with
      | next => exact ⟨_, by omega, i + 1, m', σ', h3, tk3, rfl, hlt, rfl, R3', U2.move FF, st3, (key R3).2, hq.1, hq.2, tt, uu⟩
      | cont => exact ⟨_, by omega, i + 1, m', σ', h3, tk3, rfl, hlt, rfl, R3', U2.move FF, st3, (key R3).2, hq.1, hq.2, tt, uu⟩
      | brk => exact hQ _ _ m' σ' h3 tk3 hq R3' .next tt FF uu
      | ret r => exact hQ _ _ m' σ' h3 tk3 hq R3' (.ret r) tt FF uu
    · have R3' := R3.less R2.rh.st le
      have tt : TK s.heap h3 := ht.trans (t1.trans (t2.trans t3))
      have uu : UpS fs s.heap h3 := hu.trans (u1.trans (u2.trans u3))
      have FF : Frs fs g σ' h3 := F3.less le
      have FF' := R3'.frs U.none U.own U.kind FF
      refine note_exv (s := { s with heap := h3, toks := tk3 }) U.fr U.own R3'.rh FF' (x3.less le) hfl fun h4 S4 M4 l4 x4 => ?_
      have t4 := l4.tk M4
      have u4 : UpS (env :: fs) h3 h4 := UpS.moves FF' M4
      have u4' : UpS fs h3 h4 := fun en hen => u4 en (.tail _ hen)
      exact hX e fr av m' σ' h4 tk3 hx (R3'.moves M4 t4 l4.off) x4 (tt.trans t4) (FF.move u4') (uu.trans u4')
  · have e : i = vs.length := by omega
    subst e
    refine W.done A k g σ _ _ _ hA R.rh hn hst fun h1 tk1 kp1 t1 => ?_
    have R1 := R.but kp1 (fun b hb => ⟨hwr b hb, (hfp b (W.sub b hb)).1⟩) t1
    have u1 : UpS fs h h1 := UpS.at fun b hb o ho => kp1 b o (fun hm => (hfp b (W.sub b hm)).2 hb) ho
    refine wpAny_execs_nil (hQ _ _ m σ h1 tk1 ?_ R1 .next (ht.trans t1) (U.low.move u1) (hu.trans u1))
    rw [List.drop_length] at hb
    exact hb
-- enumerate(list, 1)
abbrev enumO1 (it : Addr) : Obj := { cls := .type "enumerate", dict := none, data := .fields #[.none, .bool false, .ref it, rawInt 1, .none, .none], slots := #[] }
abbrev liO (a : Addr) : Obj := { cls := .type "list_iterator", data := .fields #[.ref a, .int 0 0] }
theorem draws1 {A : Around} (hh : A.handled = none) {it a : Addr} (hne : a ≠ it) (items : Array Value) :
    Draws prog w A it [it, a] (items.size + 1) (fun i v => 1 ≤ i ∧ items[i - 1]? = some v) (fun i h => 1 ≤ i ∧ h.IsListIter it a (i - 1) ∧ h.IsList a items) := by
  have D := Draws.list (prog := prog) (w := w) hh it a hne items
  refine ⟨fun i h st => D.live (i - 1) h st.2, fun i h h' st kp => ⟨st.1, D.frame (i - 1) h h' st.2 kp⟩, fun i s Q E hi st hQ => ?_, fun s Q E st hE => ?_⟩
  · have h1 := st.1
    refine D.item (i - 1) s Q E (by omega) st.2 fun x h' tk p st' sb => hQ x h' tk ⟨h1, p⟩ ⟨by omega, ?_⟩ sb
    have e : i - 1 + 1 = i + 1 - 1 := by omega
    rw [e] at st'; exact st'
  · exact D.done s Q E (by have := st.2; rwa [Nat.add_sub_cancel] at this) hE
theorem iterT_enum1 {es : List Expr} {kk : Nat} {tp : Pos} {e it : Addr} {ob : O} (nei : e ≠ it) (nea : e ≠ a) (nia : it ≠ a) (hl : ob.peel = .list vs) :
    IterT prog w (.Tuple es kk tp) e [e, it] [e, it] (enumV 1 vs) (fun σ => (a, ob) ∈ σ) (fun i h => (∃ old, IsEnum h e it ((i + 1 : Nat) : Int) old) ∧ h.IsListIter it a i) := by
  refine ⟨fun _ hb => hb, ?_, ?_, ?_, ?_⟩
  · rintro i h ⟨⟨old, he⟩, o, ho, _⟩ b hb
    rcases List.mem_cons.mp hb with rfl | hb
    · exact ⟨_, he⟩
    · rw [List.mem_singleton.mp hb]; exact ⟨o, ho⟩
  · rintro i h h' ⟨⟨old, he⟩, st⟩ kp _
    exact ⟨⟨old, kp e (.head _) _ he⟩, st.at fun o e => kp it (.tail _ (.head _)) o e⟩
  · intro A' k' g' σ2 s' Qc' Ec' i u hA' R' hn st hv hQ'
    obtain ⟨⟨old, he⟩, hit⟩ := st
    obtain ⟨v, hv2, rfl⟩ := enumV_get hv
    obtain ⟨cvs, n, ho, rs⟩ := R'.list_at hn hl
    obtain ⟨cv, hc, rv⟩ := rs.get hv2
    have hlt : i < cvs.length := (List.getElem?_eq_some_iff.mp hc).1
    refine wpAny_pyNext_enum_itemD (draws1 (A := A'.in1) hA'.1 (Ne.symm nia) cvs.toArray) he ⟨by omega, by simpa using hit, ⟨_, ho, rfl, n, rfl⟩⟩ (by simp; omega) nei (by simp [nei, nea]) fun x h1 tk1 hx heo hit1 ht1 hz1 kp1 => ⟨_, rfl, ?_⟩
    have ex : x = cv := by
      have h1 := hx.2
      rw [Nat.add_sub_cancel] at h1
      have h2 : cvs[i]? = some x := by simpa using h1
      rw [hc] at h2; exact (Option.some.inj h2).symm
    subst ex
    refine wpAny_letOwnedTupleGo_enum heo fun h2 he2 hs2 => ?_
    replace hs2 : Heap.SameBut e h1 h2 := hs2
    have kp : ∀ b o, b ∉ [e, it] → s'.heap.get? b = some o → h2.get? b = some o := fun b o hb x => by
      simp only [List.mem_cons, List.not_mem_nil, or_false, not_or] at hb
      exact (hs2.2 b hb.1).trans (kp1 b o hb.1 hb.2 x)
    have t : TK s'.heap h2 := tk_but kp fun b hb => by
      rcases List.mem_cons.mp hb with rfl | hb
      · exact not_tup he rfl (by decide)
      · rw [List.mem_singleton.mp hb]
        obtain ⟨o, ho', hc', _⟩ := hit
        exact not_tup ho' hc' (by decide)
    have hes : e ≠ s'.heap.objs.size := Nat.ne_of_lt (Heap.lt_size he)
    have ht2 : h2.get? s'.heap.objs.size = some (tupO [.int ((i + 1 : Nat) : Int) tk1, x] 0) := (hs2.2 _ hes.symm).trans ht1
    refine hQ' _ h2 _ ?_ ⟨⟨x, ?_⟩, ?_⟩ kp t
    · rw [show 1 + i = i + 1 by omega]
      exact .tup ht2 (.cons (.int ..) (.cons (rv.mono t) .nil))
    · have : ((i + 1 + 1 : Nat) : Int) = ((i + 1 : Nat) : Int) + 1 := by push_cast; rfl
      rw [this]; exact he2
    · have h9 := hit1.2.1
      exact h9.at fun o x => (hs2.2 it (Ne.symm nei)).trans x
  · intro A' k' g' σ2 s' Qc' Ec' hA' R' hn st hQ'
    obtain ⟨⟨old, he⟩, hit⟩ := st
    rw [enumV_length] at he hit
    obtain ⟨cvs, n, ho, rs⟩ := R'.list_at hn hl
    refine wpAny_pyNext_enum_endD (draws1 (A := A'.in1) hA'.1 (Ne.symm nia) cvs.toArray) he ⟨by omega, by simpa [rs.length] using hit, ⟨_, ho, rfl, n, rfl⟩⟩ fun h1 hx1 => ?_
    have kp : ∀ b o, b ∉ [e, it] → s'.heap.get? b = some o → h1.get? b = some o := fun b o hb x => by
      simp only [List.mem_cons, List.not_mem_nil, or_false, not_or] at hb
      exact hx1 b o hb.2 x
    have t : TK s'.heap h1 := tk_but kp fun b hb => by
      rcases List.mem_cons.mp hb with rfl | hb
      · exact not_tup he rfl (by decide)
      · rw [List.mem_singleton.mp hb]
        obtain ⟨o, ho', hc', _⟩ := hit
        exact not_tup ho' hc' (by decide)
    exact hQ' h1 s'.toks kp t
theorem evxV_for_enum1 {xa xb : Str} {pa pb : Pos} {kk : Nat} {tp pos : Pos} {iter : Expr} {body : List Stmt}
    (h : EvE prog w Bs k env iter m σ fun v σ1 => ∃ e it a ob vs σ0, v = .ref e ∧ σ1 = (e, .obj (enumO1 it)) :: (it, .obj (liO a)) :: σ0 ∧ (a, ob) ∈ σ0 ∧ ob.peel = .list vs ∧ ForBV prog w Bs k env (bndT [xa, xb]) body (fun σ => (a, ob) ∈ σ) Q X (enumV 1 vs) m σ0)
    (hxa : env.kindOf xa = some .local := by rfl) (hxb : env.kindOf xb = some .local := by rfl) (hk : env.scope.kind = .function := by rfl) (hs : ∀ x, foldedSetIterable iter env x = pure x := by intro _; rfl) :
    EvStV prog w Bs k env (exec (.For (.Tuple [.Name xa pa, .Name xb pb] kk tp) iter body [] pos) env) m σ Q X := by
  intro A g s fs Qc Ec hA hB U R hQ hX
  refine wpAny_For ((Ev.toV (X := fun _ _ _ => False) h) A g s fs _ _ hA hB U R (fun cv v σ1 h1 tk1 hi R1 r1 t1 F1 u1 => ?_) fun _ _ _ _ _ _ x => x.elim) hs
  obtain ⟨e, it, a, ob, vs, σ0, rfl, rfl, hm, hl, hb⟩ := hi
  cases r1
  obtain ⟨ge, oe, hoe, ee⟩ := R1.rh.own _ (.head _)
  obtain ⟨gi, oi, hoi, ei⟩ := R1.rh.own _ (.tail _ (.head _))
  have ee' : oe = enumO1 it := ee
  have ei' : oi = liO a := ei
  subst ee' ei'
  have R2 : Rel prog w g env.locals m σ0 h1 := R1.sub ((List.sublist_cons_self _ _).trans (List.sublist_cons_self _ _))
  have nd := R1.rh.nd
  simp only [List.map_cons, List.nodup_cons, List.mem_cons, not_or] at nd
  obtain ⟨⟨nei, nes⟩, nis, _⟩ := nd
  have nea : e ≠ a := fun q => nes (List.mem_map.mpr ⟨_, hm, q.symm⟩)
  have nia : it ≠ a := fun q => nis (List.mem_map.mpr ⟨_, hm, q.symm⟩)
  have hT : ({ s with heap := h1, toks := tk1 } : Shared).TypeIs (.ref e) "enumerate" := ⟨_, hoe, rfl⟩
  refine wpAny_pyIter_slot hT F.slot_enumerate_iter (wpAny_call_entry F.slot_enumerate_iter hT F.entry_enumerate_iter ?_ (F.args_enumerate_iter_1 _))
  show wpAny _ _ (ret (.ref e)) _ _ _
  refine wpAny_pure ⟨_, rfl, "enumerate", _, hT, F.slot_enumerate_next.lookup, ?_⟩
  have F0 : Frs fs g σ0 h1 := F1.sub fun p hp => .tail _ (.tail _ hp)
  refine for_iterV (s := { s with heap := h1, toks := tk1 }) (iterT_enum1 (es := [.Name xa pa, .Name xb pb]) (kk := kk) (tp := tp) nei nea nia hl) hA hB (U.move F0) (fun i v hv => ?_) R2 ⟨⟨_, hoe⟩, ⟨_, hoi, rfl, rfl⟩⟩ (fun b hb => ?_) (fun b hb => ?_) hm hb (fun c f m' σ' h' tk hq R' fr t F' u' => hQ c f m' σ' h' tk hq R' fr (t1.trans t) F' (u1.trans u')) fun e fr av m' σ' h' tk hx R' x t F' u' => ?_
  · obtain ⟨u, _, rfl⟩ := enumV_get hv
    exact asg_tuple (es := [(xa, pa), (xb, pb)]) hk (fun p hp => by
      rcases List.mem_cons.mp hp with rfl | hp
      · exact hxa
      · rw [List.mem_singleton.mp hp]; exact hxb) rfl
  · rcases List.mem_cons.mp hb with rfl | hb
    · exact ⟨⟨R1.offS _ (.head _), fun p hp q => nes (List.mem_map.mpr ⟨p, hp, q⟩)⟩, fun hm => (F1.mem hm).2.1 _ (.head _) rfl⟩
    · rw [List.mem_singleton.mp hb]
      exact ⟨⟨R1.offS _ (.tail _ (.head _)), fun p hp q => nis (List.mem_map.mpr ⟨p, hp, q⟩)⟩, fun hm => (F1.mem hm).2.1 _ (.tail _ (.head _)) rfl⟩
  · rcases List.mem_cons.mp hb with rfl | hb
    · exact ge
    · rw [List.mem_singleton.mp hb]; exact gi
  · refine came_exv (s := { s with heap := h', toks := tk }) U.own x fun h4 S4 M4 l4 x4 => ?_
    have t4 := l4.tk M4
    have u4 : UpS fs h' h4 := UpS.moves F' M4
    exact hX e _ fr av m' σ' h4 tk hx (R'.moves M4 t4 l4.off) (.inr (.inr rfl)) x4 (t1.trans (t.trans t4)) (F'.move u4) (u1.trans (u'.trans u4))
end
end Mine

set_option Elab.async false
set_option linter.unusedVariables false
set_option maxRecDepth 100000
namespace Mine
open PySem PyProof.Rows PySem.Calls PySem.W PySem.Spec

section
open AutoSeq1 (wpAny_loadPart')
set_option maxHeartbeats 1000000 in
theorem meets_enum1 (l : Addr) (items : Array Value) (n : Nat) (t : Tok) :
    Meets (Builtin.«enumerate.__new__» ⟨[.type "enumerate", .ref l, .int 1 t], []⟩) (fun _ R s => s.heap.get? l = some { cls := .type "list", data := .seq items n } ∧
      R (.ok (.ret (.ref (s.heap.push (liO l)).objs.size))) { s with heap := (s.heap.push (liO l)).push (enumO1 s.heap.objs.size) }) :=
  .of_wp fun prog w A R s h => by
    obtain ⟨hp, g, d, tk, os⟩ := s; obtain ⟨hl, h⟩ := h
    have hsub := sub_enumerate
    have hL : Heap.IsList (Shared.heap ⟨hp, g, d, tk, os⟩) l items := ⟨_, hl, rfl, n, rfl⟩
    wp_walk using wpAny_loadPart' hl
    refine wpAny_stack_any fun st => wpAny_pure ?_
    split
    · rename_i c _ _ _ _ _
      cases (c == Value.type "enumerate")
      · wp_walk using wpAny_loadPart' hl, wpAny_pyIter_list hL
        exact ⟨_, rfl, h⟩
      · wp_walk using wpAny_loadPart' hl, wpAny_pyIter_list hL
        exact ⟨_, rfl, h⟩
    · wp_walk using wpAny_loadPart' hl, wpAny_pyIter_list hL
      exact ⟨_, rfl, h⟩
theorem typeCall_enum2 (a b : Value) : checkTypeCall "enumerate" ⟨[a, b], []⟩ = pure () := by kernel_rfl
theorem newCall_enum2 (a b : Value) : checkBuiltinCall "enumerate.__new__" ⟨[.type "enumerate", a, b], []⟩ = pure () := by kernel_rfl
end
end Mine

set_option Elab.async false
set_option linter.unusedVariables false
set_option maxRecDepth 100000
namespace Mine
open PySem PyProof.Rows PySem.Calls PySem.W PySem.Spec

section
variable {prog : Program} {w : World} {Bs : Heap} {k : Nat} {env : Env} {m : Env'} {σ σ' : St} {g g' h h' h'' : Heap} {L a d e T : Addr} {fs : List Env} {av : V} {vs : List V} {mg mb : Str → Option Value} {Q : Fl → Env' → St → Prop} {X : Bool → V → Env' → St → Prop} {fr : Bool} {fl : Option Value} {f : Value} {ob : O}
theorem bf_enum1 {Q : V → St → Prop} (hm : (a, ob) ∈ σ) (hl : ob.peel = .list vs) (hq : ∀ e it, Q (.ref e) ((e, .obj (enumO1 it)) :: (it, .obj (liO a)) :: σ)) : EvF prog w Bs k (.type "enumerate") [.ref a, .int 1] σ Q := by
  intro A g s Qc Ec cvs hA hB R rs hQ
  cases rs with
  | cons r rs =>
    cases r
    cases rs with
    | cons r rs =>
      cases r; cases rs
      obtain ⟨cl, n, ho, rl⟩ := R.list_at hm hl
      refine callType_new F.called_enumerate (by decide) (typeCall_enum2 _ _) (newCall_enum2 _ _) (fun obj => F.args_object_init_3 obj _ _) F.entry_enumerate_new
        (meets_enum1 a cl.toArray n _) ⟨ho, ?_⟩
      have kp1 := push_keep s.heap (liO a)
      have R1 := R.new (ao := .obj (liO a)) kp1 (Nat.le_refl _) (Heap.get?_push_size _ rfl) rfl
      have kp2 := push_keep (s.heap.push (liO a)) (enumO1 s.heap.objs.size)
      have R2 := R1.new (ao := .obj (enumO1 s.heap.objs.size)) kp2 (Nat.le_refl _) (Heap.get?_push_size _ rfl) rfl
      exact ⟨⟨_, Heap.get?_push_size _ rfl, rfl⟩, hQ _ _ _ _ s.toks (hq _ _) R2 (.ref _) (.of_keep fun b o e => kp2 b o (kp1 b o e))⟩

/-- the exception stays when another place changes -/
theorem Exv.same (x : Exv g σ fl e fr av h) (hL : ∀ vs o, h.get? L = some o → o.data ≠ .fields vs) (kp : ∀ b o, b ≠ L → h.get? b = some o → h'.get? b = some o) (tk : TK h h') : Exv g σ fl e fr av h' := by
  have ke : ∀ {e a0 cx tb}, EOb h e a0 cx tb → EOb h' e a0 cx tb := fun {e a0 cx tb} x => by
    obtain ⟨oe, vs, h1, h2, h3, r⟩ := x
    exact ⟨oe, vs, kp _ _ (fun q => hL vs oe (q ▸ h1) h3) h1, h2, h3, r⟩
  have kt : ∀ {T f}, TOb h T f → TOb h' T f := fun {T f} x => by
    obtain ⟨oe, vs, h1, h3, r⟩ := x
    exact ⟨oe, vs, kp _ _ (fun q => hL vs oe (q ▸ h1) h3) h1, h3, r⟩
  obtain ⟨x1, x2, a0, cx, x3, x4, x5⟩ := x
  exact ⟨x1, x2, a0, cx, x3.mono tk, x4, x5.imp (fun q => ⟨q.1, ke q.2⟩) fun ⟨f, T, t1, t2, t3, t4, t5, t6⟩ => ⟨f, T, t1, ke t2, kt t3, t4, t5, t6⟩⟩
theorem Exv.ext (x : Exv g σ fl e fr av h) (kp : ∀ b o, h.get? b = some o → h'.get? b = some o) : Exv g σ fl e fr av h' := by
  obtain ⟨x1, x2, a0, cx, x3, x4, x5⟩ := x
  exact ⟨x1, x2, a0, cx, x3.mono (.of_keep kp), x4, x5.imp (fun ⟨q, oe, vs, h1, r⟩ => ⟨q, oe, vs, kp _ _ h1, r⟩) fun ⟨f, T, t1, ⟨oe, vs, h1, r⟩, ⟨oT, ts, h2, r2⟩, t4, t5, t6⟩ => ⟨f, T, t1, ⟨oe, vs, kp _ _ h1, r⟩, ⟨oT, ts, kp _ _ h2, r2⟩, t4, t5, t6⟩⟩
theorem Rel.dictL (R : Rel prog w g L m σ h) : ∀ vs o, h.get? L = some o → o.data ≠ .fields vs := fun vs o ho q => by
  obtain ⟨mc, ⟨o', es, ep, h1, h2, _⟩, _⟩ := R.ns
  rw [h1] at ho; cases ho; rw [h2] at q; cases q
/-- what it says, in the model's words -/
theorem Exv.excAt {msg : Str} (x : Exv g σ fl e fr (.tup [.str msg]) h) : ∃ t0 tk, h.ExcAt e "ValueError" (.ref t0) ∧ h.TupAt t0 [.str msg tk] := by
  obtain ⟨x1, x2, a0, cx, x3, x4, x5⟩ := x
  cases x3 with
  | @tup t cvs n _ ho rs =>
    cases rs with
    | cons r rs =>
      cases r; cases rs
      have : ∃ tb, EOb h e (.ref t) cx tb := by
        rcases x5 with ⟨_, y⟩ | ⟨f, T, _, y, _⟩
        · exact ⟨_, y⟩
        · exact ⟨_, y⟩
      obtain ⟨tb, oe, vs, h1, h2, h3, h4, _⟩ := this
      exact ⟨t, _, ⟨oe, vs, h1, h2, h3, h4⟩, _, n, ho, rfl, rfl⟩
theorem Exv.itsOb (x : Exv g σ fl e fr av h) : ∃ a0 cx tb, EOb h e a0 cx tb ∧ (fr = true → cx = .none) := by
  obtain ⟨x1, x2, a0, cx, x3, x4, x5⟩ := x
  rcases x5 with ⟨_, y⟩ | ⟨f, T, _, y, _⟩
  · exact ⟨_, _, _, y, x4⟩
  · exact ⟨_, _, _, y, x4⟩

/-- as far as the clause's own suite -/
theorem caught {n : Str} {np hp : Pos} {b₀ : Stmt} {suite : List Stmt} {rest : List ExceptHandler} {A : Around} {s : Shared} {Qc : Flow → Shared → Prop} {Ec : Value → Shared → Prop} (B : BIs Bs mg mb "ValueError" (.type "ValueError")) (hB : ∀ b o, Bs.get? b = some o → g.get? b = some o)
    (U : RunV A env fs g σ s.heap) (R : Rel prog w g env.locals m σ s.heap) (hfl : HereFl env.locals fl) (x : Exv g σ fl e fr av s.heap)
    (hg : env.globals = mainGlobals) (hb : env.builtins = builtinsNs) (hx : env.kindOf "ValueError" = some .globalImplicit) (hl : env.kindOf n = some .local)
    (K : ∀ h' tk, RunV A env fs g σ h' → Rel prog w g env.locals (mset m n (.raw (.ref e))) σ h' → Exv g σ (some .none) e fr av h' → TK s.heap h' → UpS fs s.heap h' →
      wpAny (model prog w) (A.mark (some (.ref e))) (execs (b₀ :: suite) env) (fun f s₄ => wpAny (model prog w) A (do bindName env n .none; unbindBehindTheSuite env n hp) (fun _ s₅ => Qc f s₅) Ec s₄)
        (fun x s₄ => wpAny (model prog w) (A.mark (some (.ref e))) (noteFrame x env) (fun _ s₄' =>
          wpAny (model prog w) (A.mark (some (.ref e))) (do bindName env n .none; unbindBehindTheSuite env n hp)
            (fun _ s₅ => wpAny (model prog w) (A.mark (some (.ref e))) (PySem.passOn "try.except-as" x env : Sem Flow) (fun _ _ => False) (notedBy (model prog w) (A.mark (some (.ref e))) env (cameBackBy (model prog w) A env Ec)) s₅)
            (fun y s₅ => wpAny (model prog w) (A.mark (some (.ref e))) (setFlight x none) (fun _ s₆ => (notedBy (model prog w) (A.mark (some (.ref e))) env (cameBackBy (model prog w) A env Ec)) y s₆) (notedBy (model prog w) (A.mark (some (.ref e))) env (cameBackBy (model prog w) A env Ec)) s₅) s₄') (notedBy (model prog w) (A.mark (some (.ref e))) env (cameBackBy (model prog w) A env Ec)) s₄) { s with heap := h', toks := tk }) :
    wpAny (model prog w) A (noteFrame (.ref e) env) (fun _ s₂ => wpAny (model prog w) A (setFlight (.ref e) none) (fun _ s₃ => wpAny (model prog w) A (handleBy (.ref e) env (.ExceptHandler (some (.Name "ValueError" np)) (some n) (b₀ :: suite) hp :: rest)) Qc Ec s₃) Ec s₂) Ec s := by
  have FF := R.frs U.none U.own U.kind U.low
  refine note_exv U.fr U.own R.rh FF x hfl fun h1 S1 M1 l1 x1 => ?_
  have t1 := l1.tk M1
  have R1 := R.moves M1 t1 l1.off
  have u1 : UpS (env :: fs) s.heap h1 := UpS.moves FF M1
  have F1 := FF.move u1
  refine flight_exv (s := { s with heap := h1 }) x1 fun h2 S2 M2 l2 x2 => ?_
  have t2 := l2.tk M2
  have R2 := R1.moves M2 t2 l2.off
  have u2 : UpS (env :: fs) h1 h2 := UpS.moves F1 M2
  have F2 := F1.move u2
  obtain ⟨a0, cx, tb, ⟨oe, vs, y1, y2, y3, _⟩, _⟩ := x2.itsOb
  have kp : ∀ b o, Bs.get? b = some o → h2.get? b = some o := fun b o e => R2.rh.keep b o (hB b o e)
  refine wpAny_handleBy_builtin_as sub_VB meta_V sub_VV (Calls.Name_function_global U.kind hx (Calls.loadGlobal_builtin ((hg ▸ B.ctx.g : Bs.Ns env.globals mg).keeps kp) B.off ((hb ▸ B.ctx.b : Bs.Ns env.builtins mb).keeps kp) B.val ⟨rfl, ⟨oe, y1, y2⟩, ?_⟩) (by decide))
  rw [if_pos rfl]
  refine flight_exv (s := { s with heap := h2 }) x2 fun h3 S3 M3 l3 x3 => ?_
  have t3 := l3.tk M3
  have R3 := R2.moves M3 t3 l3.off
  have u3 : UpS (env :: fs) h2 h3 := UpS.moves F2 M3
  have F3 := F2.move u3
  have F3' : Frs fs g σ h3 := fun en hen => F3 en (.tail _ hen)
  obtain ⟨mc, hn, hm⟩ := R3.ns
  refine wpAny_storeName_local hl hn (fun h4 hn' hs' => ?_) (by rw [U.kind]; rfl)
  have t4 := ns_tk hn hs'
  obtain ⟨F4, u4⟩ := (U.move F3').store hs'
  refine K h4 _ (U.move F4) (R3.store U.none hn hm hn' hs' (.raw _)) (x3.same R3.dictL (fun b o hb eb => (hs'.2 b hb).trans eb) t4) (t1.trans (t2.trans (t3.trans t4))) (UpS.trans (fun en hen => ((u1.trans u2).trans u3) en (.tail _ hen)) u4)
/-- the name goes -/
theorem name_goes {A : Around} {E : Value → Shared → Prop} {s : Shared} {n : Str} {pos : Pos} {Q : Unit → Shared → Prop} {m1 : Env'} (U : RunV A env fs g σ s.heap) (R : Rel prog w g env.locals m σ s.heap) (hl : env.kindOf n = some .local) (hm1 : ∀ x v, m1.lookup x = some v → x ≠ n ∧ m.lookup x = some v) {A' : Around}
    (hQ : ∀ h' tk, Rel prog w g env.locals m1 σ h' → TK s.heap h' → Frs fs g σ h' → UpS fs s.heap h' → (∀ b o, b ≠ env.locals → s.heap.get? b = some o → h'.get? b = some o) → Q () { s with heap := h', toks := tk }) :
    wpAny (model prog w) A' (do bindName env n .none; unbindBehindTheSuite env n pos) Q E s := by
  obtain ⟨mc, hn, hm⟩ := R.ns
  refine wpAny_nameGoes_keeps hl hn (by rw [U.kind]; rfl) fun h1 v hn' hs' => ?_
  have t1 := ns_tk hn hs'
  obtain ⟨F1, u1⟩ := U.store hs'
  refine hQ h1 _ ⟨⟨fun b o e => (hs'.2 b fun q => ?_).trans (R.rh.keep b o e), R.rh.nd, fun p hp => ?_, R.rh.st, R.rh.low⟩, ⟨_, hn', fun y u e => ?_⟩, R.offS⟩ t1 F1 u1 fun b o hb e => (hs'.2 b hb).trans e
  · rw [q, U.none] at e; cases e
  · obtain ⟨h1, o, h2, h3⟩ := R.rh.own p hp
    exact ⟨h1, o, (hs'.2 _ (R.offS p hp)).trans h2, h3.mono _ _ t1⟩
  · obtain ⟨q1, q2⟩ := hm1 y u e
    obtain ⟨cu, a, b⟩ := hm y u q2
    exact ⟨cu, by simp [q1, a], b.mono t1⟩
/-- try: … except ValueError as n: x = str(n) -/
theorem evxV_try_said {body : List Stmt} {n x : Str} {np hp xp sp np2 cp ap pos : Pos} {hs : List ExceptHandler} (B : BIs Bs mg mb "ValueError" (.type "ValueError")) (Bs' : BIs Bs mg mb "str" (.type "str"))
    (h : EvStV prog w Bs k env (execs body env) m σ Q fun fr av m1 σ1 => ∃ msg, av = .tup [.str msg] ∧ m1.lookup n = none ∧ Q .next (mset m1 x (.str msg)) σ1)
    (hg : env.globals = mainGlobals := by rfl) (hb : env.builtins = builtinsNs := by rfl) (hx : env.kindOf "ValueError" = some .globalImplicit := by rfl) (hx2 : env.kindOf "str" = some .globalImplicit := by rfl) (hl : env.kindOf n = some .local := by rfl) (hlx : env.kindOf x = some .local := by rfl) (hne : x ≠ n := by decide) (hnd : (n == ("__debug__" : Str)) = false := by decide)
    (hsw : swapsWith (.Call (.Name "str" sp) [.Name n np2] [] cp) (some (.Name x xp)) ap.line env = pure false := by rfl) (he : starEach [.Name n np2] env = (false, eval (.Name n np2) env) :: starEach [] env := by rfl) :
    EvStV prog w Bs k env (exec (.Try body (.ExceptHandler (some (.Name "ValueError" np)) (some n) [.Assign [.Name x xp] (.Call (.Name "str" sp) [.Name n np2] [] cp) ap] hp :: hs) [] [] pos) env) m σ Q X := by
  intro A g s fs Qc Ec hA hB U R hQ hX
  refine wpAny_Try_except (h A g s fs _ _ hA hB U R (fun c f m1 σ1 h1 tk hq R1 fr t F1 u1 => ?_) fun e fl fr av m1 σ1 h1 tk hx' R1 hfl xx t F1 u1 => ?_)
  · cases fr with
    | next => exact wpAny_execs_nil (hQ _ _ m1 σ1 h1 tk hq R1 .next t F1 u1)
    | brk => exact hQ _ _ m1 σ1 h1 tk hq R1 .brk t F1 u1
    | cont => exact hQ _ _ m1 σ1 h1 tk hq R1 .cont t F1 u1
    | ret r => exact hQ _ _ m1 σ1 h1 tk hq R1 (.ret r) t F1 u1
  · obtain ⟨msg, rfl, hmn, hq⟩ := hx'
    refine caught (s := { s with heap := h1, toks := tk }) B hB (U.move F1) R1 hfl xx hg hb hx hl fun h2 tk2 U2 R2 x2 t2 u2 => ?_
    obtain ⟨t0, tkm, ea, ta⟩ := x2.excAt
    have kp : ∀ b o, Bs.get? b = some o → h2.get? b = some o := fun b o e => R2.rh.keep b o (hB b o e)
    refine wpAny_execs_cons (wpAny_Assign_Name (Call_ (Calls.Name_function_global U.kind hx2 (Calls.loadGlobal_builtin ((hg ▸ Bs'.ctx.g : Bs.Ns env.globals mg).keeps kp) Bs'.off ((hb ▸ Bs'.ctx.b : Bs.Ns env.builtins mb).keeps kp) Bs'.val ?_) (by decide))) hsw)
    obtain ⟨mc, hn, hm⟩ := R2.ns
    obtain ⟨cv, e1, r1⟩ := hm n (.raw (.ref e)) (by rw [lookup_mset]; simp)
    cases r1
    refine PyProof.Rows.callWith_type1 (args_cons (wpAny_Name (wpAny_loadName_local U.kind hl hn e1 (args_nil ?_)) hnd) he) he rfl
    refine P.str_of_exc_one F.excStr_ValueError (by have := hA.2.2; show A.units + 2 < cLine; omega) ea ta ?_
    refine wpAny_storeName_local hlx hn (fun h3 hn' hs' => ?_) (by rw [U.kind]; rfl)
    have R3 := R2.store (x := x) U.none hn hm hn' hs' (.str msg tkm)
    have t3 := ns_tk hn hs'
    obtain ⟨F3, u3⟩ := U2.store hs'
    refine wpAny_execs_nil (name_goes (s := { s with heap := h3, toks := tk2 + 1 }) (m1 := mset m1 x (.str msg)) (U2.move F3) R3 hl (fun y v hy => ?_) fun h4 tk4 R4 t4 F4 u4 _ => ?_)
    · rw [lookup_mset] at hy
      by_cases hyx : y = x
      · subst hyx
        simp at hy; subst hy
        exact ⟨hne, by rw [lookup_mset]; simp⟩
      · rw [if_neg (by simpa using hyx)] at hy
        have hyn : y ≠ n := fun q => by rw [q, hmn] at hy; cases hy
        exact ⟨hyn, by rw [lookup_mset, if_neg (by simpa using hyx), lookup_mset, if_neg (by simpa using hyn)]; exact hy⟩
    · exact hQ _ _ _ σ1 h4 tk4 hq R4 .next (t.trans (t2.trans (t3.trans t4))) F4 (u1.trans (u2.trans (u3.trans u4)))
/-- try: … except ValueError as n: raise ValueError(f'line {number}: {n}') from None -/
theorem evxV_try_from {body : List Stmt} {n y l1 l2 : Str} {np hp np2 cp jp rp cp2 p1 p2 p3 p4 p5 p6 pos : Pos} {k1 k2 kk : Nat} {hs : List ExceptHandler} (B : BIs Bs mg mb "ValueError" (.type "ValueError"))
    (h : EvStV prog w Bs k env (execs body env) m σ Q fun fr av m1 σ1 => fr = true ∧ ∃ msg num, av = .tup [.str msg] ∧ m1.lookup y = some (.int num) ∧ num.natAbs.log2 < 1920 ∧ (Str.empty ++ l1 ++ Str.ofString (toString num) ++ l2 ++ msg).length ≤ sizeLine ∧ X false (.tup [.str (Str.empty ++ l1 ++ Str.ofString (toString num) ++ l2 ++ msg)]) [] σ1)
    (hg : env.globals = mainGlobals := by rfl) (hb : env.builtins = builtinsNs := by rfl) (hx : env.kindOf "ValueError" = some .globalImplicit := by rfl) (hl : env.kindOf n = some .local := by rfl) (hly : env.kindOf y = some .local := by rfl) (hne : y ≠ n := by decide) (hnd : (n == ("__debug__" : Str)) = false := by decide) (hyd : (y == ("__debug__" : Str)) = false := by decide)
    (he : starEach [.JoinedStr [.Constant (.str l1) k1 p1, .FormattedValue (.Name y p2) (-1) none p3, .Constant (.str l2) k2 p4, .FormattedValue (.Name n p5) (-1) none p6] jp] env = (false, eval (.JoinedStr [.Constant (.str l1) k1 p1, .FormattedValue (.Name y p2) (-1) none p3, .Constant (.str l2) k2 p4, .FormattedValue (.Name n p5) (-1) none p6] jp) env) :: starEach [] env := by rfl) :
    EvStV prog w Bs k env (exec (.Try body (.ExceptHandler (some (.Name "ValueError" np)) (some n) [.Raise (some (.Call (.Name "ValueError" np2) [.JoinedStr [.Constant (.str l1) k1 p1, .FormattedValue (.Name y p2) (-1) none p3, .Constant (.str l2) k2 p4, .FormattedValue (.Name n p5) (-1) none p6] jp] [] cp)) (some (.Constant .none kk cp2)) rp] hp :: hs) [] [] pos) env) m σ Q X := by
  intro A g s fs Qc Ec hA hB U R hQ hX
  refine wpAny_Try_except (h A g s fs _ _ hA hB U R (fun c f m1 σ1 h1 tk hq R1 fr t F1 u1 => ?_) fun e fl fr av m1 σ1 h1 tk hx' R1 hfl xx t F1 u1 => ?_)
  · cases fr with
    | next => exact wpAny_execs_nil (hQ _ _ m1 σ1 h1 tk hq R1 .next t F1 u1)
    | brk => exact hQ _ _ m1 σ1 h1 tk hq R1 .brk t F1 u1
    | cont => exact hQ _ _ m1 σ1 h1 tk hq R1 .cont t F1 u1
    | ret r => exact hQ _ _ m1 σ1 h1 tk hq R1 (.ret r) t F1 u1
  · obtain ⟨rfl, msg, num, rfl, hmy, hlog, hsz, hq⟩ := hx'
    refine caught (s := { s with heap := h1, toks := tk }) B hB (U.move F1) R1 hfl xx hg hb hx hl fun h2 tk2 U2 R2 x2 t2 u2 => ?_
    obtain ⟨t0, tkm, ea, ta⟩ := x2.excAt
    have kp : ∀ b o, Bs.get? b = some o → h2.get? b = some o := fun b o e => R2.rh.keep b o (hB b o e)
    refine wpAny_execs_cons (raise_from (h := e) rfl (Call_ (Calls.Name_function_global U.kind hx (Calls.loadGlobal_builtin ((hg ▸ B.ctx.g : Bs.Ns env.globals mg).keeps kp) B.off ((hb ▸ B.ctx.b : Bs.Ns env.builtins mb).keeps kp) B.val ?_) (by decide))))
    obtain ⟨mc, hn, hm⟩ := R2.ns
    obtain ⟨cv, e1, r1⟩ := hm n (.raw (.ref e)) (by rw [lookup_mset]; simp)
    cases r1
    obtain ⟨cv, e2, r2⟩ := hm y (.int num) (by rw [lookup_mset, if_neg (by simpa using hne)]; exact hmy)
    cases r2
    have hu : A.units + 100 < cLine := by have := hA.2.2; omega
    have lens : (Str.empty ++ l1).length ≤ sizeLine ∧ (Str.empty ++ l1 ++ Str.ofString (toString num)).length ≤ sizeLine ∧ (Str.empty ++ l1 ++ Str.ofString (toString num) ++ l2).length ≤ sizeLine := by
      simp only [strLen_append] at hsz ⊢
      omega
    refine PyProof.Rows.callWith_type1 (args_cons (wpAny_JoinedStr (wpAny_Constant_str ⟨_, _, rfl, lens.1, wpAny_FormattedValue_plain (wpAny_Name (wpAny_loadName_local U.kind hly hn e2 (wpAny_formatField_int hlog ⟨_, _, rfl, lens.2.1, wpAny_Constant_str ⟨_, _, rfl, lens.2.2, wpAny_FormattedValue_plain (wpAny_Name (wpAny_loadName_local U.kind hl hn e1 (fmt_exc (by show A.units + 2 < cLine; omega) ea ta ⟨_, _, rfl, hsz, hsz, args_nil ?_⟩)) hnd)⟩⟩)) hyd)⟩)) he) he rfl
    refine wpAny_call_exc PySem.F.excCall_ValueError (hrest := len_ok (by simp)) fun h3 e2' hmd => ?_
    have kp3 : ∀ b o, h2.get? b = some o → h3.get? b = some o := hmd.keeps
    have R3 := R2.ext kp3
    have u3 : UpS fs h2 h3 := .of_keep kp3
    have nw := new_off R2.rh hmd.new
    obtain ⟨tt, q1, q2, q3⟩ := hmd.there
    obtain ⟨a1, cx1, tb1, ob1, hc1⟩ := (x2.ext kp3).itsOb
    have hc1' : cx1 = .none := hc1 rfl
    subst hc1'
    obtain ⟨_, _, _, ob2, _⟩ := x2.itsOb
    have hee : e ≠ e2' := fun q => by
      obtain ⟨oe, vs, y1, _⟩ := ob2
      rw [q] at y1
      have := hmd.new
      rw [y1] at this; cases this
    refine ⟨e2', .ref tt, rfl, ⟨_, _, q1, rfl, rfl, rfl, rfl, rfl, by simp⟩, ⟨a1, tb1, ob1⟩, hee, fun h4 M4 ob4 => ?_⟩
    replace M4 : Moves [e2'] h3 h4 := M4
    have lo4 : Loose g σ1 [e2'] h3 := Loose.cons (fun _ hb => nomatch hb) nw.1 nw.2 (eob_loose (a0 := .ref tt) (cx := .none) (tb := .none) ⟨_, _, q1, rfl, rfl, rfl, rfl, rfl, by simp⟩)
    have t4 := lo4.tk M4
    have R4 := R3.moves M4 t4 lo4.off
    have F3 : Frs fs g σ1 h3 := U2.low.move u3
    have u4 : UpS fs h3 h4 := UpS.moves F3 M4
    have F4 := F3.move u4
    have x4 : Exv g σ1 none e2' false (.tup [.str (Str.empty ++ l1 ++ Str.ofString (toString num) ++ l2 ++ msg)]) h4 :=
      ⟨nw.1, nw.2, .ref tt, .ref e, .tup (t4 _ _ _ q3) (.cons (.str ..) .nil), (fun q => by cases q), .inl ⟨rfl, ob4⟩⟩
    have U4 := U2.move F4
    refine note_exv (s := { s with heap := h4, toks := _ }) (A := A.mark (some (.ref e))) U.fr U.own R4.rh (R4.frs U.none U.own U.kind F4) x4 (.inl rfl) fun h5 S5 M5 l5 x5 => ?_
    have t5 := l5.tk M5
    have R5 := R4.moves M5 t5 l5.off
    have u5 : UpS fs h4 h5 := UpS.moves F4 M5
    have F5 := F4.move u5
    refine name_goes (s := { s with heap := h5, toks := _ }) (m1 := []) (U.move F5) R5 hl (fun y v hy => by cases hy) fun h6 tk6 R6 t6 F6 u6 kp6 => ?_
    have x6 := x5.same R5.dictL kp6 t6
    refine pass_exv (s := { s with heap := h6, toks := tk6 }) U.own x6 fun h7 S7 M7 l7 x7 => ?_
    have t7 := l7.tk M7
    have R7 := R6.moves M7 t7 l7.off
    have u7 : UpS fs h6 h7 := UpS.moves F6 M7
    have F7 := F6.move u7
    refine note_exv (s := { s with heap := h7, toks := tk6 }) (A := A.mark (some (.ref e))) U.fr U.own R7.rh (R7.frs U.none U.own U.kind F7) x7 (.inr (.inr rfl)) fun h8 S8 M8 l8 x8 => ?_
    have t8 := l8.tk M8
    have R8 := R7.moves M8 t8 l8.off
    have u8 : UpS fs h7 h8 := UpS.moves F7 M8
    have F8 := F7.move u8
    refine came_exv (s := { s with heap := h8, toks := tk6 }) U.own x8 fun h9 S9 M9 l9 x9 => ?_
    have t9 := l9.tk M9
    have R9 := R8.moves M9 t9 l9.off
    have u9 : UpS fs h8 h9 := UpS.moves F8 M9
    have F9 := F8.move u9
    exact hX e2' _ false _ [] σ1 h9 tk6 hq R9 (.inr (.inr rfl)) x9 (t.trans (t2.trans ((TK.of_keep kp3).trans (t4.trans (t5.trans (t6.trans (t7.trans (t8.trans t9)))))))) F9 (u1.trans (u2.trans (u3.trans (u4.trans (u5.trans (u6.trans (u7.trans (u8.trans u9))))))))
end
end Mine

set_option Elab.async false
set_option linter.unusedVariables false
set_option maxRecDepth 100000
namespace Mine
open PySem PyProof.Rows PySem.Calls PySem.W PySem.Spec

section
variable (prog : Program) (w : World) (Bs : Heap)
/-- the outermost function: it may catch, and make generators at its end -/
def EvStW (P : Addr) (k : Nat) (env : Env) (t : Sem Flow) (m : Env') (σ : St) (Q : Fl → Env' → St → Prop) : Prop :=
  ∀ (A : Around) (g : Heap) (s : Shared) (Qc : Flow → Shared → Prop) (Ec : Value → Shared → Prop), AOk k A → (∀ b o, Bs.get? b = some o → g.get? b = some o) → RunV A env [] g σ s.heap → g.get? P = none → P ≠ env.locals → TabIs s.heap P #[] → (∀ p ∈ σ, p.1 ≠ P) → AllBare s.gens → Rel prog w g env.locals m σ s.heap →
    (∀ c f m' σ' h' tk gn more, Q f m' σ' → Rel prog w g env.locals m' σ' h' → FR h' c f → TK s.heap h' → AllBare gn → TabIs h' P more → (∀ p ∈ σ', p.1 ≠ P) → Qc c { s with heap := h', toks := tk, gens := gn }) →
    wpAny (model prog w) A t Qc Ec s
def EvFW (P : Addr) (k : Nat) (f : Value) (vs : List V) (σ : St) (Q : V → St → Prop) : Prop :=
  ∀ (A : Around) (g : Heap) (s : Shared) (Qc Ec : Value → Shared → Prop) (cvs : List Value), AOk k A → (∀ b o, Bs.get? b = some o → g.get? b = some o) → A.frames = some [] → g.get? P = none → TabIs s.heap P #[] → (∀ p ∈ σ, p.1 ≠ P) → AllBare s.gens → RH prog w g σ s.heap → VRs s.heap cvs vs →
    (∀ cv v σ' h' tk gn more, Q v σ' → RH prog w g σ' h' → VR h' cv v → TK s.heap h' → AllBare gn → TabIs h' P more → (∀ p ∈ σ', p.1 ≠ P) → Qc cv { s with heap := h', toks := tk, gens := gn }) →
    wpAny (model prog w) A (call f cvs) Qc Ec s
end
section
variable {prog : Program} {w : World} {Bs : Heap} {k : Nat} {env : Env} {m : Env'} {σ σ' : St} {g h h' : Heap} {L a c P : Addr} {ob : O} {vs : List V} {ps : Array Value} {mg mb : Str → Option Value} {Q : Fl → Env' → St → Prop}
theorem frs_nil : Frs [] g σ h := fun _ hen => nomatch hen
theorem EvStG.toW {t : Sem Flow} (h : EvStG prog w Bs P #[] k env.locals t m σ fun f m' σ' _ => Q f m' σ') : EvStW prog w Bs P k env t m σ Q :=
  fun A g s Qc Ec hA hB U hP hPL tab off hG R hQ => h A g s Qc Ec hA hB U.none hP hPL tab off hG R fun c f m' σ' h' tk gn more hq R' fr t hG' tab' off' => hQ c f m' σ' h' tk gn _ hq R' fr t hG' tab' off'
/-- a quiet step, the table held -/
theorem EvStV.stepW {t : Sem Flow} (hv : EvStV prog w Bs k env t m σ Q fun _ _ _ _ => False) {A : Around} {s : Shared} {Qc : Flow → Shared → Prop} {Ec : Value → Shared → Prop} (hA : AOk k A) (hB : ∀ b o, Bs.get? b = some o → g.get? b = some o) (U : RunV A env [] g σ s.heap) (hP : g.get? P = none) (hPL : P ≠ env.locals) (tab : TabIs s.heap P #[]) (off : ∀ p ∈ σ, p.1 ≠ P) (R : Rel prog w g env.locals m σ s.heap)
    (hQ : ∀ c f m' σ' h' tk, Q f m' σ' → Rel prog w g env.locals m' σ' h' → FR h' c f → TK s.heap h' → TabIs h' P #[] → (∀ p ∈ σ', p.1 ≠ P) → Qc c { s with heap := h', toks := tk }) : wpAny (model prog w) A t Qc Ec s := by
  obtain ⟨g', le, U', R', hold⟩ := U.held R
  have gP : g'.get? P = some { cls := .none, data := .fields #[] } := hold P _ hPL off (fun hm => nomatch hm) tab.1
  refine hv A g' s [] Qc Ec hA (fun b o e => le b o (hB b o e)) U' R' (fun c f m' σ' h' tk hq R2 fr t F2 u2 => ?_) fun _ _ _ _ _ _ _ _ x => x.elim
  exact hQ c f m' σ' h' tk hq (R2.less R.rh.st le) fr t ⟨R2.rh.keep _ _ gP, tab.2⟩ fun p hp e => by
    have := (R2.rh.own p hp).1
    rw [e, gP] at this; cases this
theorem evsW_cons {st : Stmt} {rest : List Stmt} (h : EvStV prog w Bs k env (exec st env) m σ (fun f m1 σ1 => match f with | .next => EvStW prog w Bs P k env (execs rest env) m1 σ1 Q | f => Q f m1 σ1) fun _ _ _ _ => False) : EvStW prog w Bs P k env (execs (st :: rest) env) m σ Q :=
  fun A g s Qc Ec hA hB U hP hPL tab off hG R hQ => wpAny_execs_cons (h.stepW hA hB U hP hPL tab off R fun c f m1 σ1 h1 tk hq R1 fr t tab1 off1 => by
    cases fr with
    | next => exact hq A g _ _ _ hA hB (U.move frs_nil) hP hPL tab1 off1 hG R1 fun c v m' σ' h' tk gn' more' hq R' p t' hG' tab' off' => hQ c v m' σ' h' tk gn' more' hq R' p (t.trans t') hG' tab' off'
    | brk => exact hQ _ _ m1 σ1 h1 tk s.gens #[] hq R1 .brk t hG tab1 off1
    | cont => exact hQ _ _ m1 σ1 h1 tk s.gens #[] hq R1 .cont t hG tab1 off1
    | ret r => exact hQ _ _ m1 σ1 h1 tk s.gens #[] hq R1 (.ret r) t hG tab1 off1)
theorem EvStW.weak {t : Sem Flow} {m1 : Env'} {σ1 : St} (hm : leE m1 m) (hs : SubP σ1 σ) (h : EvStW prog w Bs P k env t m1 σ1 Q) : EvStW prog w Bs P k env t m σ Q :=
  fun A g s Qc Ec hA hB U hP hPL tab off hG R hQ => h A g s Qc Ec hA hB (U.move frs_nil) hP hPL tab (fun p hp => off p (hs.subset hp)) hG ((R.env hm.get).subP hs) hQ
/-- if …: a suite that returns -/
theorem evsW_if {test : Expr} {body rest : List Stmt} {pos : Pos}
    (h : EvB prog w Bs k env test m σ fun b σ1 => if b then EvStW prog w Bs P k env (execs body env) m σ1 (fun f m' σ' => (∃ v, f = .ret v) ∧ Q f m' σ') else EvStW prog w Bs P k env (execs rest env) m σ1 Q) : EvStW prog w Bs P k env (execs (.If test body [] pos :: rest) env) m σ Q := by
  intro A g s Qc Ec hA hB U hP hPL tab off hG R hQ
  have hB' : EvG prog w Bs EqR P #[] k env.locals (isTrue test env (eval test env)) m σ fun b σ1 ps => ps = #[] ∧ if b then EvStW prog w Bs P k env (execs body env) m σ1 (fun f m' σ' => (∃ v, f = .ret v) ∧ Q f m' σ') else EvStW prog w Bs P k env (execs rest env) m σ1 Q := Ev.toG (h.mono fun b σ1 x => ⟨rfl, x⟩)
  refine wpAny_execs_cons (wpAny_If (hB' A g s _ _ hA hB hP hPL tab off hG R fun c b σ1 h1 tk gn more hq R1 e t hG1 tab1 off1 => ?_))
  subst e
  rw [hq.1] at tab1
  have hq := hq.2
  cases c with
  | true =>
    refine hq A g { s with heap := h1, toks := tk, gens := gn } _ _ hA hB (U.move frs_nil) hP hPL tab1 off1 hG1 R1 fun c v m' σ' h' tk gn' more' hq R' p t' hG' tab' off' => ?_
    obtain ⟨⟨u, rfl⟩, hq⟩ := hq
    cases p with
    | ret r => exact hQ _ _ m' σ' h' tk gn' more' hq R' (.ret r) (t.trans t') hG' tab' off'
  | false =>
    refine wpAny_execs_nil (hq A g { s with heap := h1, toks := tk, gens := gn } _ _ hA hB (U.move frs_nil) hP hPL tab1 off1 hG1 R1 fun c v m' σ' h' tk gn' more' hq R' p t' hG' tab' off' => ?_)
    exact hQ _ _ m' σ' h' tk gn' more' hq R' p (t.trans t') hG' tab' off'
theorem evfW_c {fn : Str} {D : DefRec} {f : Addr} {pm code doc : Value} {xs : List Str} {Q : V → St → Prop} (C : Ctx Bs mg mb) (F : FnAt Bs mg fn D f pm code doc)
    (hbind : ∀ cvs : List Value, cvs.length = xs.length → bindArgs (docDef D.name D.params D.body D.scope pm code doc) ⟨cvs, []⟩ = pure (xs.zip cvs)) (hlen : vs.length = xs.length)
    (hs : lawful D.scope xs = true) (ls : Env') (st : Addr → St) (hls : locs (docDef D.name D.params D.body D.scope pm code doc) xs vs = ls) (hst : ∀ L, cellsσ (docDef D.name D.params D.body D.scope pm code doc) L xs vs ++ σ = st L)
    (h : ∀ L, EvStW prog w Bs P k (callEnvC (docDef D.name D.params D.body D.scope pm code doc) L f) (execs D.body (callEnvC (docDef D.name D.params D.body D.scope pm code doc) L f)) ls (st L) fun fl _ σ' => ∃ σ'', SubP σ'' σ' ∧ Q (retOf fl) σ'') : EvFW prog w Bs P (k + 1) (.ref f) vs σ Q := by
  simp only [lawful, Bool.and_eq_true, decide_eq_true_eq, Bool.not_eq_true', List.all_eq_true, Bool.or_eq_true, beq_iff_eq] at hs
  obtain ⟨⟨⟨⟨⟨h1, h2⟩, h3⟩, h4⟩, h5⟩, h6⟩ := hs
  obtain ⟨o, ho, hd⟩ := F.obj
  intro A g s Qc Ec cvs hA hB hfr hP tab off hG R rs hQ
  refine evf_enter ho hd C.lim F.code rfl hbind hlen hA hB R rs (fun h₁ tk₁ Ec' hk₁ Rc hgL hA' => ?_) rfl h1 (fun x hx => (h3 x hx).imp id fun q => ⟨q, fun n => cellsFrom_some _ _ _ _ (.inr q)⟩) h2 h4 h5 h6
  rw [hls, hst] at Rc
  have hPs : P < s.heap.objs.size := Heap.lt_size tab.1
  have hPL : P ≠ s.heap.objs.size := Nat.ne_of_lt hPs
  have off1 : ∀ p ∈ st s.heap.objs.size, p.1 ≠ P := fun p hp e => by
    rw [← hst] at hp
    rcases List.mem_append.mp hp with hp | hp
    · obtain ⟨nc, hn, rfl⟩ := List.mem_map.mp hp
      have : ∀ (names : List (Str × NameKind)) (n : Nat) (acc : List (Str × Addr)), (∀ y ∈ acc, s.heap.objs.size < y.2) → s.heap.objs.size < n → ∀ y ∈ cellsFrom n names acc, s.heap.objs.size < y.2 := by
        intro names
        induction names with
        | nil => intro n acc ha _ y hy; exact ha y hy
        | cons p r ih =>
          intro n acc ha hn y hy
          unfold cellsFrom at hy
          split at hy
          · exact ih _ _ (fun z hz => by
              rcases List.mem_cons.mp hz with rfl | hz
              · exact hn
              · exact ha z hz) (Nat.lt_succ_of_lt hn) y hy
          · exact ih _ _ ha hn y hy
      have h9 := this _ _ [] (by simp) (Nat.lt_succ_self _) nc hn
      have e' : nc.2 = P := e
      rw [e'] at h9
      exact Nat.lt_irrefl _ (Nat.lt_trans hPs h9)
    · exact off p hp e
  have hfr' : (A.deeper (callEnvC (docDef D.name D.params D.body D.scope pm code doc) s.heap.objs.size f)).frames = some [callEnvC (docDef D.name D.params D.body D.scope pm code doc) s.heap.objs.size f] := Around.frames_deeper hfr
  refine h s.heap.objs.size _ g _ _ _ hA' hB ⟨hfr', rfl, h6, hgL, frs_nil, fun _ hen => nomatch hen⟩ hP hPL ⟨hk₁ _ _ tab.1, tab.2⟩ off1 hG Rc fun c fl m' σ' h' tk' gn more hh R' fr t hG' tab' off' => ?_
  obtain ⟨σ'', sub, hq⟩ := hh
  have t' : TK s.heap h' := (TK.of_keep hk₁).trans t
  have R'' : RH prog w g σ'' h' := R'.rh.subP sub
  have o'' : ∀ p ∈ σ'', p.1 ≠ P := fun p hp => off' p (sub.subset hp)
  cases fr with
  | next => exact hQ _ _ σ'' h' tk' gn more hq R'' .none t' hG' tab' o''
  | brk => exact hQ _ _ σ'' h' tk' gn more hq R'' .none t' hG' tab' o''
  | cont => exact hQ _ _ σ'' h' tk' gn more hq R'' .none t' hG' tab' o''
  | ret r => exact hQ _ _ σ'' h' tk' gn more hq R'' r t' hG' tab' o''
/-- all(elt for x in list) -/
theorem evG_all {α : Type} {elt iter : Expr} {x : Str} {p px gpos pos : Pos} {scope : Scope} {cl : List (Str × Addr)} {Q : V → St → Array Value → Prop} (xs : List α) (f : α → V) (q : α → Bool) (B : BIs Bs mg mb "all" (.builtin "all")) (BM : BMain Bs mg) (CA : CodeAt Bs c P) (hclos : closureFor scope env = pure cl) (hok : genOk scope x = true) (hnf : codeAmong gpos ps.toList = none)
    (hiter : EvE prog w Bs (k + 1) env iter m σ fun v σ1 => v = .ref a ∧ σ1 = σ) (hm : (a, ob) ∈ σ) (hl : ob.peel = .list (xs.map f))
    (helt : ∀ C' code y, y ∈ xs → Ev prog w Bs VR k C' (eval elt (genEnv scope cl C' code builtinsNs env)) [(x, f y)] [] fun v _ => v = .bool (q y)) (hq : ∀ p', Q (.bool (xs.all q)) σ p')
    (hcode : env.code = .ref c) (hgl : env.globals = mainGlobals := by rfl) (hb : env.builtins = builtinsNs := by rfl) (hk : env.scope.kind = .function := by rfl) (hx : env.kindOf "all" = some .globalImplicit := by rfl) (hs : ∀ x, genFold iter env x = pure x := by intro _; rfl) :
    EvG prog w Bs VR P ps (k + 1) env.locals (eval (.Call (.Name "all" p) [.GeneratorExp elt [⟨.Name x px, iter, [], 0⟩] scope gpos] [] pos) env) m σ Q := by
  intro A g s Qc Ec hA hB hP hPL tab off hG R hQ
  refine Call_ ?_
  have hname : EvE prog w Bs (k + 1) env (.Name "all" p) m σ fun v σ1 => v = .raw (.builtin "all") ∧ σ1 = σ := ev_builtin (hgl ▸ B.ctx.g) B.off (hb ▸ B.ctx.b) B.val ⟨rfl, rfl⟩ hk hx (by decide)
  refine (Ev.toG (P := P) (ps := ps) (Q := fun v σ' p' => v = .raw (.builtin "all") ∧ σ' = σ ∧ p' = ps) (hname.mono fun v σ' h => ⟨h.1, h.2, rfl⟩)) A g s _ _ hA hB hP hPL tab off hG R fun cv v σ' h1 tk1 gn1 more hv R1 rv t1 hG1 tab1 off1 => ?_
  obtain ⟨rfl, rfl, hps⟩ := hv
  rw [hps] at tab1
  cases rv
  refine callWith_builtin1 (args_cons ?_) rfl rfl
  refine gen_list (c := c) (P := P) (ps := ps) (s := { s with heap := h1, toks := tk1, gens := gn1 }) xs f q B.ctx BM CA hcode hgl hclos hok hnf hs hA hB hP hPL tab1 off1 hG1 R1 hiter hm hl helt fun I fp wr G Pv St s₅ W st hPv hmv => ?_
  refine args_nil ?_
  refine call_all_walkS (W.self 0 s₅ _ _ st ⟨I, fp, wr, G, xs.length, Pv, St, fun j => (xs[j]?.map q).getD false, rfl, W, st, fun j v s' Q' E' hv hq' => ?_, fun s' hm' => ?_⟩)
  · obtain ⟨y, hy, rfl⟩ := hPv j v hv
    simp only [hy, Option.map_some, Option.getD_some] at hq'
    exact wpAny_truthy_bool hq'
  · obtain ⟨h', tk, gn, more', rfl, R', t', hG', tab'⟩ := hmv s' hm'
    have e : ((List.range xs.length).all fun j => (xs[j]?.map q).getD false) = xs.all q := by
      rw [Bool.eq_iff_iff, List.all_eq_true, List.all_eq_true]
      constructor
      · intro h y hy
        obtain ⟨j, hj, rfl⟩ := List.mem_iff_getElem.mp hy
        simpa [hj] using h j (List.mem_range.mpr hj)
      · intro h j hj
        have hj' := List.mem_range.mp hj
        simpa [hj'] using h xs[j] (List.getElem_mem hj')
    rw [e]
    exact hQ _ _ σ' h' tk gn more' (hq _) R' (.bool _) (t1.trans t') hG' tab' off1
end
-- the glue
section
variable {prog p : Program} {w : World} {h : Heap} {l P : Addr} {cvs : List Value} {n : Nat} {mg mb : Str → Option Value} {loose : List Str} {mean : ExcName → Option Value}
theorem law_glueW {c : ClaimW} {cl : Str → Option Addr} {mean' : ExcName → Option Value} {args : List WData} {s₁ : Shared} {fa ca : Addr} {ns : List Int} (ho : s₁.heap.get? l = some (lstO cvs n)) (hI : IntsAre cvs ns) (hg : s₁.gens = #[])
    (T : Top p loose mean mg mb s₁.heap) (hs : (l == sysModules) = false) (tc : s₁.heap.TableAt ca P #[])
    (hr : ∀ cls, c.raises args cls = false) (hp : c.post args (.bool true) args = true)
    (h : EvFW prog w (mask s₁.heap [l, P]) P 9 (.ref fa) [.ref l] [(l, .fix (lstO cvs n) (.list (ns.map .int)))] fun v σ' => v = .bool true ∧ σ' = [(l, .fix (lstO cvs n) (.list (ns.map .int)))]) :
    wpAny (model prog w) callerA (call (.ref fa) [.ref l]) (fun v s' => GoodWG c cl mean' args s₁ (.ok (.ret v)) s') (fun e s' => GoodWG c cl mean' args s₁ (.error e) s') s₁ := by
  have hlP : l ≠ P := fun e => by have := tc.2; rw [← e, ho] at this; cases this
  refine h callerA (mask s₁.heap [l, P]) s₁ _ _ [.ref l] ⟨rfl, by decide, by decide +kernel⟩ (fun _ _ e => e) rfl (mask_in (.tail _ (.head _))) ⟨tc.2, by exact trivial⟩ (fun q hq => by rw [List.mem_singleton.mp hq]; exact hlP) (by rw [hg]; exact AllBare.empty)
    ⟨fun b o e => mask_sub e, by simp, fun q hq => ?_, ?_, fun q hq => ?_⟩ (.cons (.ref _) .nil) fun cv v σ' h' tk gn more hq R' r t hG' tab' off' => ?_
  · rw [List.mem_singleton.mp hq]
    exact ⟨mask_in (.head _), _, ho, rfl, cvs, n, rfl, ints_vr hI⟩
  · obtain ⟨mc, ⟨o, es, ep, h1, h2, _⟩, b⟩ := T.nolimit
    exact ⟨o, mask2 ho tc.2 h1 (fun c k e => by rw [h2] at e; cases e) (fun e => by rw [h2] at e; cases e)⟩
  · rw [List.mem_singleton.mp hq]
    exact low_of ho T hs
  · obtain ⟨rfl, rfl⟩ := hq
    cases r
    have kept : ∀ b o, b ≠ P → s₁.heap.get? b = some o → h'.get? b = some o := fun b o hb e => by
      by_cases hbl : b = l
      · subst hbl
        obtain ⟨_, o', ho', e', _⟩ := R'.own _ (.head _)
        rw [ho] at e; cases e
        have e2 : o' = lstO cvs n := e'
        rw [e2] at ho'
        exact ho'
      · exact R'.keep b o (by rw [mask_out (by simp [hbl, hb])]; exact e)
    refine ⟨.inl ⟨_, .bool true, [], rfl, hr, .bool true, hp, fun _ => ⟨by simp, fun a ha => by cases ha⟩⟩, ⟨fun b o e => ?_, fun b o e => ?_⟩, rfl, hG'⟩
    · by_cases hb : b = P
      · subst hb
        have e0 : o = { cls := .none, data := .fields #[] } := Option.some.inj (e.symm.trans tc.2)
        subst e0
        exact .inr (.inl ⟨tc.isCodeTable, rfl, #[], more, rfl, by simpa using tab'.1⟩)
      · exact .inl (kept b o hb e)
    · by_cases hb : b = P
      · exact ⟨_, hb ▸ tab'.1⟩
      · exact ⟨o, kept b o hb e⟩
end
end Mine

set_option Elab.async false
set_option linter.unusedVariables false
set_option maxRecDepth 100000
namespace Mine
open PySem PyProof.Rows PySem.Calls PySem.W PySem.Spec

section
variable {prog : Program} {w : World} {Bs : Heap} {k : Nat} {env : Env} {m : Env'} {σ : St} {g g' h h' : Heap} {L a : Addr} {ob : O} {vs : List V}
abbrev nest (x y : Str) (px py py2 pos : Pos) (iter i1 : Expr) (scope : Scope) : Expr := .ListComp (.Name y py) [⟨.Name x px, iter, [], 0⟩, ⟨.Name y py2, i1, [], 0⟩] scope pos
theorem compTurn_in {x y : Str} {px py py2 pos : Pos} {iter i1 : Expr} {scope : Scope} {it acc : Value} {ce : Env} :
    compTurn (nest x y px py py2 pos iter i1 scope) 1 it acc ce = (standAt i1.pos >>= fun _ => pyNext it >>= fun r => match r with
      | none => pure (.done .next)
      | some v => letOwnedTupleGo (.Name y py2) it v >>= fun _ => assign (.Name y py2) ce v >>= fun _ =>
        (eval (.Name y py) ce >>= fun x => call (.builtin "list.append") [acc, x] >>= fun _ => pure ()) >>= fun _ =>
          again (.compLoop (nest x y px py py2 pos iter i1 scope) 1 it acc ce)) := by rfl
theorem compTurn_out {x y : Str} {px py py2 pos : Pos} {iter i1 : Expr} {scope : Scope} {it acc : Value} {ce : Env} :
    compTurn (nest x y px py py2 pos iter i1 scope) 0 it acc ce = (standAt iter.pos >>= fun _ => pyNext it >>= fun r => match r with
      | none => pure (.done .next)
      | some v => letOwnedTupleGo (.Name x px) it v >>= fun _ => assign (.Name x px) ce v >>= fun _ =>
        eval i1 ce >>= fun z => standAt i1.pos >>= fun _ => foldedSetIterable i1 ce z >>= fun z => holding [z] (pyIter z) >>= fun it' => runOwn (.compStart (nest x y px py py2 pos iter i1 scope) 1 it' acc ce) ce >>= fun _ =>
          again (.compLoop (nest x y px py py2 pos iter i1 scope) 0 it acc ce)) := by rfl
theorem compStart_in {x y : Str} {px py py2 pos : Pos} {iter i1 : Expr} {scope : Scope} {it acc : Value} {ce : Env} {A : Around} {s : Shared} {R : Result → Shared → Prop}
    (h0 : codeAny (model prog w) A (.compLoop (nest x y px py py2 pos iter i1 scope) 1 it acc ce) R s)
    (h : wpAny (model prog w) A (pyIter it) (fun it' s' => codeAny (model prog w) A (.compLoop (nest x y px py py2 pos iter i1 scope) 1 it' acc ce) R s') (notedBy (model prog w) A ce fun x s' => R (.error x) s') s) :
    codeAny (model prog w) A (.compStart (nest x y px py py2 pos iter i1 scope) 1 it acc ce) R s := by
  refine codeAny_of_tree ?_
  show wpAny _ _ ((compStart (nest x y px py py2 pos iter i1 scope) 1 it acc ce).onRaise (fun x => do noteFrame x ce; standAt theWindowsPlace)) _ _ s
  refine wpAny_notedAt ?_
  unfold compStart
  show wpAny _ _ (ask >>= _) _ _ s
  refine wpAny_bind (wpAny_askSetting (wpAny_ite ?_))
  split
  · first
      | exact wpAny_bind (wpAny_pure (wpAny_pure (And.intro rfl h0)))
      | exact wpAny_pure (And.intro rfl h0)
  · first
      | exact wpAny_bind (wpAny_rule (wpAny_bind (wpAny_standAt (wpAny_bind (wpAny_mono h (fun it' s' h' => wpAny_pure (And.intro rfl h')) fun _ _ x => x)))))
      | (refine wpAny_bind (wpAny_rule ?_); show wpAny _ _ (standAt i1.pos >>= _) _ _ s; exact wpAny_bind (wpAny_standAt (wpAny_bind (wpAny_mono h (fun it' s' h' => wpAny_pure (And.intro rfl h')) fun _ _ x => x))))
theorem inner_loop {scope : Scope} {cl : List (Str × Addr)} {x y : Str} {px py py2 pos : Pos} {iter i1 : Expr} {I C D : Addr} {fp wr : List Addr} {need : St → Prop} {S : Nat → Heap → Prop} {g0 : Heap} (W : Iter prog w I fp wr vs need S)
    {A : Around} {s : Shared} {RR : Result → Shared → Prop} {acc : List V} {cacc : List Value} {cn : Nat} (hA : AOk k A) (hkind : scope.kind = .function) (hy : scope.names.lookup y = some .local) (hyd : (y == ("__debug__" : Str)) = false)
    (R : Rel prog w g0 C m σ s.heap) (hC : g0.get? C = none) (hD : g0.get? D = none) (hDC : D ≠ C) (hDσ : ∀ p ∈ σ, p.1 ≠ D) (hDo : s.heap.get? D = some (lstO cacc cn)) (hacc : VRs s.heap cacc acc) (hz : acc.length + vs.length ≤ sizeLine) (hst : S 0 s.heap) (hfp : ∀ b ∈ fp, b ≠ C ∧ b ≠ D ∧ ∀ p ∈ σ, p.1 ≠ b) (hwr : ∀ b ∈ wr, g0.get? b = none) (hn : need σ)
    (hRR : ∀ h' tk m' cacc' n', Rel prog w g0 C m' σ h' → h'.get? D = some (lstO cacc' n') → VRs h' cacc' (acc ++ vs) → TK s.heap h' → (∀ b o, b ≠ C → b ≠ D → b ∉ wr → s.heap.get? b = some o → h'.get? b = some o) → RR (.ok .next) { s with heap := h', toks := tk }) :
    codeAny (model prog w) A (.compLoop (nest x y px py py2 pos iter i1 scope) 1 (.ref I) (.ref D) (compEnvC scope cl C env)) RR s := by
  have hl : (compEnvC scope cl C env).kindOf y = some .local := lookup_relabel_local hy
  have hk : (compEnvC scope cl C env).scope.kind = .function := by simp [compEnvC, relabel, hkind]
  refine codeAny_loop rfl (fun n s' => ∃ i m h tk cacc cn, s' = { s with heap := h, toks := tk } ∧ i ≤ vs.length ∧ n = vs.length - i ∧ Rel prog w g0 C m σ h ∧ S i h ∧ h.get? D = some (lstO cacc cn) ∧ VRs h cacc (acc ++ vs.take i) ∧ TK s.heap h ∧ ∀ b o, b ≠ C → b ≠ D → b ∉ wr → s.heap.get? b = some o → h.get? b = some o) (fun n s' hI => ?_) vs.length
      ⟨0, m, s.heap, s.toks, cacc, cn, rfl, Nat.zero_le _, rfl, R, hst, hDo, by simpa using hacc, .refl _, fun _ _ _ _ _ e => e⟩
  show wpAny _ A ((compTurn (nest x y px py py2 pos iter i1 scope) 1 (.ref I) (.ref D) (compEnvC scope cl C env)).onRaise (fun x => do noteFrame x (compEnvC scope cl C env); theTreesLotGoes x)) _ _ s'
  refine wpAny_noted ?_
  rw [compTurn_in]
  refine wpAny_bind (wpAny_standAt (wpAny_bind ?_))
  obtain ⟨i, m, hh, tk, cacc, cn, rfl, hi, rfl, R, hst, hDo, hacc, ht, hkp⟩ := hI
  by_cases hlt : i < vs.length
  · have hv : vs[i]? = some vs[i] := by simp [hlt]
    refine W.item A k g0 σ _ _ _ i _ hA R.rh hn hst hv fun cv h1 tk1 r1 st1 kp1 t1 => ?_
    have R1 := R.but kp1 (fun b hb => ⟨hwr b hb, (hfp b (W.sub b hb)).1, (hfp b (W.sub b hb)).2.2⟩) t1
    have hD1 : h1.get? D = some (lstO cacc cn) := kp1 D _ (fun hm => (hfp D (W.sub D hm)).2.1 rfl) hDo
    refine wpAny_bind (wpAny_pure (wpAny_bind (wpAny_assign_Name ?_)))
    obtain ⟨mc, hn1, hm1⟩ := R1.ns
    refine wpAny_storeName_local hl hn1 (fun h2 hn2 hs2 => ?_) (by rw [hk]; rfl)
    have R2 : Rel prog w g0 C (mset m y vs[i]) σ h2 := R1.store hC hn1 hm1 hn2 hs2 r1
    have t2 : TK h1 h2 := ns_tk hn1 hs2
    have hD2 : h2.get? D = some (lstO cacc cn) := (hs2.2 D hDC).trans hD1
    have st2 : S (i + 1) h2 := W.frame _ _ _ st1 (fun b hb o e => (hs2.2 b (hfp b hb).1).trans e) t2
    refine wpAny_bind (wpAny_bind (wpAny_Name (wpAny_loadName_local hk hl hn2 (v := cv) (by simp) ?_) hyd))
    have hacc2 : VRs h2 cacc (acc ++ vs.take i) := hacc.mono (t1.trans t2)
    have hcl : cacc.length = acc.length + i := by rw [hacc.length]; simp; omega
    refine wpAny_bind (wpAny_list_append_plain (l := D) (items := cacc.toArray) ⟨cn, hD2⟩ (fun h5 hp5 hs5 => ?_) (by simp [hcl]; omega))
    obtain ⟨n', ho5⟩ := hp5
    have t5 : TK h2 h5 := list_tk hD2 hs5
    have R5 := R2.but (wr := [D]) (h' := h5) (fun b o hb e => (hs5.2 b fun q => hb (by rw [q]; exact .head _)).trans e) (fun b hb => by
      rw [List.mem_singleton.mp hb]
      exact ⟨hD, hDC, hDσ⟩) t5
    refine wpAny_pure (wpAny_pure ⟨rfl, _, ?_, i + 1, _, h5, _, cacc ++ [cv], n', rfl, hlt, rfl, R5, ?_, by rw [ho5]; simp, ?_, ht.trans (t1.trans (t2.trans t5)), fun b o hb1 hb2 hb3 e => ?_⟩)
    · omega
    · exact W.frame _ _ _ st2 (fun b hb o e => (hs5.2 b (hfp b hb).2.1).trans e) t5
    · rw [List.take_add_one, hv, ← List.append_assoc]
      exact (hacc2.mono t5).append (.cons (r1.mono (t2.trans t5)) .nil)
    · exact (hs5.2 b hb2).trans ((hs2.2 b hb1).trans (kp1 b o hb3 (hkp b o hb1 hb2 hb3 e)))
  · have e : i = vs.length := by omega
    subst e
    refine W.done A k g0 σ _ _ _ hA R.rh hn hst fun h1 tk1 kp1 t1 => ?_
    have R1 := R.but kp1 (fun b hb => ⟨hwr b hb, (hfp b (W.sub b hb)).1, (hfp b (W.sub b hb)).2.2⟩) t1
    rw [List.take_length] at hacc
    exact wpAny_pure (hRR h1 tk1 m cacc cn R1 (kp1 D _ (fun hm => (hfp D (W.sub D hm)).2.1 rfl) hDo) (hacc.mono t1) (ht.trans t1) fun b o hb1 hb2 hb3 e => kp1 b o hb3 (hkp b o hb1 hb2 hb3 e))
end
end Mine

set_option Elab.async false
set_option linter.unusedVariables false
set_option maxRecDepth 100000
namespace Mine
open PySem PyProof.Rows PySem.Calls PySem.W PySem.Spec

section
variable {prog : Program} {w : World} {Bs : Heap} {k : Nat} {env : Env} {m : Env'} {σ : St} {g g' h h' : Heap} {L a : Addr} {ob : O} {vs : List V}
theorem flat_split {α β : Type} (f : α → List β) (rows : List α) (i : Nat) (h : i < rows.length) : rows.flatMap f = (rows.take i).flatMap f ++ f rows[i] ++ (rows.drop (i + 1)).flatMap f := by
  have e : rows.take i ++ rows[i] :: rows.drop (i + 1) = rows := by rw [← List.drop_eq_getElem_cons h, List.take_append_drop]
  calc rows.flatMap f = (rows.take i ++ rows[i] :: rows.drop (i + 1)).flatMap f := by rw [e]
    _ = _ := by rw [List.flatMap_append, List.flatMap_cons, List.append_assoc]
theorem outer_loop {scope : Scope} {cl : List (Str × Addr)} {x y : Str} {px py py2 pos : Pos} {iter i1 : Expr} {I C D : Addr} {fp wr : List Addr} {need : St → Prop} {S : Nat → Heap → Prop} {g0 : Heap} (rows : List (V × Addr × O × List V)) (W : Iter prog w I fp wr (rows.map (·.1)) need S)
    {A : Around} {s : Shared} {RR : Result → Shared → Prop} (hA : AOk k A) (hB : ∀ b o, Bs.get? b = some o → g0.get? b = some o) (hkind : scope.kind = .function) (hx : scope.names.lookup x = some .local) (hy : scope.names.lookup y = some .local) (hyd : (y == ("__debug__" : Str)) = false)
    (hrow : ∀ r ∈ rows, (r.2.1, r.2.2.1) ∈ σ ∧ r.2.2.1.peel = .list r.2.2.2 ∧ EvE prog w Bs k (compEnvC scope cl C env) i1 [(x, r.1)] σ fun v σ1 => v = .ref r.2.1 ∧ σ1 = σ) (hs1 : ∀ z, foldedSetIterable i1 (compEnvC scope cl C env) z = pure z)
    (R : Rel prog w g0 C [] σ s.heap) (hC : g0.get? C = none) (hD : g0.get? D = none) (hDC : D ≠ C) (hDσ : ∀ p ∈ σ, p.1 ≠ D) (hDo : s.heap.get? D = some (lstO [] 0)) (hz : (rows.flatMap (·.2.2.2)).length ≤ sizeLine) (hst : S 0 s.heap) (hfp : ∀ b ∈ fp, b ≠ C ∧ b ≠ D ∧ ∀ p ∈ σ, p.1 ≠ b) (hwr : ∀ b ∈ wr, g0.get? b = none) (hn : need σ)
    (hRR : ∀ h' tk m', Rel prog w g0 C m' σ h' → (∃ cacc' n', h'.get? D = some (lstO cacc' n') ∧ VRs h' cacc' (rows.flatMap (·.2.2.2))) → TK s.heap h' → RR (.ok .next) { s with heap := h', toks := tk }) :
    codeAny (model prog w) A (.compLoop (nest x y px py py2 pos iter i1 scope) 0 (.ref I) (.ref D) (compEnvC scope cl C env)) RR s := by
  have hl : (compEnvC scope cl C env).kindOf x = some .local := lookup_relabel_local hx
  have hk : (compEnvC scope cl C env).scope.kind = .function := by simp [compEnvC, relabel, hkind]
  refine codeAny_loop rfl (fun n s' => ∃ i m h tk cacc cn, s' = { s with heap := h, toks := tk } ∧ i ≤ rows.length ∧ n = rows.length - i ∧ Rel prog w g0 C m σ h ∧ S i h ∧ h.get? D = some (lstO cacc cn) ∧ VRs h cacc ((rows.take i).flatMap (·.2.2.2)) ∧ TK s.heap h) (fun n s' hI => ?_) rows.length
      ⟨0, [], s.heap, s.toks, [], 0, rfl, Nat.zero_le _, rfl, R, hst, hDo, by simp; exact .nil, .refl _⟩
  show wpAny _ A ((compTurn (nest x y px py py2 pos iter i1 scope) 0 (.ref I) (.ref D) (compEnvC scope cl C env)).onRaise (fun x => do noteFrame x (compEnvC scope cl C env); theTreesLotGoes x)) _ _ s'
  refine wpAny_noted ?_
  rw [compTurn_out]
  refine wpAny_bind (wpAny_standAt (wpAny_bind ?_))
  obtain ⟨i, m, hh, tk, cacc, cn, rfl, hi, rfl, R, hst, hDo, hacc, ht⟩ := hI
  by_cases hlt : i < rows.length
  · have hv : (rows.map (·.1))[i]? = some rows[i].1 := by simp [hlt]
    have hri : rows[i] ∈ rows := List.getElem_mem hlt
    obtain ⟨hrm, hrl, hev⟩ := hrow _ hri
    refine W.item A k g0 σ _ _ _ i _ hA R.rh hn hst hv fun cv h1 tk1 r1 st1 kp1 t1 => ?_
    have R1 := R.but kp1 (fun b hb => ⟨hwr b hb, (hfp b (W.sub b hb)).1, (hfp b (W.sub b hb)).2.2⟩) t1
    have hD1 : h1.get? D = some (lstO cacc cn) := kp1 D _ (fun hm => (hfp D (W.sub D hm)).2.1 rfl) hDo
    refine wpAny_bind (wpAny_pure (wpAny_bind (wpAny_assign_Name ?_)))
    obtain ⟨mc, hn1, hm1⟩ := R1.ns
    refine wpAny_storeName_local hl hn1 (fun h2 hn2 hs2 => ?_) (by rw [hk]; rfl)
    have R2 : Rel prog w g0 C (mset m x rows[i].1) σ h2 := R1.store hC hn1 hm1 hn2 hs2 r1
    have t2 : TK h1 h2 := ns_tk hn1 hs2
    have hD2 : h2.get? D = some (lstO cacc cn) := (hs2.2 D hDC).trans hD1
    have st2 : S (i + 1) h2 := W.frame _ _ _ st1 (fun b hb o e => (hs2.2 b (hfp b hb).1).trans e) t2
    have le := R2.le_mask hC
    have R2e : Rel prog w g0 C [(x, rows[i].1)] σ h2 := R2.env fun y u e => by
      rw [List.lookup_cons] at e
      rw [lookup_mset]
      cases q : y == x with
      | true => rw [q] at e; simpa using e
      | false => rw [q] at e; simp at e
    have gin : ∀ b, b ≠ C → (∀ p ∈ σ, p.1 ≠ b) → (mask h2 (C :: σ.map (·.1))).get? b = h2.get? b := fun b hb hs => by
      rw [mask_out]
      intro hm
      rcases List.mem_cons.mp hm with e | hm
      · exact hb e
      · obtain ⟨p, hp, q⟩ := List.mem_map.mp hm
        exact hs p hp q
    refine wpAny_bind (hev A _ _ _ _ hA (fun b o e => le b o (hB b o e)) (R2e.masked hC) fun cv3 v3 σ3 h3 tk3 hq3 R3 r3 t3 => ?_)
    obtain ⟨rfl, rfl⟩ := hq3
    cases r3
    have kp3 : ∀ b o, b ≠ C → (∀ p ∈ σ3, p.1 ≠ b) → h2.get? b = some o → h3.get? b = some o := fun b o h1 h2 e => R3.rh.keep _ _ (by rw [gin b h1 h2]; exact e)
    have R3' : Rel prog w g0 C [(x, rows[i].1)] σ3 h3 := R3.less R2.rh.st le
    have hD3 : h3.get? D = some (lstO cacc cn) := kp3 D _ hDC hDσ hD2
    have st3 : S (i + 1) h3 := W.frame _ _ _ st2 (fun b hb o e => kp3 b o (hfp b hb).1 (hfp b hb).2.2 e) t3
    refine wpAny_bind (wpAny_standAt (wpAny_bind (wpAny_of_eq (hs1 _) (wpAny_bind (wpAny_holding ?_)))))
    obtain ⟨cvs, n, ho, rs⟩ := R3'.rh.list_at hrm hrl
    refine wpAny_pyIter_list ⟨_, ho, rfl, n, rfl⟩ ?_
    have kp4 := push_keep h3 { cls := .type "list_iterator", data := .fields #[.ref rows[i].2.1, .int 0 0] }
    have hne : rows[i].2.1 ≠ h3.objs.size := Nat.ne_of_lt (Heap.lt_size ho)
    have new4 : h3.get? h3.objs.size = none := get_size_none _
    have hCo : ∃ o, h3.get? C = some o := R3'.lt
    have nC : h3.objs.size ≠ C := fun q => by obtain ⟨o, ho'⟩ := hCo; rw [← q, new4] at ho'; cases ho'
    have nD : h3.objs.size ≠ D := fun q => by rw [← q, new4] at hD3; cases hD3
    have nσ : ∀ p ∈ σ3, p.1 ≠ h3.objs.size := fun p hp q => by obtain ⟨_, o, ho', _⟩ := R3'.rh.own p hp; rw [q, new4] at ho'; cases ho'
    have g4 : g0.get? h3.objs.size = none := by
      cases q : g0.get? h3.objs.size with
      | none => rfl
      | some o => have := R3'.rh.keep _ _ q; rw [new4] at this; cases this
    have nF : ∀ b ∈ fp, b ≠ h3.objs.size := fun b hb q => by obtain ⟨o, ho'⟩ := W.there _ _ st3 b hb; rw [q, new4] at ho'; cases ho'
    have R4 := R3'.ext kp4
    have hD4 := kp4 _ _ hD3
    have st4 := W.frame _ _ _ st3 (fun b _ o e => kp4 b o e) (.of_keep kp4)
    have W2 := iter_list (prog := prog) (w := w) (I := h3.objs.size) (vs := rows[i].2.2.2) hne hrl
    have hacc4 : VRs (h3.push { cls := .type "list_iterator", data := .fields #[.ref rows[i].2.1, .int 0 0] }) cacc ((rows.take i).flatMap (·.2.2.2)) := hacc.mono (t1.trans (t2.trans (t3.trans (.of_keep kp4))))
    have split := flat_split (fun r : V × Addr × O × List V => r.2.2.2) rows i hlt
    have hz2 : ((rows.take i).flatMap (·.2.2.2)).length + rows[i].2.2.2.length ≤ sizeLine := by
      rw [split] at hz
      simp only [List.length_append] at hz
      omega
    have fin : ∀ (s₅ : Shared), s₅ = { s with heap := h3.push { cls := .type "list_iterator", data := .fields #[.ref rows[i].2.1, .int 0 0] }, toks := tk3 } → codeAny (model prog w) A (.compLoop (nest x y px py py2 pos iter i1 scope) 1 (.ref h3.objs.size) (.ref D) (compEnvC scope cl C env)) (fun r s' => match r with
        | .ok f => wpAny (model prog w) A (again (.compLoop (nest x y px py py2 pos iter i1 scope) 0 (.ref I) (.ref D) (compEnvC scope cl C env))) (fun fin s' => match fin with
            | .done f => RR (.ok f) s'
            | .again c' => c' = (.compLoop (nest x y px py py2 pos iter i1 scope) 0 (.ref I) (.ref D) (compEnvC scope cl C env)) ∧ ∃ m, m < rows.length - i ∧ (fun n s' => ∃ i m h tk cacc cn, s' = { s with heap := h, toks := tk } ∧ i ≤ rows.length ∧ n = rows.length - i ∧ Rel prog w g0 C m σ3 h ∧ S i h ∧ h.get? D = some (lstO cacc cn) ∧ VRs h cacc ((rows.take i).flatMap (·.2.2.2)) ∧ TK s.heap h) m s') (notedBy (model prog w) A (compEnvC scope cl C env) fun e s' => RR (.error e) s') s'
        | .error e => cameBackBy (model prog w) A (compEnvC scope cl C env) (notedBy (model prog w) A (compEnvC scope cl C env) fun e s' => RR (.error e) s') e s') s₅ := by
      rintro s₅ rfl
      refine inner_loop W2 hA hkind hy hyd R4 hC hD hDC hDσ hD4 hacc4 hz2 ⟨_, Heap.get?_push_size _ rfl, rfl, rfl⟩ (fun b hb => ?_) (fun b hb => ?_) hrm fun h6 tk6 m6 cacc6 n6 R6 hD6 hacc6 t6 kp6 => ?_
      · rw [List.mem_singleton.mp hb]
        exact ⟨nC, nD, nσ⟩
      · rw [List.mem_singleton.mp hb]; exact g4
      · refine wpAny_pure ⟨rfl, _, ?_, i + 1, m6, h6, tk6, cacc6, n6, rfl, hlt, rfl, R6, ?_, hD6, ?_, ht.trans (t1.trans (t2.trans (t3.trans ((TK.of_keep kp4).trans t6))))⟩
        · omega
        · exact W.frame _ _ _ st4 (fun b hb o e => kp6 b o (hfp b hb).1 (hfp b hb).2.1 (fun hm => nF b hb (List.mem_singleton.mp hm)) e) t6
        · have e : rows.take (i + 1) = rows.take i ++ [rows[i]] := by rw [List.take_add_one]; simp [hlt]
          rw [e, List.flatMap_append]
          simpa using hacc6
    exact wpAny_bind (wpAny_runOwn (compStart_in (fin _ rfl) (W2.self _ 0 _ _ _ ⟨_, Heap.get?_push_size _ rfl, rfl, rfl⟩ (fin _ rfl))))
  · have e : i = rows.length := by omega
    subst e
    have hst' : S (rows.map (·.1)).length hh := by simpa using hst
    refine W.done A k g0 σ _ _ _ hA R.rh hn hst' fun h1 tk1 kp1 t1 => ?_
    have R1 := R.but kp1 (fun b hb => ⟨hwr b hb, (hfp b (W.sub b hb)).1, (hfp b (W.sub b hb)).2.2⟩) t1
    rw [List.take_length] at hacc
    exact wpAny_pure (hRR h1 tk1 m R1 ⟨cacc, cn, kp1 D _ (fun hm => (hfp D (W.sub D hm)).2.1 rfl) hDo, hacc.mono t1⟩ (ht.trans t1))
/-- a comprehension, whatever its loop -/
theorem comp_coreL {scope : Scope} {cl : List (Str × Addr)} {x : Str} {px pos : Pos} {ifs : List Expr} {elt iter : Expr} {rest : List Comprehension} {I : Addr} {fp wr : List Addr} {need : St → Prop} {S : Nat → Heap → Prop} (W : Iter prog w I fp wr vs need S)
    {A : Around} {s : Shared} {E : Value → Shared → Prop} {Q : List V → St → Prop} {RR : Value → Addr → Result → Shared → Prop} (hA : AOk k A) (hB : ∀ b o, Bs.get? b = some o → g.get? b = some o)
    (hkind : scope.kind = .function) (hcell : ∀ y ∈ scope.names, y.2 ≠ .cell)
    (R : Rel prog w g L m σ s.heap) (hst : S 0 s.heap) (hfp : ∀ b ∈ fp, b ≠ L ∧ ∀ p ∈ σ, p.1 ≠ b) (hwr : ∀ b ∈ wr, g.get? b = none) (hn : need σ)
    (hloop : ∀ (C D : Addr) (g0 : Heap) (s₃ : Shared) (RR' : Result → Shared → Prop), (∀ b o, Bs.get? b = some o → g0.get? b = some o) → Rel prog w g0 C [] σ s₃.heap → g0.get? C = none → g0.get? D = none → D ≠ C → (∀ p ∈ σ, p.1 ≠ D) → s₃.heap.get? D = some (lstO [] 0) → S 0 s₃.heap → (∀ b ∈ fp, b ≠ C ∧ b ≠ D ∧ ∀ p ∈ σ, p.1 ≠ b) → (∀ b ∈ wr, g0.get? b = none) →
      (∀ acc σ' h' tk m', Q acc σ' → Rel prog w g0 C m' σ' h' → (∃ cacc n, h'.get? D = some (lstO cacc n) ∧ VRs h' cacc acc) → (∀ p ∈ σ', p.1 ≠ D) → TK s₃.heap h' → RR' (.ok .next) { s₃ with heap := h', toks := tk }) →
      codeAny (model prog w) A (.compLoop (.ListComp elt (⟨.Name x px, iter, ifs, 0⟩ :: rest) scope pos) 0 (.ref I) (.ref D) (compEnvC scope cl C env)) RR' s₃)
    (hRR : ∀ D C acc σ' h' tk m', Q acc σ' → Rel prog w g L m ((D, .list acc) :: σ') h' → h'.Ns C m' → g.get? C = none → C ≠ L → C ≠ D → (∀ p ∈ σ', p.1 ≠ C) → TK s.heap h' → RR (.ref D) C (.ok .next) { s with heap := h', toks := tk }) :
    wpAny (model prog w) A (newList []) (fun acc s₃ => wpAny (model prog w) A (newFunctionEnv scope env.globals cl [] env.qual none .none (some env)) (fun cenv s₄ =>
      codeAny (model prog w) A (.compStart (.ListComp elt (⟨.Name x px, iter, ifs, 0⟩ :: rest) scope pos) 0 (.ref I) acc { cenv with scope := relabel scope env }) (RR acc cenv.locals) s₄) E s₃) E s := by
  refine wpAny_newObj_type (wpAny_newFunctionEnv hcell (by intro y hy; simp at hy) (fun h₁ hns₁ hsb₁ => ?_) hkind)
  dsimp only at hns₁ hsb₁ ⊢
  generalize hH2 : s.heap.push { cls := .type "list", dict := none, data := .seq ([] : List Value).toArray } = H2 at hns₁ hsb₁ ⊢
  have hCz : H2.objs.size = s.heap.objs.size + 1 := by rw [← hH2, Heap.size_push]
  generalize hDz : s.heap.objs.size = D at *
  generalize hCC : H2.objs.size = C at *
  have hDC : D ≠ C := by rw [hCz]; exact Nat.ne_of_lt (Nat.lt_succ_self _)
  have fresh : ∀ a, s.heap.objs.size ≤ a → s.heap.get? a = none := fun a ha => get_none_of_size ha
  have hDn : s.heap.get? D = none := fresh D (by rw [hDz]; exact Nat.le_refl _)
  have hCn : s.heap.get? C = none := fresh C (by rw [hDz, hCz]; exact Nat.le_succ _)
  have hH2C : H2.get? C = none := get_none_of_size (by rw [hCC]; exact Nat.le_refl _)
  have keepH : ∀ b o, H2.get? b = some o → h₁.get? b = some o := fun b o e => (hsb₁.2 b fun q => by rw [q, hH2C] at e; cases e).trans (Heap.get?_push_of_some _ e)
  have old : ∀ b o, s.heap.get? b = some o → h₁.get? b = some o := fun b o e => keepH b o (by rw [← hH2]; exact Heap.get?_push_of_some _ e)
  have hDo : h₁.get? D = some (lstO [] 0) := keepH D _ (by rw [← hH2, ← hDz]; exact Heap.get?_push_size _ rfl)
  have gout : ∀ b, b ∉ wr ++ σ.map (·.1) → (mask s.heap (wr ++ σ.map (·.1))).get? b = s.heap.get? b := fun b hb => mask_out hb
  have gle : ∀ b o, g.get? b = some o → (mask s.heap (wr ++ σ.map (·.1))).get? b = some o := fun b o e => by
    rw [gout]
    · exact R.rh.keep b o e
    · intro hm
      rcases List.mem_append.mp hm with hm | hm
      · rw [hwr b hm] at e; cases e
      · obtain ⟨p, hp, q⟩ := List.mem_map.mp hm
        have := (R.rh.own p hp).1
        rw [q, e] at this; cases this
  have gL : ∀ o, s.heap.get? L = some o → (mask s.heap (wr ++ σ.map (·.1))).get? L = some o := fun o e => by
    rw [gout]
    · exact e
    · intro hm
      rcases List.mem_append.mp hm with hm | hm
      · exact (hfp L (W.sub L hm)).1 rfl
      · obtain ⟨p, hp, q⟩ := List.mem_map.mp hm
        exact R.offS p hp q
  have gnone : ∀ b, s.heap.get? b = none → (mask s.heap (wr ++ σ.map (·.1))).get? b = none := fun b e => by
    cases q : (mask s.heap (wr ++ σ.map (·.1))).get? b with
    | none => rfl
    | some o => rw [mask_sub q] at e; cases e
  have offD : ∀ p ∈ σ, p.1 ≠ D := fun p hp e => by obtain ⟨_, o, ho, _⟩ := R.rh.own p hp; rw [e, hDn] at ho; cases ho
  have offC : ∀ p ∈ σ, p.1 ≠ C := fun p hp e => by obtain ⟨_, o, ho, _⟩ := R.rh.own p hp; rw [e, hCn] at ho; cases ho
  have R1 : RH prog w (mask s.heap (wr ++ σ.map (·.1))) σ h₁ :=
    ⟨fun b o e => old b o (mask_sub e), R.rh.nd, fun p hp => ⟨mask_in (List.mem_append_right _ (List.mem_map_of_mem hp)), let ⟨_, o, e, r⟩ := R.rh.own p hp; ⟨o, old _ _ e, r.mono _ _ (.of_keep old)⟩⟩,
      let ⟨o, e⟩ := R.rh.st; ⟨o, gle _ _ e⟩, R.rh.low⟩
  have Rc : Rel prog w (mask s.heap (wr ++ σ.map (·.1))) C [] σ h₁ := ⟨R1, ⟨_, hns₁, fun x v e => by simp at e⟩, offC⟩
  have st1 : S 0 h₁ := W.frame _ _ _ hst (fun b _ o e => old b o e) (.of_keep old)
  have loop : ∀ s₃ : Shared, s₃ = { s with heap := h₁, toks := s.toks + ([] : List (Str × Value)).length } →
      codeAny (model prog w) A (.compLoop (.ListComp elt (⟨.Name x px, iter, ifs, 0⟩ :: rest) scope pos) 0 (.ref I) (.ref D) (compEnvC scope cl C env)) (RR (.ref D) C) s₃ := by
    rintro s₃ rfl
    refine hloop C D _ _ _ (fun b o e => gle b o (hB b o e)) Rc (gnone C hCn) (gnone D hDn) hDC offD hDo st1 ?_ (fun b hb => mask_in (List.mem_append_left _ hb)) ?_
    · intro b hb
      obtain ⟨o, ho⟩ := W.there _ _ hst b hb
      refine ⟨fun e => ?_, fun e => ?_, (hfp b hb).2⟩
      · rw [e, hCn] at ho; cases ho
      · rw [e, hDn] at ho; cases ho
    · intro acc σ' h' tk m' hq R' ⟨cacc, n, hD', hacc⟩ hDσ t
      have t' : TK s.heap h' := (TK.of_keep old).trans t
      have Rb : Rel prog w g L m σ' h' := R.back gle gL R'.rh t'
      have gD : g.get? D = none := by
        cases q : g.get? D with
        | none => rfl
        | some o => have := gle _ _ q; rw [gnone D hDn] at this; cases this
      have gC : g.get? C = none := by
        cases q : g.get? C with
        | none => rfl
        | some o => have := gle _ _ q; rw [gnone C hCn] at this; cases this
      have hLo : ∃ o, s.heap.get? L = some o := R.lt
      have hDL : D ≠ L := fun e => by obtain ⟨o, ho⟩ := hLo; rw [← e, hDn] at ho; cases ho
      have hCL : C ≠ L := fun e => by obtain ⟨o, ho⟩ := hLo; rw [← e, hCn] at ho; cases ho
      obtain ⟨mc, hns', _⟩ := R'.ns
      refine hRR D C acc σ' h' tk mc hq ⟨⟨Rb.rh.keep, ?_, fun p hp => ?_, Rb.rh.st, fun p hp => ?_⟩, Rb.ns, fun p hp => ?_⟩ hns' gC hCL (Ne.symm hDC) R'.offS t'
      · refine List.nodup_cons.mpr ⟨fun hm => ?_, Rb.rh.nd⟩
        obtain ⟨p, hp, e⟩ := List.mem_map.mp hm
        exact hDσ p hp e
      · rcases List.mem_cons.mp hp with rfl | hp
        · exact ⟨gD, _, hD', cacc, n, rfl, hacc⟩
        · exact Rb.rh.own p hp
      · rcases List.mem_cons.mp hp with rfl | hp
        · show cStatics < D
          rw [← hDz]; exact R.rh.big
        · exact Rb.rh.low p hp
      · rcases List.mem_cons.mp hp with rfl | hp
        · exact hDL
        · exact Rb.offS p hp
  exact codeAny_compStart_list (loop _ rfl) (W.self A 0 _ _ _ st1 (loop _ rfl))
/-- z = [y for x in list for y in …] -/
theorem evx_assign_nest {scope : Scope} {cl : List (Str × Addr)} {x y z : Str} {px py py2 pz pos spos : Pos} {iter i1 : Expr} {Q : Fl → Env' → St → Prop} (rows : List (V × Addr × O × List V)) (hclos : closureFor scope env = pure cl) (hok : compOk scope x = true) (hy : scope.names.lookup y = some .local)
    (hiter : EvE prog w Bs k env iter m σ fun v σ1 => v = .ref a ∧ σ1 = σ) (hm : (a, ob) ∈ σ) (hol : ob.peel = .list (rows.map (·.1))) (hz : (rows.flatMap (·.2.2.2)).length ≤ sizeLine)
    (hrow : ∀ C, ∀ r ∈ rows, (r.2.1, r.2.2.1) ∈ σ ∧ r.2.2.1.peel = .list r.2.2.2 ∧ EvE prog w Bs k (compEnvC scope cl C env) i1 [(x, r.1)] σ fun v σ1 => v = .ref r.2.1 ∧ σ1 = σ) (hs1 : ∀ C z, foldedSetIterable i1 (compEnvC scope cl C env) z = pure z)
    (hq : ∀ D, Q .next (mset m z (.ref D)) ((D, .list (rows.flatMap (·.2.2.2))) :: σ))
    (hsw : swapsWith (nest x y px py py2 pos iter i1 scope) (some (.Name z pz)) spos.line env = pure true := by rfl) (hl : env.kindOf z = some .local := by rfl) (hk : env.scope.kind = .function := by rfl)
    (hs : ∀ x, foldedSetIterable iter env x = pure x := by intro _; rfl) (hyd : (y == ("__debug__" : Str)) = false := by decide) : EvX prog w Bs k env (.Assign [.Name z pz] (nest x y px py py2 pos iter i1 scope) spos) m σ Q := fun A g s Qc Ec hA hB hL R hQ => by
  simp only [compOk, Bool.and_eq_true, decide_eq_true_eq, List.all_eq_true] at hok
  obtain ⟨⟨⟨o1, o2⟩, o3⟩, o4⟩ := hok
  rw [exec_Assign_Name_used _ _ _ _ hsw]
  refine wpAny_bind (wpAny_standAt (wpAny_bind ?_))
  show wpAny _ A (do let _ ← comprehension (nest x y px py py2 pos iter i1 scope) scope env _ (newList []) false (eval iter env) (some (assign (.Name z pz) env))) _ _ s
  refine wpAny_bind (wpAny_mono (wpAny_comprehension_free (use := some (assign (.Name z pz) env)) (Q := fun _ s' => Qc .next s') rfl hs hclos o1 (fun y hy => o3 y hy) ?_) (fun _ s' hq => wpAny_pure (wpAny_pure hq)) fun _ _ e => e)
  refine hiter A g s _ _ hA hB R fun cv v σ1 h1 tk1 hi R1 r1 t1 => ?_
  obtain ⟨rfl, rfl⟩ := hi
  have its : Its prog w Bs k env.locals (.ref a) m σ1 fun vs need σ2 => vs = rows.map (·.1) ∧ σ2 = σ1 := its_list hm hol ⟨rfl, rfl⟩
  refine its A g _ cv _ _ hA hB R1 r1 fun I fp wr vs need S σ' h' tk hb W st R' t' hfp hwr hn _ => ?_
  obtain ⟨rfl, rfl⟩ := hb
  refine comp_coreL (Q := fun acc σ'' => acc = rows.flatMap (·.2.2.2) ∧ σ'' = σ') (RR := fun acc C => compPost (model prog w) A Ec (some (assign (.Name z pz) env)) (fun _ s' => Qc .next s') acc C) W hA hB o1 (fun y hy => o2 y hy) R' st hfp hwr hn (fun C D g0 s₃ RR' hB0 Rc hC hD hDC hDσ hDo st3 hfp3 hwr3 hk3 => ?_) ?_
  · exact outer_loop rows W hA hB0 o1 o4 hy hyd (hrow C) (hs1 C) Rc hC hD hDC hDσ hDo hz st3 hfp3 hwr3 hn fun h' tk m' R4 hl4 t4 => hk3 _ _ h' tk m' ⟨rfl, rfl⟩ R4 hl4 hDσ t4
  intro D C acc σ3 h3 tk3 m3 hq3 R3 hns gC hCL hCD hσ t3
  obtain ⟨rfl, rfl⟩ := hq3
  show wpAny _ A (assign (.Name z pz) env (.ref D)) _ _ _
  obtain ⟨mc, hnL, hmL⟩ := R3.ns
  refine wpAny_assign_Name (wpAny_storeName_local hl hnL (fun h4 hn4 hs4 => ?_) (by rw [hk]; rfl))
  have R4 := R3.store hL hnL hmL hn4 hs4 (.ref D)
  have t4 := ns_tk hnL hs4
  refine ⟨m3, hns.sameBut hs4 hCL, fun h5 hs5 => ?_⟩
  obtain ⟨R5, t5⟩ := R4.offC hs5 gC hCL (fun p hp => by
    rcases List.mem_cons.mp hp with rfl | hp
    · exact Ne.symm hCD
    · exact hσ p hp) (hns.sameBut hs4 hCL)
  exact hQ .next .next _ _ h5 _ (hq D) R5 .next (t1.trans (t'.trans (t3.trans (t4.trans t5))))
end
end Mine

set_option Elab.async false
set_option linter.unusedVariables false
set_option maxRecDepth 100000
namespace Mine
open PySem PyProof.Rows PySem.Calls PySem.W PySem.Spec Builtin Builtin.Str

section
variable {prog : Program} {w : World} {Bs : Heap} {k : Nat} {env : Env} {m : Env'} {σ σ' : St} {g g' h h' h'' : Heap} {L a c P : Addr} {fs : List Env} {vs : List V} {mg mb : Str → Option Value} {ob : O} {x y : Str} {ps : Array Value}

-- expressions that may raise
theorem evaV_nil {pos : Pos} {Q : List V → St → Prop} {X : Bool → V → St → Prop} (h : Q [] σ) : EvThV prog w Bs VRs k env (spliced (backTo pos (starEach [] env))) m σ Q X := Ev.toV (eva_nil h)
theorem evaV_cons {pos : Pos} {e : Expr} {rest : List Expr} {Q : List V → St → Prop} {X : Bool → V → St → Prop}
    (h : EvThV prog w Bs VR k env (eval e env) m σ (fun v σ1 => EvThV prog w Bs VRs k env (spliced (backTo pos (starEach rest env))) m σ1 (fun vs σ2 => Q (v :: vs) σ2) X) X)
    (he : starEach (e :: rest) env = (false, eval e env) :: starEach rest env := by rfl) : EvThV prog w Bs VRs k env (spliced (backTo pos (starEach (e :: rest) env))) m σ Q X :=
  fun A g s fs Qc Ec hA hB U R hQ hX => args_cons (h A g s fs _ _ hA hB U R (fun c v σ1 h1 tk hq R1 r t F1 u1 =>
    hq A g _ fs _ _ hA hB (U.move F1) R1 (fun cs vs σ2 h2 tk2 hq2 R2 rs t2 F2 u2 => hQ _ _ σ2 h2 tk2 hq2 R2 (.cons (r.mono t2) rs) (t.trans t2) F2 (u1.trans u2))
      fun e fr av σ' h' tk hx R' x t' F' u' => hX e fr av σ' h' tk hx R' x (t.trans t') F' (u1.trans u')) hX) he
theorem evV_tuple {es : List Expr} {kk : Nat} {pos : Pos} {Q : V → St → Prop} {X : Bool → V → St → Prop} (h : EvThV prog w Bs VRs k env (spliced (backTo pos (starEach es env))) m σ (fun vs σ1 => vs.length ≤ sizeLine ∧ Q (.tup vs) σ1) X) : EvThV prog w Bs VR k env (eval (.Tuple es kk pos) env) m σ Q X :=
  fun A g s fs Qc Ec hA hB U R hQ hX => wpAny_Tuple (h A g s fs _ _ hA hB U R (fun cvs vs σ1 h1 tk ⟨hl, hq⟩ R1 rs t F1 u1 => ⟨by rw [rs.length]; exact hl,
    have kp := push_keep h1 (tupO cvs 0)
    hQ _ _ σ1 _ tk hq (R1.ext kp) (.tup (cvs := cvs) (n := 0) (Heap.get?_push_size _ rfl) (rs.mono (.of_keep kp))) (t.trans (.of_keep kp)) (F1.move (.of_keep kp)) (u1.trans (.of_keep kp))⟩) hX)
theorem EvF.toV {f : Value} {Q : V → St → Prop} {X : Bool → V → St → Prop} (h : EvF prog w Bs k f vs σ Q) : EvFV prog w Bs k f vs σ Q X := by
  intro A g s fs Qc Ec cvs hA hB hfr F R rs hQ hX
  have le := R.le_mask
  have h0 : ∀ b ∈ fAdr fs, ∀ o, s.heap.get? b = some o → (mask s.heap (σ.map (·.1))).get? b = some o := fun b hb o ho => by
    rw [mask_out]; exact ho
    intro hm
    obtain ⟨p, hp, q⟩ := List.mem_map.mp hm
    exact (F.mem hb).2.1 p hp q
  refine h A _ s Qc Ec cvs hA (fun b o e => le b o (hB b o e)) R.masked rs fun cv v σ' h' tk hq R' rv t => ?_
  exact hQ cv v σ' h' tk hq (R'.less R.st le) rv t (F.over h0 R') fun en hen L hL o ho => ⟨o.slots, R'.keep _ _ (h0 L (List.mem_filterMap.mpr ⟨en, hen, hL⟩) o ho)⟩
/-- o.name(…), the arguments may raise -/
theorem evV_meth {o : Expr} {name : Str} {apos pos : Pos} {e : Expr} {rest : List Expr} {pl : Sem Bool} {Q : V → St → Prop} {X : Bool → V → St → Prop} {T id : String} (pa : PlainAttrs T) (slot : Slot T name id) (hty : typeOf (.builtin id) = pure (.type "method_descriptor"))
    (h : EvE prog w Bs k env o m σ fun ov σ1 => Kd σ1 ov T ∧ EvThV prog w Bs VRs k env (spliced (backTo pos (starEach (e :: rest) env))) m σ1 (fun vs σ2 => EvF prog w Bs k (.builtin id) (ov :: vs) σ2 Q) X)
    (he : eval (.Call (.Attribute o name apos) (e :: rest) [] pos) env = (do
      let ov ← eval o env
      standAt apos.atName
      let (f, first) ← holding [ov] (getMethod ov name pl)
      callWith pos f first (backTo pos (starEach (e :: rest) env)) []) := by rfl)
    (hst : starEach (e :: rest) env = (false, eval e env) :: starEach rest env := by rfl) (hp : (backTo pos (starEach rest env)).any (·.1) = false := by rfl) :
    EvThV prog w Bs VR k env (eval (.Call (.Attribute o name apos) (e :: rest) [] pos) env) m σ Q X := fun A g s fs Qc Ec hA hB U R hQ hX =>
  MethodCall_ ((Ev.toV (X := fun _ _ _ => False) h) A g s fs _ _ hA hB U R (fun co ov σ1 h1 tk1 ⟨hk, ha⟩ R1 ro t1 F1 u1 => by
    obtain ⟨hT, hd⟩ := hk.type (s := { s with heap := h1, toks := tk1 }) R1.rh ro
    refine getMethod_builtin hT pa slot hty hd ?_
    show wpAny _ _ (callWith pos (.builtin id) [co] _ []) _ _ _
    rw [hst]
    refine callWith_builtin (by show (false || (backTo pos (starEach rest env)).any (·.1)) = false; rw [hp]; rfl) (evalArgs_plain ?_)
    have := ha A g { s with heap := h1, toks := tk1 } fs (fun vs s₁ => wpAny (model prog w) A (call (.builtin id) ([co] ++ vs)) Qc Ec s₁) Ec hA hB (U.move F1) R1 (fun cvs vs σ2 h2 tk2 hq R2 rs t2 F2 u2 => by
      have FF : Frs (env :: fs) g σ2 h2 := R2.frs U.none U.own U.kind F2
      have own : ∀ {σ3 : St} {h3 : Heap}, RH prog w g σ3 h3 → TK h2 h3 → Frs (env :: fs) g σ3 h3 → UpS (env :: fs) h2 h3 → Rel prog w g env.locals m σ3 h3 := fun {σ3 h3} R3 t3 F3 u3 => by
        obtain ⟨mc, ⟨o, es, ep, ho, hdd, r⟩, hv⟩ := R2.ns
        obtain ⟨sl, hs⟩ := u3 env (.head _) env.locals U.own o ho
        exact ⟨R3, ⟨mc, ⟨_, es, ep, hs, hdd, r⟩, fun x v e => let ⟨cv, a, b⟩ := hv x v e; ⟨cv, a, b.mono t3⟩⟩, (F3.mem (b := env.locals) (by simp [fAdr, U.own])).2.1⟩
      refine (EvF.toV (X := fun _ _ _ => False) hq) A g { s with heap := h2, toks := tk2 } (env :: fs) _ _ ([co] ++ cvs) hA hB U.fr FF R2.rh (.cons (ro.mono t2) rs) (fun cv v σ3 h3 tk3 hq3 R3 rv3 t3 F3 u3 => ?_) fun _ _ _ _ _ _ x => x.elim
      exact hQ cv v σ3 h3 tk3 hq3 (own R3 t3 F3 u3) rv3 (t1.trans (t2.trans t3)) (fun en hen => F3 en (.tail _ hen)) (u1.trans (u2.trans fun en hen => u3 en (.tail _ hen))))
      fun e fr av σ' h' tk hx R' x t' F' u' => hX e fr av σ' h' tk hx R' x (t1.trans t') F' (u1.trans u')
    rw [hst] at this
    exact this) fun _ _ _ _ _ _ x => x.elim) he
theorem evxV_expr {e : Expr} {pos : Pos} {Q : Fl → Env' → St → Prop} {X : Bool → V → Env' → St → Prop} (h : EvThV prog w Bs VR k env (eval e env) m σ (fun v σ1 => NoRef v ∧ Q .next m σ1) fun fr av σ1 => X fr av m σ1)
    (hi : interactive env = false := by rfl) (hs : swapsWith e none pos.line env = pure false := by rfl) : EvStV prog w Bs k env (exec (.Expr e pos) env) m σ Q X :=
  fun A g s fs Qc Ec hA hB U R hQ hX => wpAny_Expr (h A g s fs _ _ hA hB U R (fun c b σ1 h1 tk ⟨hn, hq⟩ R1 r t F1 u1 => by
    have := hQ .next .next m σ1 h1 tk hq R1 .next t F1 u1
    cases hn <;> cases r <;> exact this) fun e fr av σ' h' tk hx R' x t' F' u' => hX e _ fr av m σ' h' tk hx R' (.inr (.inl rfl)) x t' F' u') hi hs

-- builtins
theorem bf_strip {Q : V → St → Prop} (hz : x.length ≤ sizeLine) (hq : Q (.str (Txt.strip x)) σ) : EvF prog w Bs k (.builtin "str.strip") [.str x] σ Q := bf_s1 (fun A s t Qc Ec hQ => SC.strip (fun t' k => hQ _ k (.str ..)) hz) hq
theorem bf_isprintable {Q : V → St → Prop} (hq : Q (.bool (Txt.isprintable x)) σ) : EvF prog w Bs k (.builtin "str.isprintable") [.str x] σ Q := bf_s1 (fun A s t Qc Ec hQ => SC.isprintable (hQ _ s.toks (.bool _))) hq
theorem bf_chr {i : Int} {Q : V → St → Prop} (hi : (decide (i < 0) || decide (i > 0x10FFFF)) = false) (hq : Q (.str ⟨#[i.toNat]⟩) σ) : EvF prog w Bs k (.builtin "chr") [.int i] σ Q := bf_i1 (fun A s t Qc Ec hQ => P.chr_of_int hi (hQ _ _ (.str ..))) hq
theorem bf_isstr {Q : V → St → Prop} (hq : Q (.bool true) σ) : EvF prog w Bs k (.builtin "isinstance") [.str x, .raw (.type "str")] σ Q := by
  intro A g s Qc Ec cvs hA hB R rs hQ
  cases rs with
  | cons r rs =>
    cases r
    cases rs with
    | cons r rs =>
      cases rs; cases r
      exact PySem.IsiPair.str_str (hQ _ _ σ s.heap _ hq R (.bool _) (.refl _))
theorem strs_vr2 : ∀ (l : List (Str × Tok)), VRs h (strValues l) ((l.map (·.1)).map .str)
  | [] => .nil
  | p :: l => .cons (.str ..) (strs_vr2 l)
theorem new_strs {s : Shared} {A : Around} {Qc : Value → Shared → Prop} {Q : V → St → Prop} (R : RH prog w g σ s.heap) (l : List (Str × Tok)) (tk : Tok)
    (hq : ∀ b, Q (.ref b) ((b, .list ((l.map (·.1)).map .str)) :: σ)) (hQ : ∀ cv v σ' h' tk, Q v σ' → RH prog w g σ' h' → VR h' cv v → TK s.heap h' → Qc cv { s with heap := h', toks := tk }) :
    Qc (.ref s.heap.objs.size) { s with heap := s.heap.push { cls := .type "list", data := .seq (strValues l).toArray }, toks := tk } := by
  have kp := push_keep s.heap (lstO (strValues l) 0)
  exact hQ _ _ _ _ tk (hq _) (R.new kp (Nat.le_refl _) (o := lstO (strValues l) 0) (Heap.get?_push_size _ rfl) ⟨_, 0, rfl, strs_vr2 l⟩) (.ref _) (.of_keep kp)
theorem bf_split0 {Q : V → St → Prop} (hz : x.length ≤ sizeLine) (hn : (spaceWords x (x.length + 1)).length ≤ sizeLine) (hq : ∀ b, Q (.ref b) ((b, .list ((Txt.words x).map .str)) :: σ)) : EvF prog w Bs k (.builtin "str.split") [.str x] σ Q := by
  intro A g s Qc Ec cvs hA hB R rs hQ
  cases rs with
  | cons r rs =>
    cases r; cases rs
    rename_i t
    refine call_meets F.slot_str_split (typeIs_str _ _ _) F.entry_str_split (F.args_str_split_1 _) (meets_str_split_space x t hz hn) ?_
    cases hw : spaceWords x (x.length + 1) == [(0, x.length)]
    · simp only [Bool.false_eq_true, if_false]
      rw [strsFrom_eq]
      have e : (numbered s.toks (PySem.wordsOf x)).map (·.1) = Txt.words x := (numbered_texts _ _).trans (if_neg (ne_true_of_eq_false hw)).symm
      exact new_strs (A := A) R (numbered s.toks (PySem.wordsOf x)) _ (by rw [e]; exact hq) hQ
    · simp only [if_true]
      have e : ([(x, t)] : List (Str × Tok)).map (·.1) = Txt.words x := (if_pos hw).symm
      exact new_strs (A := A) R [(x, t)] _ (by rw [e]; exact hq) hQ
theorem bf_split1 {Q : V → St → Prop} (hy : (y.length == 0) = false) (hz : x.length ≤ sizeLine) (hn : (partsBetween x (occurrences x y 0 x.length (x.length + 1)) y.length).length ≤ sizeLine) (hq : ∀ b, Q (.ref b) ((b, .list ((Txt.split x y).map .str)) :: σ)) : EvF prog w Bs k (.builtin "str.split") [.str x, .str y] σ Q := by
  intro A g s Qc Ec cvs hA hB R rs hQ
  cases rs with
  | cons r rs =>
    cases r
    cases rs with
    | cons r rs =>
      cases r; cases rs
      rename_i t u
      cases h1 : (decide (x.length < y.length) || decide (strKind x < strKind y))
      · cases hf : (occurrences x y 0 x.length (x.length + 1)).isEmpty
        · refine call_meets F.slot_str_split (typeIs_str _ _ _) F.entry_str_split (F.args_str_split_2 _ _) (meets_str_split_sep x y t u h1 hy hf hz hn) ?_
          show wants Qc Ec _ { s with toks := _, heap := s.heap.push { cls := .type "list", data := .seq (strsFrom s.toks (partsBetween x (occurrences x y 0 x.length (x.length + 1)) y.length)).toArray } }
          rw [strsFrom_eq]
          have e : (numbered s.toks (partsBetween x (occurrences x y 0 x.length (x.length + 1)) y.length)).map (·.1) = Txt.split x y := (numbered_texts _ _).trans ((if_neg (ne_true_of_eq_false h1)).trans (if_neg (ne_true_of_eq_false hf))).symm
          exact new_strs (A := A) R (numbered s.toks _) _ (by rw [e]; exact hq) hQ
        · have e : ([(x, t)] : List (Str × Tok)).map (·.1) = Txt.split x y := ((if_neg (ne_true_of_eq_false h1)).trans (if_pos hf)).symm
          exact call_meets F.slot_str_split (typeIs_str _ _ _) F.entry_str_split (F.args_str_split_2 _ _) (meets_str_split_not_found x y t u h1 hy hf) (new_strs (A := A) R [(x, t)] _ (by rw [e]; exact hq) hQ)
      · have e : ([(x, t)] : List (Str × Tok)).map (·.1) = Txt.split x y := (if_pos h1).symm
        exact call_meets F.slot_str_split (typeIs_str _ _ _) F.entry_str_split (F.args_str_split_2 _ _) (meets_str_split_cannot_occur x y t u h1) (new_strs (A := A) R [(x, t)] _ (by rw [e]; exact hq) hQ)
theorem bf_insert {i : Int} {v : V} {Q : V → St → Prop} (u : Up a (.list vs) (.list (vs.take i.toNat ++ v :: vs.drop i.toNat)) σ σ') (h0 : 0 ≤ i) (h1 : i ≤ vs.length) (hz : vs.length ≤ 100000) (hq : Q .none σ') : EvF prog w Bs k (.builtin "list.insert") [.ref a, .int i, v] σ Q := by
  intro A g s Qc Ec cvs hA hB R rs hQ
  cases rs with
  | cons r rs =>
    cases r
    cases rs with
    | cons ri rs =>
      cases ri
      cases rs with
      | cons rv rs =>
        cases rs
        rename_i t cv
        obtain ⟨cl, n, ho, rl⟩ := R.list_at u.mem rfl
        have hlen := rl.length
        refine call_meets F.slot_list_insert ⟨_, ho, rfl⟩ F.entry_list_insert (F.args_list_insert_3 _ _ _) (AutoSeq1.list_insert_list_int_val_1 a cl.toArray n i t cv (by unfold Builtin.List.listFitsIndex; simp; omega) (by rw [sizeLine_eq]; simp; omega)) ⟨ho, ?_⟩
        have e2 : (if i < 0 then (i + ((cl.toArray).size : Int)).toNat else min i.toNat cl.toArray.size) = i.toNat := by
          rw [if_neg (by omega)]; simp; omega
        have e3 : ((cl.toArray.extract 0 i.toNat).push cv ++ cl.toArray.extract i.toNat) = (cl.take i.toNat ++ cv :: cl.drop i.toNat).toArray := by
          apply Array.ext'
          simp [List.take_of_length_le]
        have e1 : ∃ n', Obj.mapSeq (fun xs => have k := if i < 0 then (i + (xs.size : Int)).toNat else min i.toNat xs.size; (xs.extract 0 k).push cv ++ xs.extract k) (lstO cl n) = lstO (cl.take i.toNat ++ cv :: cl.drop i.toNat) n' := by
          have gen : ∀ (f : Array Value → Array Value) (ys : List Value), f cl.toArray = ys.toArray → ∃ n', Obj.mapSeq f (lstO cl n) = lstO ys n' := fun f ys e => ⟨if (f cl.toArray).size == cl.toArray.size then n else n + 1, by
            show ({ cls := .type "list", dict := none, data := .seq (f cl.toArray) (if (f cl.toArray).size == cl.toArray.size then n else n + 1), slots := #[] } : Obj) = { cls := .type "list", dict := none, data := .seq ys.toArray (if (f cl.toArray).size == cl.toArray.size then n else n + 1), slots := #[] }
            rw [e]⟩
          refine gen _ _ ?_
          show (cl.toArray.extract 0 (if i < 0 then (i + ((cl.toArray).size : Int)).toNat else min i.toNat cl.toArray.size)).push cv ++ cl.toArray.extract (if i < 0 then (i + ((cl.toArray).size : Int)).toNat else min i.toNat cl.toArray.size) = _
          rw [e2, e3]
        obtain ⟨n', e1⟩ := e1
        have hs : Heap.SameBut a s.heap (s.heap.update a (Obj.mapSeq fun xs => have k := if i < 0 then (i + (xs.size : Int)).toNat else min i.toNat xs.size; (xs.extract 0 k).push cv ++ xs.extract k)) := Heap.SameBut.update ..
        have ho' := Heap.get?_update_self (Obj.mapSeq fun xs => have k := if i < 0 then (i + (xs.size : Int)).toNat else min i.toNat xs.size; (xs.extract 0 k).push cv ++ xs.extract k) ho (by rw [e1]; rfl)
        rw [e1] at ho'
        have tk := list_tk ho hs
        exact hQ _ _ σ' _ s.toks hq (R.upd u hs tk (c := lstO (cl.take i.toNat ++ cv :: cl.drop i.toNat) n') ho' ⟨_, n', rfl, ((VRs.take _ rl).append (.cons rv (VRs.drop _ rl))).mono tk⟩) .none tk
/-- a list as a test -/
theorem evb_list {e : Expr} {Q : Bool → St → Prop} (h : EvE prog w Bs k env e m σ fun v σ1 => ∃ a ob vs, v = .ref a ∧ (a, ob) ∈ σ1 ∧ ob.peel = .list vs ∧ vs.length ≤ 100000 ∧ Q (!vs.isEmpty) σ1)
    (he : isTrue e env (eval e env) = (do let v ← eval e env; standAt e.pos; holding [v] (truthy v)) := by rfl) : EvB prog w Bs k env e m σ Q :=
  fun A g s Qc Ec hA hB R hQ => wpAny_isTrue_value (h A g s _ _ hA hB R fun c v σ1 h1 tk hh R1 r t => by
    obtain ⟨a, ob, vs, rfl, hm, hl, hz, hq⟩ := hh
    cases r
    obtain ⟨cl, n, ho, rl⟩ := R1.rh.list_at hm hl
    have e : cl.toArray.isEmpty = vs.isEmpty := by
      have := rl.length
      cases cl <;> cases vs <;> simp_all
    refine wpAny_truthy_list (s := { s with heap := h1, toks := tk }) (items := cl.toArray) ⟨_, ho, rfl, n, rfl⟩ (by simp [rl.length]; omega) ?_
    rw [e]
    exact hQ _ _ σ1 h1 _ hq R1 rfl t) he
-- f-strings, with the length
variable (prog w Bs) in
def EvJL (k : Nat) (env : Env) (m : Env') : List Expr → Nat → St → (Nat → St → Prop) → Prop
  | [], n, σ, Q => Q n σ
  | e :: es, n, σ, Q => EvE prog w Bs k env e m σ fun v σ1 => ∃ y, v = .str y ∧ n + y.length ≤ sizeLine ∧ EvJL k env m es (n + y.length) σ1 Q
theorem evjL_cons {e : Expr} {es : List Expr} {n : Nat} {Q : Nat → St → Prop} (h : EvE prog w Bs k env e m σ fun v σ1 => ∃ y, v = .str y ∧ n + y.length ≤ sizeLine ∧ EvJL prog w Bs k env m es (n + y.length) σ1 Q) : EvJL prog w Bs k env m (e :: es) n σ Q := h
theorem joinsL_of {A : Around} {Ec : Value → Shared → Prop} (hA : AOk k A) (hB : ∀ b o, Bs.get? b = some o → g.get? b = some o) : ∀ (es : List Expr) (acc : Str) (σ : St) (s : Shared) (Qs : Nat → St → Prop) (Qc : Str → Shared → Prop), acc.length ≤ sizeLine → Rel prog w g env.locals m σ s.heap → EvJL prog w Bs k env m es acc.length σ Qs →
    (∀ out σ' h' tk, out.length ≤ sizeLine → Qs out.length σ' → Rel prog w g env.locals m σ' h' → TK s.heap h' → Qc out { s with heap := h', toks := tk }) → Joins (model prog w) A Ec (evalEach es env) acc Qc s
  | [], acc, σ, s, Qs, Qc, hz, R, hj, hQ => hQ acc σ s.heap s.toks hz hj R (.refl _)
  | e :: es, acc, σ, s, Qs, Qc, hz, R, hj, hQ => by
    show wpAny _ A (eval e env) _ _ _
    refine hj A g s _ _ hA hB R fun cv v σ1 h1 tk1 ⟨y, ev, hy, hj'⟩ R1 rv t1 => ?_
    subst ev
    cases rv
    have hl : (acc ++ y).length = acc.length + y.length := strLen_append ..
    refine ⟨y, _, rfl, by rw [hl]; exact hy, joinsL_of hA hB es (acc ++ y) σ1 _ Qs Qc (by rw [hl]; exact hy) R1 (by rw [hl]; exact hj') fun out σ' h' tk ho hs R' t' => hQ out σ' h' tk ho hs R' (t1.trans t')⟩
theorem ev_joinedL {v₁ v₂ : Expr} {rest : List Expr} {pos : Pos} {Q : V → St → Prop} (h : EvJL prog w Bs k env m (v₁ :: v₂ :: rest) 0 σ fun n σ1 => ∀ text, text.length = n → Q (.str text) σ1) : EvE prog w Bs k env (.JoinedStr (v₁ :: v₂ :: rest) pos) m σ Q := fun A g s Qc Ec hA hB R hQ =>
  wpAny_JoinedStr (joinsL_of hA hB _ Str.empty σ s _ _ (by decide) R h fun out σ' h' tk ho hs R' t' => ⟨ho, hQ _ _ σ' h' _ (hs out rfl) R' (.str ..) t'⟩)
/-- if not all(…) -/
theorem evxG_ifnot {e : Expr} {body orelse : List Stmt} {np pos : Pos} {Q : Fl → Env' → St → Array Value → Prop}
    (h : EvG prog w Bs VR P ps k env.locals (eval e env) m σ fun v σ1 p1 => ∃ b, v = .bool b ∧ if !b then EvStG prog w Bs P p1 k env.locals (execs body env) m σ1 Q else EvStG prog w Bs P p1 k env.locals (execs orelse env) m σ1 Q)
    (he : isTrue e env (eval e env) = (do let v ← eval e env; standAt e.pos; holding [v] (truthy v)) := by rfl) : EvStG prog w Bs P ps k env.locals (exec (.If (.UnaryOp .Not e np) body orelse pos) env) m σ Q :=
  fun A g s Qc Ec hA hB hL hP hPL tab off hG R hQ => wpAny_If (wpAny_isTrue_Not (wpAny_isTrue_value (h A g s _ _ hA hB hP hPL tab off hG R fun c v σ1 h1 tk gn more ⟨b, ev, hq⟩ R1 r t hG1 tab1 off1 => by
    subst ev
    cases r
    refine wpAny_truthy_bool ?_
    have fin : EvStG prog w Bs P (ps ++ more) k env.locals (execs (if !b then body else orelse) env) m σ1 Q := by
      cases b with
      | true => exact hq
      | false => exact hq
    have := fin A g { s with heap := h1, toks := tk, gens := gn } Qc Ec hA hB hL hP hPL tab1 off1 hG1 R1 fun c v m' σ' h' tk gn' more' hq R' p t' hG' tab' off' => hQ c v m' σ' h' tk gn' (more ++ more') (by rw [← Array.append_assoc]; exact hq) R' p (t.trans t') hG' (by rw [← Array.append_assoc]; exact tab') off'
    cases b with
    | true => exact this
    | false => exact this) he))
end
end Mine

set_option Elab.async false
set_option linter.unusedVariables false
set_option maxRecDepth 100000
namespace Mine
open PySem Builtin Builtin.Str PySem.StrLaws

theorem str_ext' {x y : Str} (h : x.cps.toList = y.cps.toList) : x = y := by
  obtain ⟨⟨a⟩⟩ := x; obtain ⟨⟨b⟩⟩ := y
  simp at h; rw [h]
theorem len_list (x : Str) : x.cps.toList.length = x.length := by simp [Str.length]
-- words
def scan : List Nat → Nat → Option Nat → List (Nat × Nat)
  | [], n, some b => [(b, n)]
  | [], _, none => []
  | c :: r, n, some b => if Unicode.isSpace c then (b, n) :: scan r (n + 1) none else scan r (n + 1) (some b)
  | c :: r, n, none => if Unicode.isSpace c then scan r (n + 1) none else scan r (n + 1) (some n)
theorem sw_scan (s : Str) (limit : Nat) : ∀ (m cur : Nat) (words : Array (Nat × Nat)) (start : Option Nat), cur + m = s.length → words.size + m < limit → swEnd s (forIn (List.range' cur m) ((none, words, start) : SwSt) (swBody s limit)).run = words.toList ++ scan (s.cps.toList.drop cur) cur start
  | 0, cur, words, start, h, _ => by
    have hd : s.cps.toList.drop cur = [] := List.drop_eq_nil_of_le (by rw [len_list]; omega)
    rw [hd]
    have e : cur = s.length := by omega
    cases start with
    | none =>
      show words.toList = _
      simp [scan]
    | some b =>
      show (words.push (b, s.length)).toList = _
      simp [scan, e]
  | m + 1, cur, words, start, h, hz => by
    have hlt : cur < s.cps.toList.length := by rw [len_list]; omega
    have hd : s.cps.toList.drop cur = s.cps.getD cur 0 :: s.cps.toList.drop (cur + 1) := by
      rw [List.drop_eq_getElem_cons hlt]
      congr 1
      have h2 : cur < s.cps.size := by simpa using hlt
      simp [Array.getD, h2]
    rw [List.range'_succ, List.forIn_cons, hd]
    have hsz : ¬ ((words.size == limit) = true) := by rw [beq_iff_eq]; omega
    unfold swBody
    simp only [hsz, if_false]
    cases start with
    | none =>
      cases hsp : Unicode.isSpace (s.cps.getD cur 0)
      · refine (sw_scan s limit m (cur + 1) words (some cur) (by omega) (by omega)).trans ?_
        simp only [scan, hsp, Bool.false_eq_true, if_false]
      · refine (sw_scan s limit m (cur + 1) words none (by omega) (by omega)).trans ?_
        simp only [scan, hsp, if_true]
    | some b =>
      cases hsp : Unicode.isSpace (s.cps.getD cur 0)
      · refine (sw_scan s limit m (cur + 1) words (some b) (by omega) (by omega)).trans ?_
        simp only [scan, hsp, Bool.false_eq_true, if_false]
      · refine (sw_scan s limit m (cur + 1) (words.push (b, cur)) none (by omega) (by simp; omega)).trans ?_
        simp only [scan, hsp, if_true, Array.toList_push, List.append_assoc, List.singleton_append]
theorem sw_is (s : Str) : spaceWords s (s.length + 1) = scan s.cps.toList 0 none := by
  rw [sw_eq]
  have := sw_scan s (s.length + 1) s.length 0 #[] none (by omega) (by simp)
  simpa using this
def joinC (c : Nat) : List (List Nat) → List Nat
  | [] => []
  | [w] => w
  | w :: v :: r => w ++ c :: joinC c (v :: r)
def spans : Nat → List (List Nat) → List (Nat × Nat)
  | _, [] => []
  | n, w :: r => (n, n + w.length) :: spans (n + w.length + 1) r
def Word (w : List Nat) : Prop := w ≠ [] ∧ ∀ c ∈ w, Unicode.isSpace c = false
theorem scan_word : ∀ (w r : List Nat) (n b : Nat), (∀ c ∈ w, Unicode.isSpace c = false) → scan (w ++ r) n (some b) = scan r (n + w.length) (some b)
  | [], r, n, b, _ => rfl
  | c :: w, r, n, b, h => by
    rw [List.cons_append, scan, if_neg (by rw [h c (.head _)]; simp), scan_word w r (n + 1) b fun d hd => h d (.tail _ hd)]
    congr 1
    simp; omega
theorem scan_first {w : List Nat} (h : Word w) (r : List Nat) (n : Nat) : scan (w ++ r) n none = scan r (n + w.length) (some n) := by
  obtain ⟨h1, h2⟩ := h
  cases w with
  | nil => exact absurd rfl h1
  | cons c w =>
    rw [List.cons_append, scan, if_neg (by rw [h2 c (.head _)]; simp), scan_word w r (n + 1) n fun d hd => h2 d (.tail _ hd)]
    congr 1
    simp; omega
theorem space32 : Unicode.isSpace 32 = true := by decide +kernel
theorem scan_join : ∀ (ws : List (List Nat)) (n : Nat), (∀ w ∈ ws, Word w) → scan (joinC 32 ws) n none = spans n ws
  | [], n, _ => rfl
  | [w], n, h => by
    have := scan_first (h w (.head _)) [] n
    rw [List.append_nil] at this
    rw [joinC, this]; rfl
  | w :: v :: r, n, h => by
    rw [joinC, scan_first (h w (.head _)), scan, if_pos space32, scan_join (v :: r) _ fun u hu => h u (.tail _ hu)]
    rfl
theorem spans_sub : ∀ (ws : List (List Nat)) (pre : List Nat), (spans pre.length ws).map (fun p => ((pre ++ joinC 32 ws).drop p.1).take (p.2 - p.1)) = ws
  | [], pre => rfl
  | [w], pre => by
    simp only [spans, joinC, List.map_cons, List.map_nil, List.drop_left]
    rw [show pre.length + w.length - pre.length = w.length by omega, List.take_length]
  | w :: v :: r, pre => by
    have ih := spans_sub (v :: r) (pre ++ w ++ [32])
    have e1 : (pre ++ w ++ [32]).length = pre.length + w.length + 1 := by simp; omega
    have e2 : pre ++ w ++ [32] ++ joinC 32 (v :: r) = pre ++ joinC 32 (w :: v :: r) := by simp [joinC]
    rw [e1, e2] at ih
    rw [spans, List.map_cons, ih]
    congr 1
    simp only [joinC, List.drop_left]
    rw [show pre.length + w.length - pre.length = w.length by omega, List.take_left]
def mkS (l : List Nat) : Str := ⟨l.toArray⟩
theorem mkS_list (l : List Nat) : (mkS l).cps.toList = l := by simp [mkS]
theorem mkS_of (x : Str) : mkS x.cps.toList = x := str_ext' (mkS_list _)
theorem words_eq {x : Str} {ws : List (List Nat)} (hx : x.cps.toList = joinC 32 ws) (h : ∀ w ∈ ws, Word w) : Txt.words x = ws.map mkS := by
  have e0 : Txt.words x = wordsOf x := by
    unfold Txt.words
    split
    · rename_i hh
      have hh' := eq_of_beq hh
      unfold wordsOf
      rw [hh']
      simp only [List.map_cons, List.map_nil]
      congr 1
      apply str_ext'
      rw [strSub_toList, List.drop_zero, Nat.sub_zero, ← len_list, List.take_length]
    · rfl
  rw [e0]
  unfold wordsOf
  rw [sw_is, hx, scan_join ws 0 h]
  have e := spans_sub ws []
  rw [List.nil_append, ← hx] at e
  conv => rhs; rw [← e]
  rw [List.map_map]
  apply List.map_congr_left
  intro p hp
  apply str_ext'
  show (strSub x p.1 p.2).cps.toList = (mkS _).cps.toList
  rw [strSub_toList, mkS_list]
theorem sw_len {x : Str} {ws : List (List Nat)} (hx : x.cps.toList = joinC 32 ws) (h : ∀ w ∈ ws, Word w) : (spaceWords x (x.length + 1)).length = ws.length := by
  have : ∀ (ws : List (List Nat)) n, (spans n ws).length = ws.length := by
    intro ws
    induction ws with
    | nil => intro n; rfl
    | cons w r ih => intro n; simp [spans, ih]
  rw [sw_is, hx, scan_join ws 0 h, this]
-- lines
theorem cut_unique {c : Nat} : ∀ {p q r s : List Nat}, c ∉ p → c ∉ q → p ++ c :: r = q ++ c :: s → p = q ∧ r = s
  | [], [], r, s, _, _, h => by simpa using h
  | [], a :: q, r, s, _, hq, h => by
    simp only [List.nil_append, List.cons_append, List.cons.injEq] at h
    exact absurd (h.1 ▸ .head _) hq
  | a :: p, [], r, s, hp, _, h => by
    simp only [List.nil_append, List.cons_append, List.cons.injEq] at h
    exact absurd (h.1 ▸ .head _) hp
  | a :: p, b :: q, r, s, hp, hq, h => by
    simp only [List.cons_append, List.cons.injEq] at h
    obtain ⟨e1, e2⟩ := cut_unique (fun m => hp (.tail _ m)) (fun m => hq (.tail _ m)) h.2
    exact ⟨by rw [h.1, e1], e2⟩
theorem joinC_inj {c : Nat} : ∀ {ps qs : List (List Nat)}, ps ≠ [] → qs ≠ [] → (∀ p ∈ ps, c ∉ p) → (∀ q ∈ qs, c ∉ q) → joinC c ps = joinC c qs → ps = qs
  | [], _, h, _, _, _, _ => absurd rfl h
  | _ :: _, [], _, h, _, _, _ => absurd rfl h
  | [p], [q], _, _, _, _, h => by rw [show p = q from h]
  | [p], q :: q2 :: r, _, _, hp, _, h => by
    have h' : p = q ++ c :: joinC c (q2 :: r) := h
    exact absurd (by rw [h']; simp) (hp p (.head _))
  | p :: p2 :: r, [q], _, _, _, hq, h => by
    have h' : p ++ c :: joinC c (p2 :: r) = q := h
    exact absurd (by rw [← h']; simp) (hq q (.head _))
  | p :: p2 :: r, q :: q2 :: s, _, _, hp, hq, h => by
    obtain ⟨e1, e2⟩ := cut_unique (hp p (.head _)) (hq q (.head _)) (show p ++ c :: joinC c (p2 :: r) = q ++ c :: joinC c (q2 :: s) from h)
    rw [e1, joinC_inj (by simp) (by simp) (fun x hx => hp x (.tail _ hx)) (fun x hx => hq x (.tail _ hx)) e2]
theorem join_codes (c : Nat) : ∀ ps : List Str, (Str.join ⟨#[c]⟩ ps).cps.toList = joinC c (ps.map (·.cps.toList))
  | [] => rfl
  | [p] => rfl
  | p :: q :: r => by
    have ih := join_codes c (q :: r)
    show (p ++ ⟨#[c]⟩ ++ Str.join ⟨#[c]⟩ (q :: r)).cps.toList = p.cps.toList ++ c :: joinC c ((q :: r).map (·.cps.toList))
    rw [← ih]
    simp [Str.cps_append]
theorem split_join (c : Nat) (ps : List Str) (hne : ps ≠ []) (h : ∀ p ∈ ps, c ∉ p.cps.toList) : Txt.split (Str.join ⟨#[c]⟩ ps) ⟨#[c]⟩ = ps := by
  have hj := join_split (Str.join ⟨#[c]⟩ ps) ⟨#[c]⟩
  have hf := split_free (Str.join ⟨#[c]⟩ ps) c
  have hn : Txt.split (Str.join ⟨#[c]⟩ ps) ⟨#[c]⟩ ≠ [] := by
    intro e
    rw [e] at hj
    rw [← hj] at e
    revert e
    have : Txt.split (Str.join ⟨#[c]⟩ []) ⟨#[c]⟩ = [Str.empty] := by
      unfold Txt.split
      rw [if_pos (by show (decide (0 < 1) || _) = true; rfl)]
      rfl
    rw [this]; simp
  have e := congrArg (fun z : Str => z.cps.toList) hj
  simp only [join_codes] at e
  have key := joinC_inj (by simpa using hn) (by simpa using hne) (fun p hp => by
    obtain ⟨q, hq, rfl⟩ := List.mem_map.mp hp
    exact hf q hq) (fun p hp => by
    obtain ⟨q, hq, rfl⟩ := List.mem_map.mp hp
    exact h q hq) e
  have := congrArg (List.map mkS) key
  rw [List.map_map, List.map_map] at this
  have id1 : ∀ l : List Str, l.map (mkS ∘ fun x => x.cps.toList) = l := fun l => by
    conv => rhs; rw [← List.map_id l]
    exact List.map_congr_left fun x _ => mkS_of x
  rwa [id1, id1] at this
theorem split_nil (c : Nat) : Txt.split (Str.join ⟨#[c]⟩ []) ⟨#[c]⟩ = [Str.empty] := by
  unfold Txt.split
  rw [if_pos (by show (decide (0 < 1) || _) = true; rfl)]
  rfl
end Mine

set_option Elab.async false
set_option linter.unusedVariables false
set_option maxRecDepth 100000
namespace Mine
open PySem PySem.W PySem.NumText Builtin Builtin.Str PySem.StrLaws PyProof.Rows

-- numbers
def digs (m : Nat) : List Nat := (Nat.toDigits 10 m).map Char.toNat
theorem digs_val (m : Nat) : digitsVal (digs m) = m := KIN.val_back m
theorem digs_all (m : Nat) : AllDigits (digs m) := fun c hc => by
  obtain ⟨ch, hch, e⟩ := List.mem_map.mp hc
  have r := digit_range (Nat.isDigit_of_mem_toDigits (by decide) (by decide) hch)
  rw [← e]; exact r
theorem digs_ne (m : Nat) : digs m ≠ [] := fun e => by
  have h := toDigits_len_ge 10 m
  rw [List.map_eq_nil_iff.mp e] at h
  exact absurd h (by decide)
theorem codes_nat (m : Nat) : (Str.ofString (toString ((m : Nat) : Int))).cps.toList = digs m := KIN.signs_num m
theorem codes_neg (m : Nat) : (Str.ofString (toString (-((m + 1 : Nat) : Int)))).cps.toList = 45 :: digs (m + 1) := by
  rw [signs_ofString]
  show ("-" ++ Nat.repr (m + 1)).toList.map Char.toNat = _
  rw [String.toList_append, Nat.toList_repr]
  rfl
theorem due_pos {l : List Nat} (h : AllDigits l) (hn : l ≠ []) : dueO l = if 10 ^ 18 < digitsVal l then none else some ((digitsVal l : Nat) : Int) := by
  have hh : l.head? ≠ some 45 := by
    cases l with
    | nil => exact absurd rfl hn
    | cons c r =>
      have := h c (.head _)
      simp; omega
  unfold dueO bodyOf signOf
  rw [if_neg hh, if_neg hh, if_neg hn, ad_pos h, Int.one_mul]
theorem due_min {l : List Nat} (h : AllDigits l) (hn : l ≠ []) : dueO (45 :: l) = if 10 ^ 18 < digitsVal l then none else some (-((digitsVal l : Nat) : Int)) := by
  have hh : (45 :: l).head? = some 45 := rfl
  unfold dueO bodyOf signOf
  rw [if_pos hh, if_pos hh]
  show (if l = [] then none else if ∀ c ∈ l, 48 ≤ c ∧ c ≤ 57 then _ else none) = _
  rw [if_neg hn, ad_pos h]
  simp only [List.drop_succ_cons, List.drop_zero, Int.neg_mul, Int.one_mul]
theorem due_int {v : Int} (h1 : -10 ^ 18 ≤ v) (h2 : v ≤ 10 ^ 18) : dueO (Str.ofString (toString v)).cps.toList = some v := by
  rcases Int.lt_or_le v 0 with h | h
  · obtain ⟨m, rfl⟩ : ∃ m : Nat, v = -((m + 1 : Nat) : Int) := ⟨(-v - 1).toNat, by omega⟩
    rw [codes_neg, due_min (digs_all _) (digs_ne _), digs_val, if_neg (by omega)]
  · obtain ⟨m, rfl⟩ : ∃ m : Nat, v = (m : Int) := ⟨v.toNat, by omega⟩
    rw [codes_nat, due_pos (digs_all _) (digs_ne _), digs_val, if_neg (by omega)]
theorem due_zeros {m : Nat} (h : m ≤ 10 ^ 18) : dueO (45 :: 48 :: 48 :: digs m) = some (-((m : Nat) : Int)) := by
  have ha : AllDigits (48 :: 48 :: digs m) := fun c hc => by
    rcases List.mem_cons.mp hc with rfl | hc
    · decide
    · rcases List.mem_cons.mp hc with rfl | hc
      · decide
      · exact digs_all m c hc
  rw [due_min ha (by simp)]
  have e : digitsVal (48 :: 48 :: digs m) = m := digs_val m
  rw [e, if_neg (by omega)]
theorem due_over {m : Nat} (h : 10 ^ 18 < m) : dueO (digs m) = none ∧ dueO (45 :: digs m) = none := by
  rw [due_pos (digs_all _) (digs_ne _), due_min (digs_all _) (digs_ne _), digs_val, if_pos h, if_pos h]
  exact ⟨rfl, rfl⟩
theorem digit_code : ∀ c : Fin 128, 33 ≤ c.1 → c.1 ≤ 126 → Unicode.isSpace c.1 = false ∧ Unicode.isPrintable c.1 = true := by decide +kernel
theorem code_ok {c : Nat} (h1 : 33 ≤ c) (h2 : c ≤ 126) : Unicode.isSpace c = false ∧ Unicode.isPrintable c = true := digit_code ⟨c, by omega⟩ h1 h2
theorem digs_len {m : Nat} (h : m < 10 ^ 25) : (digs m).length ≤ 26 := by
  have := int_text_length_le10 (a := (m : Int)) (k := 25) (by decide) (by simpa using h)
  rw [← codes_nat, len_list]
  have e : (Str.ofString (toString ((m : Nat) : Int))).length = (toString ((m : Nat) : Int)).length := by
    rw [← len_list, signs_ofString, List.length_map, String.length_toList]
  omega
-- words that read_trace takes
structure WdOk (x : Str) : Prop where
  ne : x.length ≠ 0
  strip : Txt.strip x = x
  len : x.length ≤ 300
  small : ∀ c ∈ x.cps.toList, c < 16 ^ 8
  shown : Txt.isprintable x = true ∨ x.length ≤ 100
theorem takeWhile_none {p : Nat → Bool} : ∀ {l : List Nat}, (∀ c ∈ l, p c = false) → l.takeWhile p = []
  | [], _ => rfl
  | c :: l, h => by rw [List.takeWhile_cons, h c (.head _)]; rfl
theorem strip_id {x : Str} (h : ∀ c ∈ x.cps.toList, Unicode.isSpace c = false) : Txt.strip x = x := by
  unfold Txt.strip Txt.stripBy
  have e1 : stripLo Unicode.isSpace true x = 0 := by
    unfold stripLo
    rw [if_pos rfl, takeWhile_none h]; rfl
  rw [if_pos]
  unfold stripSame
  rw [e1]
  unfold stripHi
  rw [if_pos rfl, List.drop_zero, takeWhile_none fun c hc => h c (List.mem_reverse.mp hc)]
  simp
theorem wd_ok {l : List Nat} (h : Word l) (hl : l.length ≤ 300) (hs : ∀ c ∈ l, c < 16 ^ 8) (hp : (∀ c ∈ l, Unicode.isPrintable c = true) ∨ l.length ≤ 100) : WdOk (mkS l) := by
  have e : (mkS l).length = l.length := by rw [← len_list, mkS_list]
  refine ⟨?_, strip_id (by rw [mkS_list]; exact h.2), by rw [e]; exact hl, by rw [mkS_list]; exact hs, ?_⟩
  · rw [e]
    intro q
    exact h.1 (List.length_eq_zero_iff.mp q)
  · rcases hp with hp | hp
    · left
      unfold Txt.isprintable
      rw [← Array.all_toList, mkS_list, List.all_eq_true]
      exact hp
    · right; rw [e]; exact hp
/-- a line and its words -/
structure LnOk (x : Str) (ws : List Str) : Prop where
  words : Txt.words x = ws
  len : x.length ≤ 1000
  few : (spaceWords x (x.length + 1)).length ≤ 10
  one : 10 ∉ x.cps.toList
  each : ∀ y ∈ ws, WdOk y
theorem mem_join {c d : Nat} : ∀ {ws : List (List Nat)}, c ∈ joinC d ws → c = d ∨ ∃ w ∈ ws, c ∈ w
  | [], h => nomatch h
  | [w], h => .inr ⟨w, .head _, h⟩
  | w :: v :: r, h => by
    rcases List.mem_append.mp (show c ∈ w ++ d :: joinC d (v :: r) from h) with h | h
    · exact .inr ⟨w, .head _, h⟩
    · rcases List.mem_cons.mp h with h | h
      · exact .inl h
      · rcases mem_join h with h | ⟨u, hu, hc⟩
        · exact .inl h
        · exact .inr ⟨u, .tail _ hu, hc⟩
theorem space10 : Unicode.isSpace 10 = true := by decide +kernel
theorem ln_ok {x : Str} {ws : List (List Nat)} (hx : x.cps.toList = joinC 32 ws) (h : ∀ w ∈ ws, Word w ∧ w.length ≤ 300 ∧ (∀ c ∈ w, c < 16 ^ 8) ∧ ((∀ c ∈ w, Unicode.isPrintable c = true) ∨ w.length ≤ 100)) (hl : x.length ≤ 1000) (hf : ws.length ≤ 10) : LnOk x (ws.map mkS) := by
  have hw : ∀ w ∈ ws, Word w := fun w hw => (h w hw).1
  refine ⟨words_eq hx hw, hl, by rw [sw_len hx hw]; exact hf, fun hm => ?_, fun y hy => ?_⟩
  · rw [hx] at hm
    rcases mem_join hm with q | ⟨w, hw', hc⟩
    · cases q
    · have := (hw w hw').2 10 hc
      rw [space10] at this; cases this
  · obtain ⟨w, hw', rfl⟩ := List.mem_map.mp hy
    obtain ⟨h1, h2, h3, h4⟩ := h w hw'
    exact wd_ok h1 h2 h3 h4
theorem ln_blank : LnOk "   " [] := ⟨by decide +kernel, by decide, by decide +kernel, by decide, fun y hy => nomatch hy⟩
-- what the message says
theorem said_in (x r : Str) : Txt.contains (Str.empty ++ x ++ r) x = true := by
  rw [Str.empty_append]
  refine (found_iff (x ++ r) x).mpr ⟨0, by rw [Str.length_append]; omega, ?_⟩
  rw [subAt_eq, List.drop_zero]
  have : (x ++ r).cps.toList = x.cps.toList ++ r.cps.toList := by simp [Str.cps_append]
  rw [this, ← len_list x, List.take_left]
  simp
theorem parts_few (x y : Str) : (partsBetween x (occurrences x y 0 x.length (x.length + 1)) y.length).length ≤ x.length + 2 := by
  have h := occ_length_le x y 0 x.length (x.length + 1)
  unfold partsBetween
  simp only [List.length_map, List.length_zip, List.length_cons, List.length_append]
  omega
end Mine

set_option Elab.async false
set_option linter.unusedVariables false
set_option linter.unusedSimpArgs false
set_option maxRecDepth 100000
namespace Mine
open PySem PySem.W PySem.NumText Builtin Builtin.Str PySem.StrLaws PyProof.Rows

theorem size_le {n : Nat} (h : n ≤ 100000) : n ≤ sizeLine := by rw [sizeLine_eq]; omega
def nameOk (n : Str) : Bool := decide (n.length ≤ 200) && Txt.isprintable n
abbrev T3 := Str × Str × Int
/-- what read_trace makes of a line's words: nothing if they are wrong -/
def lineO : List Str → Option (List T3)
  | [] => some []
  | w :: r => if Txt.startswith w "#" = true then some []
    else if w = "get" ∧ r.length = 1 then (if nameOk (r.getD 0 "") then some [("get", r.getD 0 "", 0)] else none)
    else if w = "put" ∧ r.length = 2 then (if nameOk (r.getD 0 "") then (dueO (r.getD 1 "").cps.toList).map fun i => [("put", r.getD 0 "", i)] else none)
    else none
def opsOf (lns : List (Str × List Str)) : List T3 := lns.flatMap fun p => (lineO p.2).getD []
theorem opsOf_snoc (pre : List (Str × List Str)) (p : Str × List Str) : opsOf (pre ++ [p]) = opsOf pre ++ (lineO p.2).getD [] := by simp [opsOf]
theorem lineO_len (ws : List Str) : ((lineO ws).getD []).length ≤ 1 := by
  unfold lineO
  split
  · simp
  split
  · simp
  split
  · split <;> simp
  split
  · split
    · cases dueO _ <;> simp
    · simp
  · simp
theorem opsOf_len : ∀ lns : List (Str × List Str), (opsOf lns).length ≤ lns.length
  | [] => Nat.le_refl _
  | p :: r => by
    have := opsOf_len r
    have h1 := lineO_len p.2
    unfold opsOf at this ⊢
    simp only [List.flatMap_cons, List.length_append, List.length_cons]
    omega
theorem app_list (x y : Str) : (x ++ y).cps.toList = x.cps.toList ++ y.cps.toList := by simp [Str.cps_append]
-- names
theorem fold_rep (c : Nat) : ∀ (k : Nat) (acc : Array Nat), ((List.replicate k (#[c] : Array Nat)).foldl (· ++ ·) acc).toList = acc.toList ++ List.replicate k c
  | 0, acc => by simp
  | k + 1, acc => by
    rw [List.replicate_succ, List.foldl_cons, fold_rep c k]
    simp [List.replicate_succ]
theorem mul_codes (c : Nat) {n : Int} (h : 1 ≤ n) : (Txt.mul ⟨#[c]⟩ n).cps.toList = List.replicate n.toNat c := by
  unfold Txt.mul
  rw [if_neg (by omega)]
  by_cases h1 : n = 1
  · subst h1
    rfl
  · rw [if_neg]
    · have := fold_rep c n.toNat #[]
      simpa using this
    · simp [h1, Str.length]
def NCT : List Int := [1, 2, 3, 200]
def nmOf (n : Int) : Str := Txt.mul ⟨#[(33 + n % 94).toNat]⟩ (NCT.getD (n % 4).toNat 1)
structure NmOk (x : Str) : Prop where
  ne : x.cps.toList ≠ []
  len : x.length ≤ 200
  code : ∀ c ∈ x.cps.toList, 33 ≤ c ∧ c ≤ 126
theorem nct_at {j : Nat} (h : j < 4) : NCT[j]? = some (NCT.getD j 1) ∧ 1 ≤ NCT.getD j 1 ∧ NCT.getD j 1 ≤ 200 := by
  have : j = 0 ∨ j = 1 ∨ j = 2 ∨ j = 3 := by omega
  rcases this with rfl | rfl | rfl | rfl <;> exact ⟨rfl, by decide, by decide⟩
theorem nm_ok (n : Int) : NmOk (nmOf n) := by
  obtain ⟨_, h1, h2⟩ := nct_at (j := (n % 4).toNat) (by omega)
  have e := mul_codes (33 + n % 94).toNat h1
  refine ⟨?_, ?_, fun c hc => ?_⟩
  · unfold nmOf
    rw [e]
    intro q
    have := congrArg List.length q
    rw [List.length_replicate, List.length_nil] at this
    omega
  · rw [← len_list]
    unfold nmOf
    rw [e, List.length_replicate]
    omega
  · unfold nmOf at hc
    rw [e] at hc
    rw [List.eq_of_mem_replicate hc]
    omega
theorem mul_ok1 {c : Nat} {n : Int} (h1 : 1 ≤ n) (h2 : n ≤ 300) : MulOk ⟨#[c]⟩ n := by
  have hl : (⟨#[c]⟩ : Str).length = 1 := rfl
  refine ⟨by rw [decide_eq_false (by omega), decide_eq_false (by omega)]; rfl, fun _ _ => ?_, fun _ _ => ?_⟩
  · rw [hl]
    have : (1 : Int) ≤ (2 ^ 63 - 1) / n := (Int.le_ediv_iff_mul_le (by omega)).mpr (by omega)
    show ¬ ((1 : Nat) : Int) > _
    omega
  · rw [hl]
    unfold Builtin.Str.tooLong
    rw [decide_eq_false]
    rw [Nat.one_mul, sizeLine_eq]; omega
theorem log_ok {i : Int} (h : i.natAbs < 10 ^ 25) : i.natAbs.log2 < 1920 := by
  by_cases h0 : i.natAbs = 0
  · rw [h0]; decide
  · exact (Nat.log2_lt h0).mpr (Nat.lt_trans h (by decide +kernel))
def tx (i : Int) : Str := Str.ofString (toString i)
theorem tx_len {i : Int} (h : i.natAbs < 10 ^ 25) : (tx i).length ≤ 30 := by
  unfold tx
  rcases Int.lt_or_le i 0 with h0 | h0
  · obtain ⟨m, rfl⟩ : ∃ m : Nat, i = -((m + 1 : Nat) : Int) := ⟨(-i - 1).toNat, by omega⟩
    rw [← len_list, codes_neg, List.length_cons]
    have := digs_len (m := m + 1) (by omega)
    omega
  · obtain ⟨m, rfl⟩ : ∃ m : Nat, i = (m : Int) := ⟨i.toNat, by omega⟩
    rw [← len_list, codes_nat]
    have := digs_len (m := m) (by omega)
    omega
def vOf (b : Int) : Int := b % (2 * 10 ^ 18 + 1) - 10 ^ 18
def sOf (b : Int) : Int := b % 1000
def sTexts (n : Str) (b : Int) : List Str := ["get " ++ n, "put " ++ n ++ " " ++ tx (vOf b), "put " ++ n ++ " -00" ++ tx (sOf b), "", "   ", "#", "# put " ++ n, "#get " ++ n]
def sOps (n : Str) (b : Int) : List (List T3) := [[("get", n, 0)], [("put", n, vOf b)], [("put", n, -sOf b)], [], [], [], [], []]
def sWords (n : Str) (b : Int) : List (List Str) := [["get", n], ["put", n, tx (vOf b)], ["put", n, "-00" ++ tx (sOf b)], [], [], ["#"], ["#", "put", n], ["#get", n]]
theorem l_get : ("get " : Str).length = 4 := by decide
theorem l_put : ("put " : Str).length = 4 := by decide
theorem l_sp : (" " : Str).length = 1 := by decide
theorem l_00 : (" -00" : Str).length = 4 := by decide
theorem l_c1 : ("# put " : Str).length = 6 := by decide
theorem l_c2 : ("#get " : Str).length = 5 := by decide
theorem l_5 : (" 5" : Str).length = 2 := by decide
theorem l_12 : (" 1 2" : Str).length = 4 := by decide
theorem l_drop : ("drop " : Str).length = 5 := by decide
theorem l_3 : (" 3" : Str).length = 2 := by decide
theorem l_1 : (" 1" : Str).length = 2 := by decide
theorem l_x : (" x" : Str).length = 2 := by decide
theorem l_m : (" -" : Str).length = 2 := by decide
theorem l_m00 : ("-00" : Str).length = 3 := by decide
theorem l_mn : ("-" : Str).length = 1 := by decide
theorem l_line : ("line " : Str).length = 5 := by decide

-- the lines of the law
structure Wd (x : Str) : Prop where
  word : Word x.cps.toList
  len : x.length ≤ 300
  small : ∀ c ∈ x.cps.toList, c < 16 ^ 8
  shown : (∀ c ∈ x.cps.toList, Unicode.isPrintable c = true) ∨ x.length ≤ 100
theorem ln_mk {x : Str} {ws : List Str} (hx : x.cps.toList = joinC 32 (ws.map (·.cps.toList))) (h : ∀ y ∈ ws, Wd y) (hl : x.length ≤ 1000) (hf : ws.length ≤ 10 := by simp) : LnOk x ws := by
  have := ln_ok hx (fun w hw => by
    obtain ⟨y, hy, rfl⟩ := List.mem_map.mp hw
    have := h y hy
    exact ⟨this.word, by rw [len_list]; exact this.len, this.small, by rw [len_list]; exact this.shown⟩) hl (by simpa using hf)
  rw [List.map_map] at this
  have id1 : ws.map (mkS ∘ fun x => x.cps.toList) = ws := by
    conv => rhs; rw [← List.map_id ws]
    exact List.map_congr_left fun x _ => mkS_of x
  rwa [id1] at this
theorem wd_codes {x : Str} (h1 : x.cps.toList ≠ []) (h2 : x.length ≤ 300) (h3 : ∀ c ∈ x.cps.toList, 33 ≤ c ∧ c ≤ 126) : Wd x :=
  ⟨⟨h1, fun c hc => (code_ok (h3 c hc).1 (h3 c hc).2).1⟩, h2, fun c hc => by have := (h3 c hc).2; exact Nat.lt_of_le_of_lt this (by decide), .inl fun c hc => (code_ok (h3 c hc).1 (h3 c hc).2).2⟩
theorem NmOk.wd {x : Str} (h : NmOk x) : Wd x := wd_codes h.ne (by have := h.len; omega) h.code
theorem wd_lit (x : Str) (h1 : x.cps.toList ≠ [] := by decide) (h2 : x.length ≤ 300 := by decide) (h3 : ∀ c ∈ x.cps.toList, 33 ≤ c ∧ c ≤ 126 := by decide) : Wd x := wd_codes h1 h2 h3
theorem tx_codes (i : Int) : (0 ≤ i ∧ (tx i).cps.toList = digs i.toNat) ∨ (i < 0 ∧ (tx i).cps.toList = 45 :: digs (-i).toNat) := by
  unfold tx
  rcases Int.lt_or_le i 0 with h0 | h0
  · obtain ⟨m, rfl⟩ : ∃ m : Nat, i = -((m + 1 : Nat) : Int) := ⟨(-i - 1).toNat, by omega⟩
    refine .inr ⟨h0, ?_⟩
    rw [codes_neg]
    congr 2
  · obtain ⟨m, rfl⟩ : ∃ m : Nat, i = (m : Int) := ⟨i.toNat, by omega⟩
    refine .inl ⟨h0, ?_⟩
    rw [codes_nat, Int.toNat_natCast]
theorem digs_code {m c : Nat} (h : c ∈ digs m) : 33 ≤ c ∧ c ≤ 126 := by have := digs_all m c h; omega
theorem tx_wd {i : Int} (h : i.natAbs < 10 ^ 25) : Wd (tx i) := by
  have hl := tx_len h
  rcases tx_codes i with ⟨_, e⟩ | ⟨_, e⟩
  · exact wd_codes (by rw [e]; exact digs_ne _) (by omega) fun c hc => by rw [e] at hc; exact digs_code hc
  · refine wd_codes (by rw [e]; simp) (by omega) fun c hc => ?_
    rw [e] at hc
    rcases List.mem_cons.mp hc with rfl | hc
    · decide
    · exact digs_code hc
theorem NmOk.name {x : Str} (h : NmOk x) : nameOk x = true := by
  unfold nameOk Txt.isprintable
  rw [decide_eq_true h.len, ← Array.all_toList, Bool.true_and, List.all_eq_true]
  exact fun c hc => (code_ok (h.code c hc).1 (h.code c hc).2).2
theorem g_hash : Txt.startswith "get" "#" = false := by decide +kernel
theorem p_hash : Txt.startswith "put" "#" = false := by decide +kernel
theorem d_hash : Txt.startswith "drop" "#" = false := by decide +kernel
theorem line_get {n : Str} : lineO ["get", n] = if nameOk n then (some [("get", n, 0)] : Option (List T3)) else none := by
  unfold lineO
  dsimp only
  rw [g_hash, if_neg (by simp), if_pos ⟨rfl, rfl⟩]; rfl
theorem line_put {n v : Str} : lineO ["put", n, v] = if nameOk n then (((dueO v.cps.toList).map fun i => [("put", n, i)]) : Option (List T3)) else none := by
  unfold lineO
  dsimp only
  rw [p_hash, if_neg (by simp), if_neg (fun h => absurd h.1 (by decide)), if_pos ⟨rfl, rfl⟩]; rfl
theorem line_bad {w : Str} {r : List Str} (h : Txt.startswith w "#" = false) (h1 : ¬ (w = "get" ∧ r.length = 1)) (h2 : ¬ (w = "put" ∧ r.length = 2)) : lineO (w :: r) = none := by
  show (if Txt.startswith w "#" = true then _ else _) = _
  rw [h, if_neg (by simp), if_neg h1, if_neg h2]
theorem line_hash {w : Str} {r : List Str} (h : Txt.startswith w "#" = true) : lineO (w :: r) = some [] := by
  show (if Txt.startswith w "#" = true then _ else _) = _
  rw [if_pos h]
theorem vOf_in (b : Int) : -10 ^ 18 ≤ vOf b ∧ vOf b ≤ 10 ^ 18 ∧ (vOf b).natAbs < 10 ^ 25 := by unfold vOf; omega
theorem sOf_in (b : Int) : 0 ≤ sOf b ∧ sOf b < 1000 ∧ (sOf b).natAbs < 10 ^ 25 := by unfold sOf; omega
theorem mem1 {P : Str → Prop} {a : Str} (h : P a) : ∀ y ∈ [a], P y := fun y hy => by rw [List.mem_singleton.mp hy]; exact h
theorem memc {P : Str → Prop} {a : Str} {l : List Str} (h : P a) (hl : ∀ y ∈ l, P y) : ∀ y ∈ a :: l, P y := fun y hy => by
  rcases List.mem_cons.mp hy with rfl | hy
  · exact h
  · exact hl y hy
theorem sound_ok {n : Str} (b : Int) (hn : NmOk n) {j : Nat} (hj : j < 8) : LnOk ((sTexts n b).getD j "") ((sWords n b).getD j []) ∧ lineO ((sWords n b).getD j []) = some ((sOps n b).getD j []) := by
  have hl := hn.len
  obtain ⟨v1, v2, v3⟩ := vOf_in b
  obtain ⟨s1, s2, s3⟩ := sOf_in b
  have tv := tx_len v3
  have ts := tx_len s3
  have : j = 0 ∨ j = 1 ∨ j = 2 ∨ j = 3 ∨ j = 4 ∨ j = 5 ∨ j = 6 ∨ j = 7 := by omega
  rcases this with rfl | rfl | rfl | rfl | rfl | rfl | rfl | rfl
  · refine ⟨ln_mk (x := "get " ++ n) (ws := ["get", n]) (by rw [app_list]; rfl) (memc (wd_lit _) (mem1 hn.wd)) (by rw [strLen_append, l_get]; omega), ?_⟩
    show lineO ["get", n] = (some [("get", n, 0)] : Option (List T3))
    rw [line_get, hn.name]; rfl
  · refine ⟨ln_mk (x := "put " ++ n ++ " " ++ tx (vOf b)) (ws := ["put", n, tx (vOf b)]) (by simp only [app_list, List.append_assoc]; rfl) (memc (wd_lit _) (memc hn.wd (mem1 (tx_wd v3)))) (by simp only [strLen_append, l_put, l_sp]; omega), ?_⟩
    show lineO ["put", n, tx (vOf b)] = (some [("put", n, vOf b)] : Option (List T3))
    rw [line_put, hn.name]
    unfold tx
    rw [due_int v1 v2]; rfl
  · have e : ("-00" ++ tx (sOf b)).cps.toList = 45 :: 48 :: 48 :: digs (sOf b).toNat := by
      rcases tx_codes (sOf b) with ⟨_, e⟩ | ⟨e, _⟩
      · rw [app_list, e]; rfl
      · omega
    have hw : Wd ("-00" ++ tx (sOf b)) := wd_codes (by rw [e]; simp) (by rw [strLen_append, l_m00]; omega) fun c hc => by
      rw [e] at hc
      rcases List.mem_cons.mp hc with rfl | hc
      · decide
      rcases List.mem_cons.mp hc with rfl | hc
      · decide
      rcases List.mem_cons.mp hc with rfl | hc
      · decide
      · exact digs_code hc
    refine ⟨ln_mk (x := "put " ++ n ++ " -00" ++ tx (sOf b)) (ws := ["put", n, "-00" ++ tx (sOf b)]) (by simp only [List.map_cons, List.map_nil, app_list, List.append_assoc]; rfl) (memc (wd_lit _) (memc hn.wd (mem1 hw))) (by simp only [strLen_append, l_put, l_00]; omega), ?_⟩
    show lineO ["put", n, "-00" ++ tx (sOf b)] = (some [("put", n, -sOf b)] : Option (List T3))
    rw [line_put, hn.name, e, due_zeros (by omega)]
    simp; omega
  · exact ⟨ln_mk (x := "") (ws := []) rfl (fun y hy => nomatch hy) (by decide), rfl⟩
  · exact ⟨ln_blank, rfl⟩
  · exact ⟨ln_mk (x := "#") (ws := ["#"]) rfl (mem1 (wd_lit _)) (by decide), line_hash (by decide +kernel)⟩
  · exact ⟨ln_mk (x := "# put " ++ n) (ws := ["#", "put", n]) (by rw [app_list]; rfl) (memc (wd_lit _) (memc (wd_lit _) (mem1 hn.wd))) (by rw [strLen_append, l_c1]; omega), line_hash (by decide +kernel)⟩
  · exact ⟨ln_mk (x := "#get " ++ n) (ws := ["#get", n]) (by rw [app_list]; rfl) (memc (wd_lit _) (mem1 hn.wd)) (by rw [strLen_append, l_c2]; omega), line_hash (by decide +kernel)⟩
def wForms (n : Str) : List Str := ["get", "get " ++ n ++ " " ++ n, "get " ++ n ++ " 5", "put", "put " ++ n, "put " ++ n ++ " 1 2", "drop " ++ n, "drop " ++ n ++ " 3"]
def KK : Str := Txt.mul "k" 201
theorem kk_codes : KK.cps.toList = List.replicate 201 107 := mul_codes 107 (by decide)
theorem kk_len : KK.length = 201 := by rw [← len_list, kk_codes, List.length_replicate]
theorem kk_wd : Wd KK := wd_codes (by rw [kk_codes]; simp [List.replicate_succ]) (by rw [kk_len]; decide) fun c hc => by rw [kk_codes] at hc; rw [List.eq_of_mem_replicate hc]; decide
theorem kk_name : nameOk KK = false := by unfold nameOk; rw [kk_len]; rfl
def A1B : Str := "a\x01b"
theorem a1b_wd : Wd A1B := ⟨⟨by decide, by decide +kernel⟩, by decide, by decide, .inr (by decide)⟩
theorem a1b_name : nameOk A1B = false := by decide +kernel
def ovOf (b : Int) : Int := 10 ^ 18 + 1 + b % 1000
def wParts (n : Str) (b : Int) : List Str := ["get " ++ KK, "put " ++ KK ++ " 1", "get a\x01b", "put a\x01b 1", "put " ++ n ++ " x", "put " ++ n ++ " -", "put " ++ n ++ " " ++ tx (ovOf b), "put " ++ n ++ " -" ++ tx (ovOf b)]
/-- an unsound line -/
def Bad (x : Str) : Prop := ∃ ws, LnOk x ws ∧ lineO ws = none
theorem form_bad {n : Str} (hn : NmOk n) {j : Nat} (hj : j < 8) : Bad ((wForms n).getD j "") := by
  have hl := hn.len
  have nw := hn.wd
  have : j = 0 ∨ j = 1 ∨ j = 2 ∨ j = 3 ∨ j = 4 ∨ j = 5 ∨ j = 6 ∨ j = 7 := by omega
  rcases this with rfl | rfl | rfl | rfl | rfl | rfl | rfl | rfl
  · exact ⟨["get"], ln_mk (x := "get") rfl (mem1 (wd_lit _)) (by decide), line_bad g_hash (by decide) (fun h => absurd h.1 (by decide))⟩
  · exact ⟨["get", n, n], ln_mk (x := "get " ++ n ++ " " ++ n) (by simp only [app_list, List.append_assoc]; rfl) (memc (wd_lit _) (memc nw (mem1 nw))) (by simp only [strLen_append, l_get, l_sp]; omega), line_bad g_hash (by simp) (fun h => absurd h.1 (by decide))⟩
  · exact ⟨["get", n, "5"], ln_mk (x := "get " ++ n ++ " 5") (by simp only [app_list, List.append_assoc]; rfl) (memc (wd_lit _) (memc nw (mem1 (wd_lit _)))) (by simp only [strLen_append, l_get, l_5]; omega), line_bad g_hash (by simp) (fun h => absurd h.1 (by decide))⟩
  · exact ⟨["put"], ln_mk (x := "put") rfl (mem1 (wd_lit _)) (by decide), line_bad p_hash (fun h => absurd h.1 (by decide)) (by decide)⟩
  · exact ⟨["put", n], ln_mk (x := "put " ++ n) (by simp only [app_list, List.append_assoc]; rfl) (memc (wd_lit _) (mem1 nw)) (by simp only [strLen_append, l_put]; omega), line_bad p_hash (fun h => absurd h.1 (by decide)) (by simp)⟩
  · exact ⟨["put", n, "1", "2"], ln_mk (x := "put " ++ n ++ " 1 2") (by simp only [app_list, List.append_assoc]; rfl) (memc (wd_lit _) (memc nw (memc (wd_lit _) (mem1 (wd_lit _))))) (by simp only [strLen_append, l_put, l_12]; omega), line_bad p_hash (fun h => absurd h.1 (by decide)) (by simp)⟩
  · exact ⟨["drop", n], ln_mk (x := "drop " ++ n) (by simp only [app_list, List.append_assoc]; rfl) (memc (wd_lit _) (mem1 nw)) (by simp only [strLen_append, l_drop]; omega), line_bad d_hash (fun h => absurd h.1 (by decide)) (fun h => absurd h.1 (by decide))⟩
  · exact ⟨["drop", n, "3"], ln_mk (x := "drop " ++ n ++ " 3") (by simp only [app_list, List.append_assoc]; rfl) (memc (wd_lit _) (memc nw (mem1 (wd_lit _)))) (by simp only [strLen_append, l_drop, l_3]; omega), line_bad d_hash (fun h => absurd h.1 (by decide)) (fun h => absurd h.1 (by decide))⟩
theorem ov_in (b : Int) : 10 ^ 18 < (ovOf b).toNat ∧ 0 ≤ ovOf b ∧ (ovOf b).natAbs < 10 ^ 25 := by unfold ovOf; omega
theorem part_bad {n : Str} (b : Int) (hn : NmOk n) {j : Nat} (hj : j < 8) : Bad ((wParts n b).getD j "") := by
  have hl := hn.len
  have nw := hn.wd
  have kl := kk_len
  have kw := kk_wd
  obtain ⟨o1, o2, o3⟩ := ov_in b
  have ol := tx_len o3
  have oe : (tx (ovOf b)).cps.toList = digs (ovOf b).toNat := by
    rcases tx_codes (ovOf b) with ⟨_, e⟩ | ⟨e, _⟩
    · exact e
    · omega
  have : j = 0 ∨ j = 1 ∨ j = 2 ∨ j = 3 ∨ j = 4 ∨ j = 5 ∨ j = 6 ∨ j = 7 := by omega
  rcases this with rfl | rfl | rfl | rfl | rfl | rfl | rfl | rfl
  · exact ⟨["get", KK], ln_mk (x := "get " ++ KK) (by simp only [app_list, List.append_assoc]; rfl) (memc (wd_lit _) (mem1 kw)) (by simp only [strLen_append, l_get]; omega), by rw [line_get, kk_name]; rfl⟩
  · exact ⟨["put", KK, "1"], ln_mk (x := "put " ++ KK ++ " 1") (by simp only [app_list, List.append_assoc]; rfl) (memc (wd_lit _) (memc kw (mem1 (wd_lit _)))) (by simp only [strLen_append, l_put, l_1]; omega), by rw [line_put, kk_name]; rfl⟩
  · exact ⟨["get", A1B], ln_mk (x := "get a\x01b") rfl (memc (wd_lit _) (mem1 a1b_wd)) (by decide), by rw [line_get, a1b_name]; rfl⟩
  · exact ⟨["put", A1B, "1"], ln_mk (x := "put a\x01b 1") rfl (memc (wd_lit _) (memc a1b_wd (mem1 (wd_lit _)))) (by decide), by rw [line_put, a1b_name]; rfl⟩
  · exact ⟨["put", n, "x"], ln_mk (x := "put " ++ n ++ " x") (by simp only [app_list, List.append_assoc]; rfl) (memc (wd_lit _) (memc nw (mem1 (wd_lit _)))) (by simp only [strLen_append, l_put, l_x]; omega), by rw [line_put, hn.name, show dueO ("x" : Str).cps.toList = none by decide +kernel]; rfl⟩
  · exact ⟨["put", n, "-"], ln_mk (x := "put " ++ n ++ " -") (by simp only [app_list, List.append_assoc]; rfl) (memc (wd_lit _) (memc nw (mem1 (wd_lit _)))) (by simp only [strLen_append, l_put, l_m]; omega), by rw [line_put, hn.name, show dueO ("-" : Str).cps.toList = none by decide +kernel]; rfl⟩
  · exact ⟨["put", n, tx (ovOf b)], ln_mk (x := "put " ++ n ++ " " ++ tx (ovOf b)) (by simp only [app_list, List.append_assoc]; rfl) (memc (wd_lit _) (memc nw (mem1 (tx_wd o3)))) (by simp only [strLen_append, l_put, l_sp]; omega), by rw [line_put, hn.name, oe, (due_over o1).1]; rfl⟩
  · have e : ("-" ++ tx (ovOf b)).cps.toList = 45 :: digs (ovOf b).toNat := by rw [app_list, oe]; rfl
    have hw : Wd ("-" ++ tx (ovOf b)) := wd_codes (by rw [e]; simp) (by rw [strLen_append, l_mn]; omega) fun c hc => by
      rw [e] at hc
      rcases List.mem_cons.mp hc with rfl | hc
      · decide
      · exact digs_code hc
    exact ⟨["put", n, "-" ++ tx (ovOf b)], ln_mk (x := "put " ++ n ++ " -" ++ tx (ovOf b)) (by simp only [List.map_cons, List.map_nil, app_list, List.append_assoc]; rfl) (memc (wd_lit _) (memc nw (mem1 hw))) (by simp only [strLen_append, l_put, l_m]; omega), by rw [line_put, hn.name, e, (due_over o1).2]; rfl⟩
-- the law's rows
def lineMsg (n : Nat) (msg : Str) : Str := Str.empty ++ "line " ++ Str.ofString (toString ((n : Nat) : Int)) ++ ": " ++ msg
theorem said_line (n : Nat) (msg : Str) : Txt.contains (lineMsg n msg) ("line " ++ Str.ofString (toString ((n : Nat) : Int))) = true := by
  have e : lineMsg n msg = Str.empty ++ ("line " ++ Str.ofString (toString ((n : Nat) : Int))) ++ (": " ++ msg) := by
    unfold lineMsg
    simp only [Str.append_assoc]
  rw [e]
  exact said_in _ _
def rT (a b : Int) : Str := (sTexts (nmOf (a / 8)) b).getD (a % 8).toNat ""
def rW (a b : Int) : List Str := (sWords (nmOf (a / 8)) b).getD (a % 8).toNat []
def rO (a b : Int) : List T3 := (sOps (nmOf (a / 8)) b).getD (a % 8).toNat []
theorem row_ok (a b : Int) : LnOk (rT a b) (rW a b) ∧ lineO (rW a b) = some (rO a b) := sound_ok b (nm_ok _) (by omega)
theorem strOk_codes {x : Str} (h : ∀ c ∈ x.cps.toList, c ≤ 126) : PyData.strOk x = true := by
  unfold PyData.strOk
  rw [← Array.all_toList, List.all_eq_true]
  exact fun c hc => decide_eq_true (by have := h c hc; omega)
theorem row_str (a b : Int) : ∀ t ∈ rO a b, PyData.strOk t.1 = true ∧ PyData.strOk t.2.1 = true := by
  have hn := nm_ok (a / 8)
  have h2 : PyData.strOk (nmOf (a / 8)) = true := strOk_codes fun c hc => (hn.code c hc).2
  unfold rO
  generalize nmOf (a / 8) = n at *
  have hj : (a % 8).toNat < 8 := by omega
  generalize (a % 8).toNat = j at *
  have g1 : PyData.strOk "get" = true := by decide +kernel
  have g2 : PyData.strOk "put" = true := by decide +kernel
  have : j = 0 ∨ j = 1 ∨ j = 2 ∨ j = 3 ∨ j = 4 ∨ j = 5 ∨ j = 6 ∨ j = 7 := by omega
  rcases this with rfl | rfl | rfl | rfl | rfl | rfl | rfl | rfl <;> intro t ht
  · rw [List.mem_singleton.mp ht]; exact ⟨g1, h2⟩
  · rw [List.mem_singleton.mp ht]; exact ⟨g2, h2⟩
  · rw [List.mem_singleton.mp ht]; exact ⟨g2, h2⟩
  all_goals exact nomatch ht
theorem joined (lns : List (Str × List Str)) (hok : ∀ p ∈ lns, LnOk p.1 p.2) (hn : lns.length ≤ 10) :
    (Str.join "\n" (lns.map (·.1))).length ≤ 50000 ∧ tooLong ((lns.map (·.1)).toArray.foldl (· + ·.length + ("\n" : Str).length) 0) = false ∧
    ∃ lns' : List (Str × List Str), Txt.split (Str.join "\n" (lns.map (·.1))) "\n" = lns'.map (·.1) ∧ (∀ p ∈ lns', LnOk p.1 p.2) ∧ lns'.length ≤ 20 ∧ opsOf lns' = opsOf lns ∧ ((lns = [] ∧ lns' = [((("" : Str), ([] : List Str)))]) ∨ (lns ≠ [] ∧ lns' = lns)) := by
  have hB : ∀ y ∈ lns.map (·.1), y.length ≤ 1000 := fun y hy => by
    obtain ⟨p, hp, rfl⟩ := List.mem_map.mp hy
    exact (hok p hp).len
  have h1 : ("\n" : Str).length = 1 := by decide
  have hl : (lns.map (·.1)).length ≤ 10 := by simpa using hn
  refine ⟨?_, joinFits hB (by rw [h1]; omega), ?_⟩
  · refine Nat.le_trans (join_length_le "\n" (lns.map (·.1))) ?_
    have := sumLen_le _ hB
    rw [h1]
    omega
  · by_cases h0 : lns = []
    · subst h0
      refine ⟨[("", [])], split_nil 10, fun p hp => ?_, by decide, rfl, .inl ⟨rfl, rfl⟩⟩
      rw [List.mem_singleton.mp hp]
      exact ln_mk (x := "") (ws := []) rfl (fun y hy => nomatch hy) (by decide)
    · exact ⟨lns, split_join 10 _ (by simpa using h0) (fun p hp => by
        obtain ⟨q, hq, rfl⟩ := List.mem_map.mp hp
        exact (hok q hq).one), hok, by omega, rfl, .inr ⟨h0, rfl⟩⟩
end Mine

set_option Elab.async false
set_option linter.unusedVariables false
set_option maxRecDepth 100000
namespace Mine
open PySem PyProof.Rows PySem.Calls PySem.W PySem.Spec Builtin Builtin.Str

section
variable {prog : Program} {w : World} {Bs : Heap} {k : Nat} {env : Env} {m : Env'} {σ σ' : St} {g h : Heap} {L a b : Addr} {vs : List V} {oa ob : O}
theorem subP_app : ∀ (pre : St), SubP σ (pre ++ σ)
  | [] => SubP.refl _
  | p :: r => SubP.more p (subP_app r)
theorem subP_app2 : ∀ (pre : St) (p : Addr × O), SubP σ (pre ++ p :: σ)
  | [], p => SubP.more p (SubP.refl _)
  | q :: r, p => SubP.more q (subP_app2 r p)
/-- a comprehension whose elements bring an object each -/
theorem compB_grow {α : Type} {x : Str} {elt : Expr} {Q : List V → St → Prop} (rv : α → V) (ro : α → Addr × O) (σ0 : St) : ∀ (vs : List V) (rs : List α),
    (∀ v ∈ vs, ∀ pre : St, EvE prog w Bs k env elt [(x, v)] (pre ++ σ0) fun u σ2 => ∃ r, u = rv r ∧ σ2 = ro r :: (pre ++ σ0)) →
    (∀ rs' : List α, rs'.length = rs.length + vs.length → Q (rs'.map rv) ((rs'.reverse.map ro) ++ σ0)) → CompB prog w Bs k env x [] elt (fun _ => True) Q vs (rs.map rv) ((rs.reverse.map ro) ++ σ0)
  | [], rs, _, hq => hq rs (by simp)
  | v :: vs, rs, he, hq => by
    show EvT prog w Bs k env [] [(x, v)] _ _
    refine evt_nil ?_
    show EvE prog w Bs k env elt [(x, v)] _ _
    refine (he v (.head _) _).mono fun u σ2 hh => ?_
    obtain ⟨r, rfl, rfl⟩ := hh
    refine ⟨_, SubP.refl _, trivial, ?_⟩
    have ih := compB_grow (x := x) (elt := elt) (Q := Q) rv ro σ0 vs (rs ++ [r]) (fun v hv => he v (.tail _ hv)) fun rs' hl => hq rs' (by simp at hl ⊢; omega)
    simpa using ih
/-- sep.join(a list of strs) -/
theorem bf_joinJ {x : Str} {ss : List Str} {Q : V → St → Prop} (hm : (a, ob) ∈ σ) (hl : ob.peel = .list (ss.map .str)) (hz : tooLong (ss.toArray.foldl (· + ·.length + x.length) 0) = false) (h1 : ∀ z ∈ ss, z.length ≤ sizeLine) (h2 : (Str.join x ss).length ≤ sizeLine)
    (hq : Q (.str (Str.join x ss)) σ) : EvF prog w Bs k (.builtin "str.join") [.str x, .ref a] σ Q := by
  rw [← StrLaws.glued_eq_join] at h2
  refine bf_join hm hl hz h1 h2 ?_
  rcases ss with _ | ⟨p, _ | ⟨q, r⟩⟩
  · rw [← StrLaws.glued_eq_join] at hq; exact hq
  · exact hq
  · rw [← StrLaws.glued_eq_join] at hq; exact hq
-- equal lists of flat data
theorem dvs_of : ∀ (vs : List V), (∀ v ∈ vs, ∃ d, DV σ v d ∧ kqdOk 8 d = true) → ∃ ds, DVs σ vs ds ∧ ds.all (kqdOk 8) = true
  | [], _ => ⟨[], .nil, rfl⟩
  | v :: vs, h => by
    obtain ⟨d, h1, h2⟩ := h v (.head _)
    obtain ⟨ds, h3, h4⟩ := dvs_of vs fun u hu => h u (.tail _ hu)
    exact ⟨d :: ds, .cons h1 h3, by simp [h2, h4]⟩
theorem cmp_ne_same (ma : (a, oa) ∈ σ) (la : oa.peel = .list vs) (mb : (b, ob) ∈ σ) (lb : ob.peel = .list vs) (h : ∀ v ∈ vs, ∃ d, DV σ v d ∧ kqdOk 8 d = true) : CmpG prog w σ .NotEq (.ref a) (.ref b) (!true) := by
  obtain ⟨ds, h1, h2⟩ := dvs_of vs h
  have hok : kqdOk 9 (.list ds) = true := h2
  exact cmp_neD (.list ma la h1) (.list mb lb h1) hok hok (by simp)
end
end Mine

set_option Elab.async false
set_option linter.unusedVariables false
set_option linter.unusedSimpArgs false
set_option maxRecDepth 100000
set_option maxHeartbeats 8000000
set_option pp.deepTerms.threshold 6
namespace Mine
open PySem PyProof.Rows PySem.Calls PySem.Spec PySem.Challenge

local macro_rules | `(tactic| walk_at "mv_mem") => `(tactic| first | assumption | exact List.Mem.head _ | (refine List.Mem.tail _ ?_; walk_at "mv_mem"))
local macro_rules | `(tactic| walk_at "mv_up") => `(tactic| first | assumption | exact Up.head | (apply Up.tail; walk_at "mv_up"))
local macro_rules | `(tactic| walk_at "mv_take") => `(tactic| first | exact Take.head | (apply Take.tail; walk_at "mv_take"))
local macro_rules | `(tactic| walk_at "mv_sub") => `(tactic| first | exact SubP.refl _ | exact SubP.nil | (apply SubP.cons; (walk_at "mv_take"); (walk_at "mv_sub")) | (apply SubP.more; walk_at "mv_sub"))
local macro_rules | `(tactic| walk_at "mv_le") => `(tactic| first | exact trivial | (refine ⟨rfl, ?_⟩; walk_at "mv_le"))
local macro_rules | `(tactic| walk_at "mlen") => `(tactic| (simp only [strLen_append, l_get, l_put, l_sp, l_00, l_c1, l_c2, l_5, l_12, l_drop, l_3, l_1, l_x, l_m, l_line]; omega))
section
variable {prog : Program} {w : World} {Bs : Heap} {k : Nat} {σ : St} {mg mb : Str → Option Value}

theorem bind_cell {pm code doc : Value} : ∀ cvs : List Value, cvs.length = 2 → bindArgs (docDef (defAt pw_k6_0113 9).name (defAt pw_k6_0113 9).params (defAt pw_k6_0113 9).body (defAt pw_k6_0113 9).scope pm code doc) ⟨cvs, []⟩ = pure ((["script", "i"] : List Str).zip cvs)
  | [a, b], _ => rfl
theorem cell_spec {l : Addr} {ob : O} {ns : List Int} {i : Int} {j : Nat} {f : Addr} {pm code doc : Value} {Q : V → St → Prop} (C : Ctx Bs mg mb) (F : FnAt Bs mg "_law_cell" (defAt pw_k6_0113 9) f pm code doc) (BL : BIs Bs mg mb "len" (.builtin "len"))
    (hm : (l, ob) ∈ σ) (hl : ob.peel = .list (ns.map .int)) (hz : ns.length ≤ 63) (hj : i = (j : Int)) (hi : i < 1000000) (hq : Q (.int (cz ns j)) σ) : EvF prog w Bs (k + 1) (.ref f) [.ref l, .int i] σ Q := by
  subst hj
  refine evf_nc (ps := ["script", "i"]) C F bind_cell rfl (by decide) (by decide) fun L => ?_
  have hz2 : (ns.map V.int).length ≤ sizeLine := by rw [sizeLine_eq]; simp; omega
  ((with_reducible show EvS _ _ _ _ _ _ _ _ _); refine evs_cons ?_)
  ((with_reducible show EvX _ _ _ _ _ (.If _ _ _ _) _ _ _); refine evx_if ?_)
  ((with_reducible show EvB _ _ _ _ _ (.Compare _ _ _ _) _ _ _); refine evb_cmpG ?_)
  ((with_reducible show EvE _ _ _ _ _ (.Name _ _) _ _ _); refine ev_local (by rfl) ?_)
  ((with_reducible show EvE _ _ _ _ _ (.Call (.Name _ _) (_ :: _) [] _) _ _ _); first | refine ev_bfn (by assumption) ?_ | refine ev_tfn (by assumption) ?_ | refine ev_fn (by assumption) (by assumption) ?_)
  ((with_reducible show EvA _ _ _ _ _ _ (_ :: _) _ _ _); refine eva_cons ?_)
  ((with_reducible show EvE _ _ _ _ _ (.Name _ _) _ _ _); refine ev_local (by rfl) ?_)
  ((with_reducible show EvA _ _ _ _ _ _ [] _ _ _); refine eva_nil ?_)
  refine bf_len_list (ob := ob) hm hl hz2 ?_
  ((with_reducible show ∃ c, CmpG _ _ _ _ _ _ c ∧ _); refine ⟨_, Cmp.gen (by constructor), ?_⟩)
  split
  · rename_i hc
    have hc' : j < ns.length := by simpa using hc
    ((with_reducible show EvS _ _ _ _ _ _ _ _ _); refine evs_cons ?_)
    ((with_reducible show EvX _ _ _ _ _ (.Return (some _) _) _ _ _); refine evx_ret ?_)
    ((with_reducible show EvE _ _ _ _ _ (.Subscript _ _ _) _ _ _); refine ev_item ?_)
    ((with_reducible show EvE _ _ _ _ _ (.Name _ _) _ _ _); refine ev_local (by rfl) ?_)
    ((with_reducible show EvE _ _ _ _ _ (.Name _ _) _ _ _); refine ev_local (by rfl) ?_)
    exact ⟨_, Item.list (j := j) hm hl (by omega) (by omega) (v := .int (cz ns j)) (by rw [Int.toNat_natCast]; exact cz_in hc'), ⟨_, SubP.refl _, hq⟩⟩
  · rename_i hc
    have hc' : ¬ j < ns.length := by simpa using hc
    rw [cz_out hc'] at hq
    ((with_reducible show EvS _ _ _ _ _ [] _ _ _); refine evs_nil ?_)
    ((with_reducible show EvS _ _ _ _ _ _ _ _ _); refine evs_cons ?_)
    ((with_reducible show EvX _ _ _ _ _ (.Return (some _) _) _ _ _); refine evx_ret ?_)
    ((with_reducible show EvE _ _ _ _ _ (.Constant (.int _) _ _) _ _ _); refine ev_int ?_)
    exact ⟨_, SubP.refl _, hq⟩

def MXN : Int := 1000000000000000000
theorem mx_log : MXN.natAbs.log2 < 1920 := by decide +kernel
theorem mxn_log : (-MXN).natAbs.log2 < 1920 := by decide +kernel
theorem mx_len : (Str.ofString (toString MXN)).length = 19 := by decide +kernel
theorem mxn_len : (Str.ofString (toString (-MXN))).length = 20 := by decide +kernel

theorem bind_check {pm code doc : Value} : ∀ cvs : List Value, cvs.length = 2 → bindArgs (docDef (defAt pw_k6_0113 4).name (defAt pw_k6_0113 4).params (defAt pw_k6_0113 4).body (defAt pw_k6_0113 4).scope pm code doc) ⟨cvs, []⟩ = pure ((["value", "lowest"] : List Str).zip cvs)
  | [a, b], _ => rfl
theorem check_spec {v : Int} {f : Addr} {pm code doc : Value} {Q : V → St → Prop} {X : Bool → V → St → Prop} (C : Ctx Bs mg mb) (F : FnAt Bs mg "check_number" (defAt pw_k6_0113 4) f pm code doc)
    (BI : BIs Bs mg mb "isinstance" (.builtin "isinstance")) (Bi : BIs Bs mg mb "int" (.type "int")) (Bb : BIs Bs mg mb "bool" (.type "bool")) (BV : BIs Bs mg mb "ValueError" (.type "ValueError")) (GM : GIs Bs mg mb "MAX_NUMBER" (.int MXN))
    (hq : -MXN ≤ v → v ≤ MXN → Q (.int v) σ) (hx : ¬ (-MXN ≤ v ∧ v ≤ MXN) → ∀ msg : Str, msg.length ≤ 30000 → X true (.tup [.str msg]) σ) : EvFV prog w Bs (k + 1) (.ref f) [.int v, .int (-MXN)] σ Q X := by
  refine evfV_c (xs := ["value", "lowest"]) C F bind_check rfl (by decide) [("value", .int v), ("lowest", .int (-MXN))] (fun L => σ) rfl (fun L => rfl) fun L => ?_
  refine evsV_cons (EvSt.toV ?_)
  ((with_reducible show EvX _ _ _ _ _ (.If _ _ _ _) _ _ _); refine evx_if ?_)
  ((with_reducible show EvB _ _ _ _ _ (.BoolOp .Or _ _) _ _ _); refine evb_or ?_)
  ((with_reducible show Ev _ _ _ _ _ _ (allTrue .Or (_ :: _) _) _ _ _); refine all_or_cons ?_)
  ((with_reducible show EvB _ _ _ _ _ (.UnaryOp .Not _ _) _ _ _); refine evb_not ?_)
  ((with_reducible show EvB _ _ _ _ _ (.Call _ _ _ _) _ _ _); refine evb_val ?_)
  ((with_reducible show EvE _ _ _ _ _ (.Call (.Name _ _) (_ :: _) [] _) _ _ _); first | refine ev_bfn (by assumption) ?_ | refine ev_tfn (by assumption) ?_ | refine ev_fn (by assumption) (by assumption) ?_)
  ((with_reducible show EvA _ _ _ _ _ _ (_ :: _) _ _ _); refine eva_cons ?_)
  ((with_reducible show EvE _ _ _ _ _ (.Name _ _) _ _ _); refine ev_local (by rfl) ?_)
  ((with_reducible show EvA _ _ _ _ _ _ (_ :: _) _ _ _); refine eva_cons ?_)
  ((with_reducible show EvE _ _ _ _ _ (.Name _ _) _ _ _); first | refine ev_tname (by assumption) ?_ | refine ev_gname (by assumption) ?_)
  ((with_reducible show EvA _ _ _ _ _ _ [] _ _ _); refine eva_nil ?_)
  refine bf_isint ?_
  ((with_reducible show ∃ b, Tru (.bool _) b ∧ _); refine ⟨_, Tru.bool _, ?_⟩)
  ((with_reducible show ite _ _ _); first | refine if_tt (by rfl) ?_ | refine if_ff (by rfl) ?_)
  ((with_reducible show Ev _ _ _ _ _ _ (allTrue .Or (_ :: _) _) _ _ _); refine all_or_cons ?_)
  ((with_reducible show EvB _ _ _ _ _ (.Call _ _ _ _) _ _ _); refine evb_val ?_)
  ((with_reducible show EvE _ _ _ _ _ (.Call (.Name _ _) (_ :: _) [] _) _ _ _); first | refine ev_bfn (by assumption) ?_ | refine ev_tfn (by assumption) ?_ | refine ev_fn (by assumption) (by assumption) ?_)
  ((with_reducible show EvA _ _ _ _ _ _ (_ :: _) _ _ _); refine eva_cons ?_)
  ((with_reducible show EvE _ _ _ _ _ (.Name _ _) _ _ _); refine ev_local (by rfl) ?_)
  ((with_reducible show EvA _ _ _ _ _ _ (_ :: _) _ _ _); refine eva_cons ?_)
  ((with_reducible show EvE _ _ _ _ _ (.Name _ _) _ _ _); first | refine ev_tname (by assumption) ?_ | refine ev_gname (by assumption) ?_)
  ((with_reducible show EvA _ _ _ _ _ _ [] _ _ _); refine eva_nil ?_)
  refine bf_isint_bool ?_
  ((with_reducible show ∃ b, Tru (.bool _) b ∧ _); refine ⟨_, Tru.bool _, ?_⟩)
  ((with_reducible show ite _ _ _); first | refine if_tt (by rfl) ?_ | refine if_ff (by rfl) ?_)
  ((with_reducible show Ev _ _ _ _ _ _ (allTrue .Or [] _) _ _ _); refine all_or_nil ?_)
  ((with_reducible show ite _ _ _); first | refine if_tt (by rfl) ?_ | refine if_ff (by rfl) ?_)
  ((with_reducible show EvS _ _ _ _ _ [] _ _ _); refine evs_nil ?_)
  refine evsV_cons (evxV_if ?_)
  ((with_reducible show EvB _ _ _ _ _ (.UnaryOp .Not _ _) _ _ _); refine evb_not ?_)
  ((with_reducible show EvB _ _ _ _ _ (.Compare _ [_, _] _ _) _ _ _); refine evb_cmp2 ?_)
  ((with_reducible show EvE _ _ _ _ _ (.Name _ _) _ _ _); refine ev_local (by rfl) ?_)
  ((with_reducible show EvE _ _ _ _ _ (.Name _ _) _ _ _); refine ev_local (by rfl) ?_)
  ((with_reducible show ∃ c, CmpG _ _ _ _ _ _ c ∧ _); refine ⟨_, Cmp.gen (by constructor), ?_⟩)
  have bad : ∀ {Qn : Fl → Env' → St → Prop}, ¬ (-MXN ≤ v ∧ v ≤ MXN) → EvStV prog w Bs k (callEnvC (docDef (defAt pw_k6_0113 4).name (defAt pw_k6_0113 4).params (defAt pw_k6_0113 4).body (defAt pw_k6_0113 4).scope pm code doc) L f)
      (execs (match (defAt pw_k6_0113 4).body with | [_, .If _ b _ _, _] => b | _ => []) (callEnvC (docDef (defAt pw_k6_0113 4).name (defAt pw_k6_0113 4).params (defAt pw_k6_0113 4).body (defAt pw_k6_0113 4).scope pm code doc) L f)) [("value", .int v), ("lowest", .int (-MXN))] σ Qn fun c av _ σ' => ∃ σ'', SubP σ'' σ' ∧ X c av σ'' := by
    intro Qn hb
    refine evsV_cons (evxV_raise BV ?_)
    ((with_reducible show EvA _ _ _ _ _ _ (_ :: _) _ _ _); refine eva_cons ?_)
    ((with_reducible show EvE _ _ _ _ _ (.JoinedStr _ _) _ _ _); refine ev_joinedL ?_)
    ((with_reducible show EvJL _ _ _ _ _ _ (_ :: _) _ _ _); refine evjL_cons ?_)
    ((with_reducible show EvE _ _ _ _ _ (.Constant (.str _) _ _) _ _ _); refine ev_str ?_)
    refine ⟨_, rfl, size_le (by decide), ?_⟩
    ((with_reducible show EvJL _ _ _ _ _ _ (_ :: _) _ _ _); refine evjL_cons ?_)
    ((with_reducible show EvE _ _ _ _ _ (.FormattedValue _ _ none _) _ _ _); refine ev_fmt ?_)
    ((with_reducible show EvE _ _ _ _ _ (.Name _ _) _ _ _); refine ev_local (by rfl) ?_)
    ((with_reducible show ∃ i, V.int _ = V.int i ∧ _); refine ⟨_, rfl, ?_⟩)
    refine ⟨mxn_log, ?_⟩
    refine ⟨_, rfl, size_le (by rw [mxn_len]; decide), ?_⟩
    ((with_reducible show EvJL _ _ _ _ _ _ (_ :: _) _ _ _); refine evjL_cons ?_)
    ((with_reducible show EvE _ _ _ _ _ (.Constant (.str _) _ _) _ _ _); refine ev_str ?_)
    refine ⟨_, rfl, size_le (by rw [mxn_len]; decide), ?_⟩
    ((with_reducible show EvJL _ _ _ _ _ _ (_ :: _) _ _ _); refine evjL_cons ?_)
    ((with_reducible show EvE _ _ _ _ _ (.FormattedValue _ _ none _) _ _ _); refine ev_fmt ?_)
    ((with_reducible show EvE _ _ _ _ _ (.Name _ _) _ _ _); first | refine ev_tname (by assumption) ?_ | refine ev_gname (by assumption) ?_)
    ((with_reducible show ∃ i, V.int _ = V.int i ∧ _); refine ⟨_, rfl, ?_⟩)
    refine ⟨mx_log, ?_⟩
    refine ⟨_, rfl, size_le (by rw [mxn_len, mx_len]; decide), ?_⟩
    intro text htx
    ((with_reducible show EvA _ _ _ _ _ _ [] _ _ _); refine eva_nil ?_)
    exact ⟨by simp, σ, SubP.refl _, hx hb text (by rw [htx, mxn_len, mx_len]; decide)⟩
  by_cases h1 : -MXN ≤ v
  · refine if_tt (decide_eq_true h1) ?_
    ((with_reducible show EvE _ _ _ _ _ (.Name _ _) _ _ _); first | refine ev_tname (by assumption) ?_ | refine ev_gname (by assumption) ?_)
    ((with_reducible show ∃ c, CmpG _ _ _ _ _ _ c ∧ _); refine ⟨_, Cmp.gen (by constructor), ?_⟩)
    by_cases h2 : v ≤ MXN
    · rw [decide_eq_true h2]
      refine if_ff rfl ?_
      refine evsV_nil ?_
      refine evsV_cons (EvSt.toV ?_)
      ((with_reducible show EvX _ _ _ _ _ (.Return (some _) _) _ _ _); refine evx_ret ?_)
      ((with_reducible show EvE _ _ _ _ _ (.Name _ _) _ _ _); refine ev_local (by rfl) ?_)
      exact ⟨_, SubP.refl _, hq h1 h2⟩
    · rw [decide_eq_false h2]
      refine if_tt rfl ?_
      exact bad fun h => h2 h.2
  · refine if_ff (decide_eq_false h1) ?_
    refine if_tt rfl ?_
    exact bad fun h => h1 h.1

theorem lstrip_len (d : Str) : (Txt.lstripChars d "0").length = (d.cps.toList.dropWhile (fun c => c == 48)).length := by
  rw [← lstrip_zero]; simp [Str.length]
theorem int_body {d : Str} (h : NumText.AllDigits d.cps.toList) (hz : (Txt.lstripChars d "0").length ≠ 0) (hl : (Txt.lstripChars d "0").length ≤ 19) : PySem.intText? (Txt.lstripChars d "0") = some ((NumText.digitsVal d.cps.toList : Nat) : Int) := by
  have e := lstrip_zero d
  rw [intText_digits (x := Txt.lstripChars d "0") (by rw [e]; exact fun c hc => h c ((List.dropWhile_suffix _).subset hc)) ?_ (by omega), e, digitsVal_zeros]
  intro q
  rw [lstrip_len, ← e, q] at hz
  exact hz rfl
theorem int_zero {d : Str} (hz : (Txt.lstripChars d "0").length = 0) : NumText.digitsVal d.cps.toList = 0 := by
  rw [lstrip_len] at hz
  rw [← digitsVal_zeros, List.length_eq_zero_iff.mp hz]; rfl
theorem zero_text : PySem.intText? "0" = some 0 := by decide +kernel
theorem bind_pnum {pm code doc : Value} : ∀ cvs : List Value, cvs.length = 2 → bindArgs (docDef (defAt pw_k6_0113 5).name (defAt pw_k6_0113 5).params (defAt pw_k6_0113 5).body (defAt pw_k6_0113 5).scope pm code doc) ⟨cvs, []⟩ = pure ((["text", "lowest"] : List Str).zip cvs)
  | [a, b], _ => rfl
theorem pnum_spec {x : Str} {f : Addr} {pm code doc : Value} {fk : Addr} {pmk codek dock : Value} {Q : V → St → Prop} {X : Bool → V → St → Prop} (C : Ctx Bs mg mb) (F : FnAt Bs mg "parse_number" (defAt pw_k6_0113 5) f pm code doc) (hK : FnAt Bs mg "check_number" (defAt pw_k6_0113 4) fk pmk codek dock)
    (BI : BIs Bs mg mb "isinstance" (.builtin "isinstance")) (Bi : BIs Bs mg mb "int" (.type "int")) (Bb : BIs Bs mg mb "bool" (.type "bool")) (Bs' : BIs Bs mg mb "str" (.type "str")) (BL : BIs Bs mg mb "len" (.builtin "len")) (BV : BIs Bs mg mb "ValueError" (.type "ValueError")) (GM : GIs Bs mg mb "MAX_NUMBER" (.int MXN))
    (hz : x.length ≤ 1000) (hc : ∀ c ∈ x.cps.toList, c < 16 ^ 8) (hq : ∀ i, dueO x.cps.toList = some i → Q (.int i) σ) (hx : dueO x.cps.toList = none → ∀ msg : Str, msg.length ≤ 30000 → X true (.tup [.str msg]) σ) : EvFV prog w Bs (k + 2) (.ref f) [.str x, .int (-MXN)] σ Q X := by
  refine evfV_c (xs := ["text", "lowest"]) C F bind_pnum rfl (by decide) [("text", .str x), ("lowest", .int (-MXN))] (fun L => σ) rfl (fun L => rfl) fun L => ?_
  have hd := remove_minus x
  have hdl : (Txt.removeprefix x "-").length ≤ x.length := by
    have e1 : (Txt.removeprefix x "-").cps.toList.length = (Txt.removeprefix x "-").length := by simp [Str.length]
    have e2 : x.cps.toList.length = x.length := by simp [Str.length]
    rw [← e1, hd, ← e2]
    split <;> simp
  replace hd : (Txt.removeprefix x "-").cps.toList = bodyOf x.cps.toList := hd
  refine evsV_cons (EvSt.toV ?_)
  ((with_reducible show EvX _ _ _ _ _ (.Assign [.Name _ _] _ _) _ _ _); first | refine evx_assign ?_ | refine evx_assign_cell (by rfl) ?_)
  ((with_reducible show EvE _ _ _ _ _ (.Call (.Attribute _ "removeprefix" _) _ _ _) _ _ _); refine ev_meth PySem.F.plainAttrs_str PySem.F.slot_str_removeprefix PySem.F.type_str_removeprefix ?_)
  ((with_reducible show EvE _ _ _ _ _ (.Name _ _) _ _ _); refine ev_local (by rfl) ?_)
  ((with_reducible show Kd _ _ _ ∧ _); first | refine ⟨Kd.list (by walk_at "mv_mem") (by rfl), ?_⟩ | refine ⟨Kd.dict (by walk_at "mv_mem") (by rfl), ?_⟩ | refine ⟨Kd.str _, ?_⟩)
  ((with_reducible show EvA _ _ _ _ _ _ (_ :: _) _ _ _); refine eva_cons ?_)
  ((with_reducible show EvE _ _ _ _ _ (.Constant (.str _) _ _) _ _ _); refine ev_str ?_)
  ((with_reducible show EvA _ _ _ _ _ _ [] _ _ _); refine eva_nil ?_)
  refine bf_removeprefix (size_le (by omega)) ?_
  have hasc := ascii_digits (Txt.removeprefix x "-")
  have hstr := lstrip_len (Txt.removeprefix x "-")
  have hib := @int_body (Txt.removeprefix x "-")
  have hiz := @int_zero (Txt.removeprefix x "-")
  rw [hd] at hasc hstr hib hiz
  generalize Txt.removeprefix x "-" = d at *
  refine evsV_cons (evxV_if ?_)
  ((with_reducible show EvB _ _ _ _ _ (.UnaryOp .Not _ _) _ _ _); refine evb_not ?_)
  ((with_reducible show EvB _ _ _ _ _ (.BoolOp .And _ _) _ _ _); refine evb_and ?_)
  ((with_reducible show Ev _ _ _ _ _ _ (allTrue .And (_ :: _) _) _ _ _); refine all_and_cons ?_)
  ((with_reducible show EvB _ _ _ _ _ (.Call _ _ _ _) _ _ _); refine evb_val ?_)
  ((with_reducible show EvE _ _ _ _ _ (.Call (.Attribute _ "isascii" _) [] _ _) _ _ _); refine ev_meth0 PySem.F.plainAttrs_str PySem.F.slot_str_isascii PySem.F.type_str_isascii ?_)
  ((with_reducible show EvE _ _ _ _ _ (.Name _ _) _ _ _); refine ev_local (by rfl) ?_)
  ((with_reducible show Kd _ _ _ ∧ _); first | refine ⟨Kd.list (by walk_at "mv_mem") (by rfl), ?_⟩ | refine ⟨Kd.dict (by walk_at "mv_mem") (by rfl), ?_⟩ | refine ⟨Kd.str _, ?_⟩)
  have bad : ∀ {Qn : Fl → Env' → St → Prop}, ¬ (bodyOf x.cps.toList ≠ [] ∧ NumText.AllDigits (bodyOf x.cps.toList)) → EvStV prog w Bs (k + 1) (callEnvC (docDef (defAt pw_k6_0113 5).name (defAt pw_k6_0113 5).params (defAt pw_k6_0113 5).body (defAt pw_k6_0113 5).scope pm code doc) L f)
      (execs (match (defAt pw_k6_0113 5).body with | _ :: .If _ b _ _ :: _ => b | _ => []) (callEnvC (docDef (defAt pw_k6_0113 5).name (defAt pw_k6_0113 5).params (defAt pw_k6_0113 5).body (defAt pw_k6_0113 5).scope pm code doc) L f)) [("text", .str x), ("lowest", .int (-MXN)), ("digits", .str d)] σ Qn fun c av _ σ' => ∃ σ'', SubP σ'' σ' ∧ X c av σ'' := by
    intro Qn hb
    have hnone : dueO x.cps.toList = none := by
      unfold dueO
      split
      · rfl
      · rename_i h1
        rw [ad_neg fun h2 => hb ⟨h1, h2⟩]
    refine evsV_cons (evxV_raise BV ?_)
    ((with_reducible show EvA _ _ _ _ _ _ (_ :: _) _ _ _); refine eva_cons ?_)
    ((with_reducible show EvE _ _ _ _ _ (.JoinedStr _ _) _ _ _); refine ev_joinedL ?_)
    ((with_reducible show EvJL _ _ _ _ _ _ (_ :: _) _ _ _); refine evjL_cons ?_)
    ((with_reducible show EvE _ _ _ _ _ (.Constant (.str _) _ _) _ _ _); refine ev_str ?_)
    refine ⟨_, rfl, size_le (by decide), ?_⟩
    ((with_reducible show EvJL _ _ _ _ _ _ (_ :: _) _ _ _); refine evjL_cons ?_)
    ((with_reducible show EvE _ _ _ _ _ (.FormattedValue _ 97 none _) _ _ _); refine ev_fmt_a ?_)
    ((with_reducible show EvE _ _ _ _ _ (.Subscript (.Name "text" _) (.Slice _ _ _ _) _) _ _ _); refine ev_sliceT ?_)
    ((with_reducible show EvE _ _ _ _ _ (.Name _ _) _ _ _); refine ev_local (by rfl) ?_)
    ((with_reducible show EvP _ _ _ _ _ none _ _ _); refine evp_none ?_)
    ((with_reducible show EvP _ _ _ _ _ (some _) _ _ _); refine evp_some ?_)
    ((with_reducible show EvE _ _ _ _ _ (.Constant (.int _) _ _) _ _ _); refine ev_int ?_)
    refine ⟨x, none, some 40, rfl, .none, .int _, size_le (by omega), ?_⟩
    have hs40 := slice_take x 40
    refine ⟨_, rfl, ?_, ?_, ?_⟩
    · have e1 : (Txt.slice x none (some 40)).cps.toList.length = (Txt.slice x none (some 40)).length := by simp [Str.length]
      rw [← e1]
      have := congrArg List.length hs40
      rw [List.length_take] at this
      show (Txt.slice x none (some ((40 : Nat) : Int))).cps.toList.length ≤ _
      omega
    · intro c hcc
      have hcc' : c ∈ (Txt.slice x none (some ((40 : Nat) : Int))).cps.toList := hcc
      rw [hs40] at hcc'
      exact hc c (List.mem_of_mem_take hcc')
    intro y hy
    refine ⟨_, rfl, size_le ?_, ?_⟩
    · have : (Str.ofString "not a whole number: ").length = 20 := by decide
      show 0 + (Str.ofString "not a whole number: ").length + y.length ≤ _
      omega
    intro text htx
    ((with_reducible show EvA _ _ _ _ _ _ [] _ _ _); refine eva_nil ?_)
    refine ⟨by simp, σ, SubP.refl _, hx hnone text ?_⟩
    have h20 : (Str.ofString "not a whole number: ").length = 20 := by decide
    have htx' : text.length = 0 + (Str.ofString "not a whole number: ").length + y.length := htx
    omega
  refine bf_isascii ?_
  ((with_reducible show ∃ b, Tru (.bool _) b ∧ _); refine ⟨_, Tru.bool _, ?_⟩)
  cases ha : Txt.isascii d
  · refine if_ff rfl ?_
    refine if_tt rfl ?_
    refine bad fun h => ?_
    have := hasc.mpr h
    rw [ha] at this; cases this
  refine if_tt rfl ?_
  ((with_reducible show Ev _ _ _ _ _ _ (allTrue .And (_ :: _) _) _ _ _); refine all_and_cons ?_)
  ((with_reducible show EvB _ _ _ _ _ (.Call _ _ _ _) _ _ _); refine evb_val ?_)
  ((with_reducible show EvE _ _ _ _ _ (.Call (.Attribute _ "isdigit" _) [] _ _) _ _ _); refine ev_meth0 PySem.F.plainAttrs_str PySem.F.slot_str_isdigit PySem.F.type_str_isdigit ?_)
  ((with_reducible show EvE _ _ _ _ _ (.Name _ _) _ _ _); refine ev_local (by rfl) ?_)
  ((with_reducible show Kd _ _ _ ∧ _); first | refine ⟨Kd.list (by walk_at "mv_mem") (by rfl), ?_⟩ | refine ⟨Kd.dict (by walk_at "mv_mem") (by rfl), ?_⟩ | refine ⟨Kd.str _, ?_⟩)
  refine bf_isdigit ?_
  ((with_reducible show ∃ b, Tru (.bool _) b ∧ _); refine ⟨_, Tru.bool _, ?_⟩)
  cases hdg : Txt.isdigit d
  · refine if_ff rfl ?_
    refine if_tt rfl ?_
    refine bad fun h => ?_
    have := hasc.mpr h
    rw [ha, hdg] at this; cases this
  refine if_tt rfl ?_
  ((with_reducible show Ev _ _ _ _ _ _ (allTrue .And [] _) _ _ _); refine all_and_nil ?_)
  ((with_reducible show ite _ _ _); first | refine if_tt (by rfl) ?_ | refine if_ff (by rfl) ?_)
  obtain ⟨hne, hall⟩ := hasc.mp (by rw [ha, hdg]; rfl)
  refine evsV_nil ?_
  refine evsV_cons (evxV_if ?_)
  ((with_reducible show EvB _ _ _ _ _ (.Compare _ _ _ _) _ _ _); refine evb_cmpG ?_)
  ((with_reducible show EvE _ _ _ _ _ (.Call (.Name _ _) (_ :: _) [] _) _ _ _); first | refine ev_bfn (by assumption) ?_ | refine ev_tfn (by assumption) ?_ | refine ev_fn (by assumption) (by assumption) ?_)
  ((with_reducible show EvA _ _ _ _ _ _ (_ :: _) _ _ _); refine eva_cons ?_)
  ((with_reducible show EvE _ _ _ _ _ (.Call (.Attribute _ "lstrip" _) _ _ _) _ _ _); refine ev_meth PySem.F.plainAttrs_str PySem.F.slot_str_lstrip PySem.F.type_str_lstrip ?_)
  ((with_reducible show EvE _ _ _ _ _ (.Name _ _) _ _ _); refine ev_local (by rfl) ?_)
  ((with_reducible show Kd _ _ _ ∧ _); first | refine ⟨Kd.list (by walk_at "mv_mem") (by rfl), ?_⟩ | refine ⟨Kd.dict (by walk_at "mv_mem") (by rfl), ?_⟩ | refine ⟨Kd.str _, ?_⟩)
  ((with_reducible show EvA _ _ _ _ _ _ (_ :: _) _ _ _); refine eva_cons ?_)
  ((with_reducible show EvE _ _ _ _ _ (.Constant (.str _) _ _) _ _ _); refine ev_str ?_)
  ((with_reducible show EvA _ _ _ _ _ _ [] _ _ _); refine eva_nil ?_)
  have hzl : (Txt.lstripChars d "0").length ≤ 1000 := by
    have e2 : d.cps.toList.length = d.length := by simp [Str.length]
    have := (List.dropWhile_suffix (fun c => c == 48) (l := bodyOf x.cps.toList)).length_le
    rw [hstr, ← hd] at *
    omega
  refine bf_lstripc (size_le (by omega)) ?_
  ((with_reducible show EvA _ _ _ _ _ _ [] _ _ _); refine eva_nil ?_)
  refine bf_len_str (size_le (by omega)) ?_
  ((with_reducible show EvE _ _ _ _ _ (.Call (.Name _ _) (_ :: _) [] _) _ _ _); first | refine ev_bfn (by assumption) ?_ | refine ev_tfn (by assumption) ?_ | refine ev_fn (by assumption) (by assumption) ?_)
  ((with_reducible show EvA _ _ _ _ _ _ (_ :: _) _ _ _); refine eva_cons ?_)
  ((with_reducible show EvE _ _ _ _ _ (.Call (.Name _ _) (_ :: _) [] _) _ _ _); first | refine ev_bfn (by assumption) ?_ | refine ev_tfn (by assumption) ?_ | refine ev_fn (by assumption) (by assumption) ?_)
  ((with_reducible show EvA _ _ _ _ _ _ (_ :: _) _ _ _); refine eva_cons ?_)
  ((with_reducible show EvE _ _ _ _ _ (.Name _ _) _ _ _); first | refine ev_tname (by assumption) ?_ | refine ev_gname (by assumption) ?_)
  ((with_reducible show EvA _ _ _ _ _ _ [] _ _ _); refine eva_nil ?_)
  refine bf_str_int mx_log ?_
  ((with_reducible show EvA _ _ _ _ _ _ [] _ _ _); refine eva_nil ?_)
  refine bf_len_str (size_le (by rw [mx_len]; decide)) ?_
  ((with_reducible show ∃ c, CmpG _ _ _ _ _ _ c ∧ _); refine ⟨_, Cmp.gen (by constructor), ?_⟩)
  rw [mx_len]
  have hval : dueO x.cps.toList = if 10 ^ 18 < NumText.digitsVal (bodyOf x.cps.toList) then none else some (signOf x.cps.toList * (NumText.digitsVal (bodyOf x.cps.toList) : Nat)) := by
    unfold dueO
    rw [if_neg hne, ad_pos hall]
  by_cases hbig : 19 < (Txt.lstripChars d "0").length
  · refine if_tt (decide_eq_true (by omega)) ?_
    have h19 := digitsVal_big hall (by rw [← hstr]; exact hbig)
    have hnone : dueO x.cps.toList = none := by rw [hval, if_pos (by omega)]
    refine evsV_cons (evxV_raise BV ?_)
    ((with_reducible show EvA _ _ _ _ _ _ (_ :: _) _ _ _); refine eva_cons ?_)
    ((with_reducible show EvE _ _ _ _ _ (.JoinedStr _ _) _ _ _); refine ev_joinedL ?_)
    ((with_reducible show EvJL _ _ _ _ _ _ (_ :: _) _ _ _); refine evjL_cons ?_)
    ((with_reducible show EvE _ _ _ _ _ (.Constant (.str _) _ _) _ _ _); refine ev_str ?_)
    refine ⟨_, rfl, size_le (by decide), ?_⟩
    ((with_reducible show EvJL _ _ _ _ _ _ (_ :: _) _ _ _); refine evjL_cons ?_)
    ((with_reducible show EvE _ _ _ _ _ (.FormattedValue _ _ none _) _ _ _); refine ev_fmt ?_)
    ((with_reducible show EvE _ _ _ _ _ (.Name _ _) _ _ _); refine ev_local (by rfl) ?_)
    ((with_reducible show ∃ i, V.int _ = V.int i ∧ _); refine ⟨_, rfl, ?_⟩)
    refine ⟨mxn_log, ?_⟩
    refine ⟨_, rfl, size_le (by rw [mxn_len]; decide), ?_⟩
    ((with_reducible show EvJL _ _ _ _ _ _ (_ :: _) _ _ _); refine evjL_cons ?_)
    ((with_reducible show EvE _ _ _ _ _ (.Constant (.str _) _ _) _ _ _); refine ev_str ?_)
    refine ⟨_, rfl, size_le (by rw [mxn_len]; decide), ?_⟩
    ((with_reducible show EvJL _ _ _ _ _ _ (_ :: _) _ _ _); refine evjL_cons ?_)
    ((with_reducible show EvE _ _ _ _ _ (.FormattedValue _ _ none _) _ _ _); refine ev_fmt ?_)
    ((with_reducible show EvE _ _ _ _ _ (.Name _ _) _ _ _); first | refine ev_tname (by assumption) ?_ | refine ev_gname (by assumption) ?_)
    ((with_reducible show ∃ i, V.int _ = V.int i ∧ _); refine ⟨_, rfl, ?_⟩)
    refine ⟨mx_log, ?_⟩
    refine ⟨_, rfl, size_le (by rw [mxn_len, mx_len]; decide), ?_⟩
    intro text htx
    ((with_reducible show EvA _ _ _ _ _ _ [] _ _ _); refine eva_nil ?_)
    exact ⟨by simp, σ, SubP.refl _, hx hnone text (by rw [htx, mxn_len, mx_len]; decide)⟩
  refine if_ff (decide_eq_false (by omega)) ?_
  refine evsV_nil ?_
  refine evsV_cons (EvSt.toV ?_)
  have fin : EvStV prog w Bs (k + 1) (callEnvC (docDef (defAt pw_k6_0113 5).name (defAt pw_k6_0113 5).params (defAt pw_k6_0113 5).body (defAt pw_k6_0113 5).scope pm code doc) L f)
      (execs ((defAt pw_k6_0113 5).body.drop 4) (callEnvC (docDef (defAt pw_k6_0113 5).name (defAt pw_k6_0113 5).params (defAt pw_k6_0113 5).body (defAt pw_k6_0113 5).scope pm code doc) L f)) [("text", .str x), ("lowest", .int (-MXN)), ("digits", .str d), ("value", .int (NumText.digitsVal (bodyOf x.cps.toList) : Nat))] σ (fun fl _ σ' => ∃ σ'', SubP σ'' σ' ∧ Q (retOf fl) σ'') fun c av _ σ' => ∃ σ'', SubP σ'' σ' ∧ X c av σ'' := by
    generalize NumText.digitsVal (bodyOf x.cps.toList) = N at *
    refine evsV_cons (evxV_ret (evV_fn C hK ?_))
    ((with_reducible show EvA _ _ _ _ _ _ (_ :: _) _ _ _); refine eva_cons ?_)
    ((with_reducible show EvE _ _ _ _ _ (.IfExp _ _ _ _) _ _ _); refine ev_ifexp ?_)
    ((with_reducible show EvB _ _ _ _ _ (.Call _ _ _ _) _ _ _); refine evb_val ?_)
    ((with_reducible show EvE _ _ _ _ _ (.Call (.Attribute _ "startswith" _) _ _ _) _ _ _); refine ev_meth PySem.F.plainAttrs_str PySem.F.slot_str_startswith PySem.F.type_str_startswith ?_)
    ((with_reducible show EvE _ _ _ _ _ (.Name _ _) _ _ _); refine ev_local (by rfl) ?_)
    ((with_reducible show Kd _ _ _ ∧ _); first | refine ⟨Kd.list (by walk_at "mv_mem") (by rfl), ?_⟩ | refine ⟨Kd.dict (by walk_at "mv_mem") (by rfl), ?_⟩ | refine ⟨Kd.str _, ?_⟩)
    ((with_reducible show EvA _ _ _ _ _ _ (_ :: _) _ _ _); refine eva_cons ?_)
    ((with_reducible show EvE _ _ _ _ _ (.Constant (.str _) _ _) _ _ _); refine ev_str ?_)
    ((with_reducible show EvA _ _ _ _ _ _ [] _ _ _); refine eva_nil ?_)
    refine bf_startswith ?_
    rw [starts_minus]
    ((with_reducible show ∃ b, Tru (.bool _) b ∧ _); refine ⟨_, Tru.bool _, ?_⟩)
    have hm18 : MXN = ((10 ^ 18 : Nat) : Int) := by decide +kernel
    unfold signOf at hval
    by_cases h45 : x.cps.toList.head? = some 45
    · rw [decide_eq_true h45]
      refine if_tt rfl ?_
      ((with_reducible show EvE _ _ _ _ _ (.UnaryOp .USub _ _) _ _ _); refine ev_neg ?_)
      ((with_reducible show EvE _ _ _ _ _ (.Name _ _) _ _ _); refine ev_local (by rfl) ?_)
      ((with_reducible show ∃ i, V.int _ = V.int i ∧ _); refine ⟨_, rfl, ?_⟩)
      ((with_reducible show EvA _ _ _ _ _ _ (_ :: _) _ _ _); refine eva_cons ?_)
      ((with_reducible show EvE _ _ _ _ _ (.Name _ _) _ _ _); refine ev_local (by rfl) ?_)
      ((with_reducible show EvA _ _ _ _ _ _ [] _ _ _); refine eva_nil ?_)
      rw [if_pos h45] at hval
      refine check_spec C hK BI Bi Bb BV GM (fun h1 h2 => ?_) fun hb a0 ha0 => ?_
      · exact ⟨σ, SubP.refl _, hq _ (by rw [hval, if_neg (by omega)]; simp)⟩
      · exact ⟨σ, SubP.refl _, hx (by rw [hval, if_pos (by omega)]) a0 ha0⟩
    · rw [decide_eq_false h45]
      refine if_ff rfl ?_
      ((with_reducible show EvE _ _ _ _ _ (.Name _ _) _ _ _); refine ev_local (by rfl) ?_)
      ((with_reducible show EvA _ _ _ _ _ _ (_ :: _) _ _ _); refine eva_cons ?_)
      ((with_reducible show EvE _ _ _ _ _ (.Name _ _) _ _ _); refine ev_local (by rfl) ?_)
      ((with_reducible show EvA _ _ _ _ _ _ [] _ _ _); refine eva_nil ?_)
      rw [if_neg h45] at hval
      refine check_spec C hK BI Bi Bb BV GM (fun h1 h2 => ?_) fun hb a0 ha0 => ?_
      · exact ⟨σ, SubP.refl _, hq _ (by rw [hval, if_neg (by omega)]; simp)⟩
      · exact ⟨σ, SubP.refl _, hx (by rw [hval, if_pos (by omega)]) a0 ha0⟩
  ((with_reducible show EvX _ _ _ _ _ (.Assign [.Name _ _] _ _) _ _ _); first | refine evx_assign ?_ | refine evx_assign_cell (by rfl) ?_)
  ((with_reducible show EvE _ _ _ _ _ (.Call (.Name _ _) (_ :: _) [] _) _ _ _); first | refine ev_bfn (by assumption) ?_ | refine ev_tfn (by assumption) ?_ | refine ev_fn (by assumption) (by assumption) ?_)
  ((with_reducible show EvA _ _ _ _ _ _ (_ :: _) _ _ _); refine eva_cons ?_)
  ((with_reducible show EvE _ _ _ _ _ (.BoolOp .Or [_, _] _) _ _ _); refine ev_orT ?_)
  ((with_reducible show EvE _ _ _ _ _ (.Call (.Attribute _ "lstrip" _) _ _ _) _ _ _); refine ev_meth PySem.F.plainAttrs_str PySem.F.slot_str_lstrip PySem.F.type_str_lstrip ?_)
  ((with_reducible show EvE _ _ _ _ _ (.Name _ _) _ _ _); refine ev_local (by rfl) ?_)
  ((with_reducible show Kd _ _ _ ∧ _); first | refine ⟨Kd.list (by walk_at "mv_mem") (by rfl), ?_⟩ | refine ⟨Kd.dict (by walk_at "mv_mem") (by rfl), ?_⟩ | refine ⟨Kd.str _, ?_⟩)
  ((with_reducible show EvA _ _ _ _ _ _ (_ :: _) _ _ _); refine eva_cons ?_)
  ((with_reducible show EvE _ _ _ _ _ (.Constant (.str _) _ _) _ _ _); refine ev_str ?_)
  ((with_reducible show EvA _ _ _ _ _ _ [] _ _ _); refine eva_nil ?_)
  refine bf_lstripc (size_le (by omega)) ?_
  refine ⟨_, rfl, size_le (by omega), ?_⟩
  by_cases h0 : (Txt.lstripChars d "0").length = 0
  · rw [if_pos h0]
    ((with_reducible show EvE _ _ _ _ _ (.Constant (.str _) _ _) _ _ _); refine ev_str ?_)
    ((with_reducible show EvA _ _ _ _ _ _ [] _ _ _); refine eva_nil ?_)
    refine bf_int_str zero_text (by decide) ?_
    have := hiz h0
    rw [this] at fin
    exact fin
  · rw [if_neg h0]
    ((with_reducible show EvA _ _ _ _ _ _ [] _ _ _); refine eva_nil ?_)
    refine bf_int_str (hib hall h0 (by omega)) (by omega) ?_
    exact fin
theorem bind_psig {pm code doc : Value} : ∀ cvs : List Value, cvs.length = 1 → bindArgs (docDef (defAt pw_k6_0113 6).name (defAt pw_k6_0113 6).params (defAt pw_k6_0113 6).body (defAt pw_k6_0113 6).scope pm code doc) ⟨cvs, []⟩ = pure ((["text"] : List Str).zip cvs)
  | [a], _ => rfl
theorem psig_spec {x : Str} {f : Addr} {pm code doc : Value} {fp : Addr} {pmp codep docp : Value} {fk : Addr} {pmk codek dock : Value} {Q : V → St → Prop} {X : Bool → V → St → Prop} (C : Ctx Bs mg mb) (F : FnAt Bs mg "parse_signed" (defAt pw_k6_0113 6) f pm code doc) (hP : FnAt Bs mg "parse_number" (defAt pw_k6_0113 5) fp pmp codep docp) (hK : FnAt Bs mg "check_number" (defAt pw_k6_0113 4) fk pmk codek dock)
    (BI : BIs Bs mg mb "isinstance" (.builtin "isinstance")) (Bi : BIs Bs mg mb "int" (.type "int")) (Bb : BIs Bs mg mb "bool" (.type "bool")) (Bs' : BIs Bs mg mb "str" (.type "str")) (BL : BIs Bs mg mb "len" (.builtin "len")) (BV : BIs Bs mg mb "ValueError" (.type "ValueError")) (GM : GIs Bs mg mb "MAX_NUMBER" (.int MXN))
    (hz : x.length ≤ 1000) (hc : ∀ c ∈ x.cps.toList, c < 16 ^ 8) (hq : ∀ i, dueO x.cps.toList = some i → Q (.int i) σ) (hx : dueO x.cps.toList = none → ∀ msg : Str, msg.length ≤ 30000 → X true (.tup [.str msg]) σ) : EvFV prog w Bs (k + 3) (.ref f) [.str x] σ Q X := by
  refine evfV_c (xs := ["text"]) C F bind_psig rfl (by decide) [("text", .str x)] (fun L => σ) rfl (fun L => rfl) fun L => ?_
  refine evsV_cons (evxV_ret (evV_fn C hP ?_))
  ((with_reducible show EvA _ _ _ _ _ _ (_ :: _) _ _ _); refine eva_cons ?_)
  ((with_reducible show EvE _ _ _ _ _ (.Name _ _) _ _ _); refine ev_local (by rfl) ?_)
  ((with_reducible show EvA _ _ _ _ _ _ (_ :: _) _ _ _); refine eva_cons ?_)
  ((with_reducible show EvE _ _ _ _ _ (.UnaryOp .USub _ _) _ _ _); refine ev_neg ?_)
  ((with_reducible show EvE _ _ _ _ _ (.Name _ _) _ _ _); first | refine ev_tname (by assumption) ?_ | refine ev_gname (by assumption) ?_)
  ((with_reducible show ∃ i, V.int _ = V.int i ∧ _); refine ⟨_, rfl, ?_⟩)
  ((with_reducible show EvA _ _ _ _ _ _ [] _ _ _); refine eva_nil ?_)
  exact pnum_spec C hP hK BI Bi Bb Bs' BL BV GM hz hc (fun i h => ⟨σ, SubP.refl _, hq i h⟩) fun h a0 ha0 => ⟨σ, SubP.refl _, hx h a0 ha0⟩

def op3 (t : T3) : V := .tup [.str t.1, .str t.2.1, .int t.2.2]
theorem bind_cname {pm code doc : Value} : ∀ cvs : List Value, cvs.length = 1 → bindArgs (docDef (defAt pw_k6_0113 3).name (defAt pw_k6_0113 3).params (defAt pw_k6_0113 3).body (defAt pw_k6_0113 3).scope pm code doc) ⟨cvs, []⟩ = pure ((["text"] : List Str).zip cvs)
  | [a], _ => rfl
theorem cname_spec {x : Str} {f : Addr} {pm code doc : Value} {Q : V → St → Prop} {X : Bool → V → St → Prop} (C : Ctx Bs mg mb) (F : FnAt Bs mg "check_name" (defAt pw_k6_0113 3) f pm code doc)
    (BI : BIs Bs mg mb "isinstance" (.builtin "isinstance")) (Bs' : BIs Bs mg mb "str" (.type "str")) (BL : BIs Bs mg mb "len" (.builtin "len")) (BV : BIs Bs mg mb "ValueError" (.type "ValueError")) (GN : GIs Bs mg mb "MAX_NAME" (.int 200))
    (hw : WdOk x) (hq : nameOk x = true → Q (.str x) σ) (hx : nameOk x = false → ∀ msg : Str, msg.length ≤ 30000 → X true (.tup [.str msg]) σ) : EvFV prog w Bs (k + 1) (.ref f) [.str x] σ Q X := by
  refine evfV_c (xs := ["text"]) C F bind_cname rfl (by decide) [("text", .str x)] (fun L => σ) rfl (fun L => rfl) fun L => ?_
  have hzl := hw.len
  refine evsV_cons (EvSt.toV ?_)
  ((with_reducible show EvX _ _ _ _ _ (.If _ _ _ _) _ _ _); refine evx_if ?_)
  ((with_reducible show EvB _ _ _ _ _ (.UnaryOp .Not _ _) _ _ _); refine evb_not ?_)
  ((with_reducible show EvB _ _ _ _ _ (.Call _ _ _ _) _ _ _); refine evb_val ?_)
  ((with_reducible show EvE _ _ _ _ _ (.Call (.Name _ _) (_ :: _) [] _) _ _ _); first | refine ev_bfn (by assumption) ?_ | refine ev_tfn (by assumption) ?_ | refine ev_fn (by assumption) (by assumption) ?_)
  ((with_reducible show EvA _ _ _ _ _ _ (_ :: _) _ _ _); refine eva_cons ?_)
  ((with_reducible show EvE _ _ _ _ _ (.Name _ _) _ _ _); refine ev_local (by rfl) ?_)
  ((with_reducible show EvA _ _ _ _ _ _ (_ :: _) _ _ _); refine eva_cons ?_)
  ((with_reducible show EvE _ _ _ _ _ (.Name _ _) _ _ _); first | refine ev_tname (by assumption) ?_ | refine ev_gname (by assumption) ?_)
  ((with_reducible show EvA _ _ _ _ _ _ [] _ _ _); refine eva_nil ?_)
  refine bf_isstr ?_
  ((with_reducible show ∃ b, Tru (.bool _) b ∧ _); refine ⟨_, Tru.bool _, ?_⟩)
  ((with_reducible show ite _ _ _); first | refine if_tt (by rfl) ?_ | refine if_ff (by rfl) ?_)
  ((with_reducible show EvS _ _ _ _ _ [] _ _ _); refine evs_nil ?_)
  refine evsV_cons (EvSt.toV ?_)
  ((with_reducible show EvX _ _ _ _ _ (.If _ _ _ _) _ _ _); refine evx_if ?_)
  ((with_reducible show EvB _ _ _ _ _ (.BoolOp .Or _ _) _ _ _); refine evb_or ?_)
  ((with_reducible show Ev _ _ _ _ _ _ (allTrue .Or (_ :: _) _) _ _ _); refine all_or_cons ?_)
  ((with_reducible show EvB _ _ _ _ _ (.Compare _ _ _ _) _ _ _); refine evb_cmpG ?_)
  ((with_reducible show EvE _ _ _ _ _ (.Name _ _) _ _ _); refine ev_local (by rfl) ?_)
  ((with_reducible show EvE _ _ _ _ _ (.Constant (.str _) _ _) _ _ _); refine ev_str ?_)
  ((with_reducible show ∃ c, CmpG _ _ _ _ _ _ c ∧ _); refine ⟨_, Cmp.gen (by constructor), ?_⟩)
  refine if_ff (decide_eq_false fun e => hw.ne (by rw [e]; rfl)) ?_
  ((with_reducible show Ev _ _ _ _ _ _ (allTrue .Or (_ :: _) _) _ _ _); refine all_or_cons ?_)
  ((with_reducible show EvB _ _ _ _ _ (.Compare _ _ _ _) _ _ _); refine evb_cmpG ?_)
  ((with_reducible show EvE _ _ _ _ _ (.Name _ _) _ _ _); refine ev_local (by rfl) ?_)
  ((with_reducible show EvE _ _ _ _ _ (.Call (.Attribute _ "strip" _) [] _ _) _ _ _); refine ev_meth0 PySem.F.plainAttrs_str PySem.F.slot_str_strip PySem.F.type_str_strip ?_)
  ((with_reducible show EvE _ _ _ _ _ (.Name _ _) _ _ _); refine ev_local (by rfl) ?_)
  ((with_reducible show Kd _ _ _ ∧ _); first | refine ⟨Kd.list (by walk_at "mv_mem") (by rfl), ?_⟩ | refine ⟨Kd.dict (by walk_at "mv_mem") (by rfl), ?_⟩ | refine ⟨Kd.str _, ?_⟩)
  refine bf_strip (size_le (by omega)) ?_
  rw [hw.strip]
  ((with_reducible show ∃ c, CmpG _ _ _ _ _ _ c ∧ _); refine ⟨_, Cmp.gen (by constructor), ?_⟩)
  refine if_ff (by simp) ?_
  ((with_reducible show Ev _ _ _ _ _ _ (allTrue .Or [] _) _ _ _); refine all_or_nil ?_)
  ((with_reducible show ite _ _ _); first | refine if_tt (by rfl) ?_ | refine if_ff (by rfl) ?_)
  ((with_reducible show EvS _ _ _ _ _ [] _ _ _); refine evs_nil ?_)
  refine evsV_cons (evxV_if ?_)
  ((with_reducible show EvB _ _ _ _ _ (.Compare _ _ _ _) _ _ _); refine evb_cmpG ?_)
  ((with_reducible show EvE _ _ _ _ _ (.Call (.Name _ _) (_ :: _) [] _) _ _ _); first | refine ev_bfn (by assumption) ?_ | refine ev_tfn (by assumption) ?_ | refine ev_fn (by assumption) (by assumption) ?_)
  ((with_reducible show EvA _ _ _ _ _ _ (_ :: _) _ _ _); refine eva_cons ?_)
  ((with_reducible show EvE _ _ _ _ _ (.Name _ _) _ _ _); refine ev_local (by rfl) ?_)
  ((with_reducible show EvA _ _ _ _ _ _ [] _ _ _); refine eva_nil ?_)
  refine bf_len_str (size_le (by omega)) ?_
  ((with_reducible show EvE _ _ _ _ _ (.Name _ _) _ _ _); first | refine ev_tname (by assumption) ?_ | refine ev_gname (by assumption) ?_)
  ((with_reducible show ∃ c, CmpG _ _ _ _ _ _ c ∧ _); refine ⟨_, Cmp.gen (by constructor), ?_⟩)
  have log200 : (200 : Int).natAbs.log2 < 1920 := by decide
  by_cases h2 : x.length ≤ 200
  · refine if_ff (decide_eq_false (by omega)) ?_
    refine evsV_nil ?_
    refine evsV_cons (evxV_if ?_)
    ((with_reducible show EvB _ _ _ _ _ (.UnaryOp .Not _ _) _ _ _); refine evb_not ?_)
    ((with_reducible show EvB _ _ _ _ _ (.Call _ _ _ _) _ _ _); refine evb_val ?_)
    ((with_reducible show EvE _ _ _ _ _ (.Call (.Attribute _ "isprintable" _) [] _ _) _ _ _); refine ev_meth0 PySem.F.plainAttrs_str PySem.F.slot_str_isprintable PySem.F.type_str_isprintable ?_)
    ((with_reducible show EvE _ _ _ _ _ (.Name _ _) _ _ _); refine ev_local (by rfl) ?_)
    ((with_reducible show Kd _ _ _ ∧ _); first | refine ⟨Kd.list (by walk_at "mv_mem") (by rfl), ?_⟩ | refine ⟨Kd.dict (by walk_at "mv_mem") (by rfl), ?_⟩ | refine ⟨Kd.str _, ?_⟩)
    refine bf_isprintable ?_
    ((with_reducible show ∃ b, Tru (.bool _) b ∧ _); refine ⟨_, Tru.bool _, ?_⟩)
    cases hp : Txt.isprintable x
    · refine if_tt rfl ?_
      refine evsV_cons (evxV_raise BV ?_)
      ((with_reducible show EvA _ _ _ _ _ _ (_ :: _) _ _ _); refine eva_cons ?_)
      ((with_reducible show EvE _ _ _ _ _ (.JoinedStr _ _) _ _ _); refine ev_joinedL ?_)
      ((with_reducible show EvJL _ _ _ _ _ _ (_ :: _) _ _ _); refine evjL_cons ?_)
      ((with_reducible show EvE _ _ _ _ _ (.Constant (.str _) _ _) _ _ _); refine ev_str ?_)
      refine ⟨_, rfl, size_le (by decide), ?_⟩
      ((with_reducible show EvJL _ _ _ _ _ _ (_ :: _) _ _ _); refine evjL_cons ?_)
      ((with_reducible show EvE _ _ _ _ _ (.FormattedValue _ 97 none _) _ _ _); refine ev_fmt_a ?_)
      ((with_reducible show EvE _ _ _ _ _ (.Name _ _) _ _ _); refine ev_local (by rfl) ?_)
      refine ⟨x, rfl, hw.shown.resolve_left (by rw [hp]; simp), hw.small, fun y hy => ?_⟩
      have h47 : (Str.ofString "a name may hold printable characters only: ").length = 43 := by decide
      refine ⟨_, rfl, size_le ?_, ?_⟩
      · show 0 + (Str.ofString "a name may hold printable characters only: ").length + y.length ≤ _
        omega
      intro text htx
      ((with_reducible show EvA _ _ _ _ _ _ [] _ _ _); refine eva_nil ?_)
      refine ⟨by simp, σ, SubP.refl _, hx (by unfold nameOk; rw [hp, Bool.and_false]) text ?_⟩
      have htx' : text.length = 0 + (Str.ofString "a name may hold printable characters only: ").length + y.length := htx
      omega
    · refine if_ff rfl ?_
      refine evsV_nil ?_
      refine evsV_cons (EvSt.toV ?_)
      ((with_reducible show EvX _ _ _ _ _ (.Return (some _) _) _ _ _); refine evx_ret ?_)
      ((with_reducible show EvE _ _ _ _ _ (.Name _ _) _ _ _); refine ev_local (by rfl) ?_)
      exact ⟨_, SubP.refl _, hq (by unfold nameOk; rw [hp, decide_eq_true h2]; rfl)⟩
  · refine if_tt (decide_eq_true (by omega)) ?_
    refine evsV_cons (evxV_raise BV ?_)
    ((with_reducible show EvA _ _ _ _ _ _ (_ :: _) _ _ _); refine eva_cons ?_)
    ((with_reducible show EvE _ _ _ _ _ (.JoinedStr _ _) _ _ _); refine ev_joinedL ?_)
    ((with_reducible show EvJL _ _ _ _ _ _ (_ :: _) _ _ _); refine evjL_cons ?_)
    ((with_reducible show EvE _ _ _ _ _ (.Constant (.str _) _ _) _ _ _); refine ev_str ?_)
    refine ⟨_, rfl, size_le (by decide), ?_⟩
    ((with_reducible show EvJL _ _ _ _ _ _ (_ :: _) _ _ _); refine evjL_cons ?_)
    ((with_reducible show EvE _ _ _ _ _ (.FormattedValue _ _ none _) _ _ _); refine ev_fmt ?_)
    ((with_reducible show EvE _ _ _ _ _ (.Name _ _) _ _ _); first | refine ev_tname (by assumption) ?_ | refine ev_gname (by assumption) ?_)
    ((with_reducible show ∃ i, V.int _ = V.int i ∧ _); refine ⟨_, rfl, ?_⟩)
    refine ⟨log200, ?_⟩
    refine ⟨_, rfl, size_le (by decide), ?_⟩
    ((with_reducible show EvJL _ _ _ _ _ _ (_ :: _) _ _ _); refine evjL_cons ?_)
    ((with_reducible show EvE _ _ _ _ _ (.Constant (.str _) _ _) _ _ _); refine ev_str ?_)
    refine ⟨_, rfl, size_le (by decide), ?_⟩
    intro text htx
    ((with_reducible show EvA _ _ _ _ _ _ [] _ _ _); refine eva_nil ?_)
    exact ⟨by simp, σ, SubP.refl _, hx (by unfold nameOk; rw [decide_eq_false h2, Bool.false_and]) text (by rw [htx]; decide)⟩
end
section
variable {prog : Program} {w : World} {Bs : Heap} {k : Nat} {σ : St} {mg mb : Str → Option Value}

abbrev NextOk (text : Str) (ops la : Addr) (old lv : List V) (σ : St) (ws : List Str) (f : Fl) (m1 : Env') (σ1 : St) : Prop :=
  f = .next ∧ leE [("text", .str text), ("ops", .ref ops)] m1 ∧ ∃ ts, lineO ws = some ts ∧ SubP ((ops, .list (old ++ ts.map op3)) :: (la, .list lv) :: σ) σ1
abbrev ExcOk (X : Bool → V → St → Prop) (fr : Bool) (av : V) (m1 : Env') (σ1 : St) : Prop :=
  fr = true ∧ ∃ (msg : Str) (num : Int), av = .tup [.str msg] ∧ m1.lookup ("number" : Str) = some (.int num) ∧ num.natAbs.log2 < 1920 ∧ (Str.empty ++ "line " ++ Str.ofString (toString num) ++ ": " ++ msg).length ≤ sizeLine ∧ ∃ σ'', SubP σ'' σ1 ∧ X false (.tup [.str (Str.empty ++ "line " ++ Str.ofString (toString num) ++ ": " ++ msg)]) σ''
theorem bind_read {pm code doc : Value} : ∀ cvs : List Value, cvs.length = 1 → bindArgs (docDef (defAt pw_k6_0113 7).name (defAt pw_k6_0113 7).params (defAt pw_k6_0113 7).body (defAt pw_k6_0113 7).scope pm code doc) ⟨cvs, []⟩ = pure ((["text"] : List Str).zip cvs)
  | [a], _ => rfl
theorem read_spec {text : Str} {f : Addr} {pm code doc : Value} {fn : Addr} {pmn coden docn : Value} {fs : Addr} {pms codes docs : Value} {fp : Addr} {pmp codep docp : Value} {fk : Addr} {pmk codek dock : Value} {Q : V → St → Prop} {X : Bool → V → St → Prop} (C : Ctx Bs mg mb) (F : FnAt Bs mg "read_trace" (defAt pw_k6_0113 7) f pm code doc)
    (hN : FnAt Bs mg "check_name" (defAt pw_k6_0113 3) fn pmn coden docn) (hS : FnAt Bs mg "parse_signed" (defAt pw_k6_0113 6) fs pms codes docs) (hP : FnAt Bs mg "parse_number" (defAt pw_k6_0113 5) fp pmp codep docp) (hK : FnAt Bs mg "check_number" (defAt pw_k6_0113 4) fk pmk codek dock)
    (BI : BIs Bs mg mb "isinstance" (.builtin "isinstance")) (Bi : BIs Bs mg mb "int" (.type "int")) (Bb : BIs Bs mg mb "bool" (.type "bool")) (Bs' : BIs Bs mg mb "str" (.type "str")) (BL : BIs Bs mg mb "len" (.builtin "len")) (BE : BIs Bs mg mb "enumerate" (.type "enumerate")) (BV : BIs Bs mg mb "ValueError" (.type "ValueError")) (GN : GIs Bs mg mb "MAX_NAME" (.int 200)) (GM : GIs Bs mg mb "MAX_NUMBER" (.int MXN))
    (lns : List (Str × List Str)) (hs : Txt.split text "\n" = lns.map (·.1)) (hok : ∀ p ∈ lns, LnOk p.1 p.2) (hn : lns.length ≤ 20) (hz : text.length ≤ 50000)
    (hq : (∀ p ∈ lns, lineO p.2 ≠ none) → ∀ a, Q (.ref a) ((a, .list ((opsOf lns).map op3)) :: σ))
    (hx : ∀ pre p post, lns = pre ++ p :: post → (∀ q ∈ pre, lineO q.2 ≠ none) → lineO p.2 = none → ∀ msg : Str, msg.length ≤ 30000 → X false (.tup [.str (lineMsg (pre.length + 1) msg)]) σ) :
    EvFV prog w Bs (k + 4) (.ref f) [.str text] σ Q X := by
  refine evfV_c (xs := ["text"]) C F bind_read rfl (by decide) [("text", .str text)] (fun L => σ) rfl (fun L => rfl) fun L => ?_
  refine evsV_cons (EvSt.toV ?_)
  ((with_reducible show EvX _ _ _ _ _ (.Assign [.Name _ _] _ _) _ _ _); first | refine evx_assign ?_ | refine evx_assign_cell (by rfl) ?_)
  ((with_reducible show EvE _ _ _ _ _ (.List _ _) _ _ _); refine ev_list ?_)
  ((with_reducible show EvA _ _ _ _ _ _ [] _ _ _); refine eva_nil ?_)
  ((with_reducible show List.length _ ≤ sizeLine ∧ _); refine ⟨len_ok (by simp), ?_⟩)
  intro ops
  refine evsV_cons (evxV_for_enum1 ?_)
  ((with_reducible show EvE _ _ _ _ _ (.Call (.Name _ _) (_ :: _) [] _) _ _ _); first | refine ev_bfn (by assumption) ?_ | refine ev_tfn (by assumption) ?_ | refine ev_fn (by assumption) (by assumption) ?_)
  ((with_reducible show EvA _ _ _ _ _ _ (_ :: _) _ _ _); refine eva_cons ?_)
  ((with_reducible show EvE _ _ _ _ _ (.Call (.Attribute _ "split" _) (_ :: _) _ _) _ _ _); refine ev_meth PySem.F.plainAttrs_str PySem.F.slot_str_split PySem.F.type_str_split ?_)
  ((with_reducible show EvE _ _ _ _ _ (.Name _ _) _ _ _); refine ev_local (by rfl) ?_)
  ((with_reducible show Kd _ _ _ ∧ _); first | refine ⟨Kd.list (by walk_at "mv_mem") (by rfl), ?_⟩ | refine ⟨Kd.dict (by walk_at "mv_mem") (by rfl), ?_⟩ | refine ⟨Kd.str _, ?_⟩)
  ((with_reducible show EvA _ _ _ _ _ _ (_ :: _) _ _ _); refine eva_cons ?_)
  ((with_reducible show EvE _ _ _ _ _ (.Constant (.str _) _ _) _ _ _); refine ev_str ?_)
  ((with_reducible show EvA _ _ _ _ _ _ [] _ _ _); refine eva_nil ?_)
  refine bf_split1 rfl (size_le (by omega)) (size_le (Nat.le_trans (parts_few _ _) (by omega))) fun la => ?_
  ((with_reducible show EvA _ _ _ _ _ _ (_ :: _) _ _ _); refine eva_cons ?_)
  ((with_reducible show EvE _ _ _ _ _ (.Constant (.int _) _ _) _ _ _); refine ev_int ?_)
  ((with_reducible show EvA _ _ _ _ _ _ [] _ _ _); refine eva_nil ?_)
  rw [hs]
  refine bf_enum1 (ob := .list ((lns.map (·.1)).map .str)) (by walk_at "mv_mem") rfl fun e it => ?_
  refine ⟨e, it, la, _, _, _, rfl, rfl, by walk_at "mv_mem", rfl, ?_⟩
  have key : ∀ (Qf : Fl → Env' → St → Prop), (∀ m σ', (∀ q ∈ lns, lineO q.2 ≠ none) → leE [("text", .str text), ("ops", .ref ops)] m → SubP ((ops, .list ((opsOf lns).map op3)) :: (la, .list ((lns.map (·.1)).map .str)) :: σ) σ' → Qf .next m σ') → ∀ (post pre : List (Str × List Str)) (m : Env') (σ' : St), lns = pre ++ post → (∀ q ∈ pre, lineO q.2 ≠ none) → leE [("text", .str text), ("ops", .ref ops)] m → SubP ((ops, .list ((opsOf pre).map op3)) :: (la, .list ((lns.map (·.1)).map .str)) :: σ) σ' →
      ForBV prog w Bs (k + 3) (callEnvC (docDef (defAt pw_k6_0113 7).name (defAt pw_k6_0113 7).params (defAt pw_k6_0113 7).body (defAt pw_k6_0113 7).scope pm code doc) L f) (bndT ["number", "line"])
        (match (defAt pw_k6_0113 7).body with | [_, .For _ _ b _ _, _] => b | _ => []) (fun σ => (la, O.list ((lns.map (·.1)).map .str)) ∈ σ)
        Qf
        (fun fr av _ σ' => ∃ σ'', SubP σ'' σ' ∧ X fr av σ'') (enumV (pre.length + 1) ((post.map (·.1)).map .str)) m σ' := by
    intro Qf hnil post
    induction post with
    | nil =>
      intro pre m σ' he hp hm hsub
      rw [List.append_nil] at he
      subst he
      exact hnil m σ' hp hm hsub
    | cons p post ih =>
      intro pre m σ' he hp hm hsub
      obtain ⟨x, ws⟩ := p
      have hln : LnOk x ws := hok (x, ws) (by rw [he]; simp)
      have hlx := hln.len
      have hol := opsOf_len pre
      have hpl : pre.length + (post.length + 1) = lns.length := by rw [he]; simp
      have ih' := fun m σ' (hl : lineO ws ≠ none) h1 h2 => ih (pre ++ [(x, ws)]) m σ' (by rw [he]; simp) (fun q hq' => by
        rcases List.mem_append.mp hq' with hq' | hq'
        · exact hp q hq'
        · rw [List.mem_singleton.mp hq']; exact hl) h1 h2
      rw [opsOf_snoc, List.map_append] at ih'
      have e1 : (pre ++ [(x, ws)]).length + 1 = pre.length + 1 + 1 := by simp
      rw [e1] at ih'
      obtain ⟨m1, m2, _⟩ := hm
      show EvStV _ _ _ _ _ _ (mset (mset m "number" (.int ((pre.length + 1 : Nat) : Int))) "line" (.str x)) σ' _ _
      refine EvStV.weak (m1 := [("text", .str text), ("ops", .ref ops), ("number", .int ((pre.length + 1 : Nat) : Int)), ("line", .str x)]) ⟨by rw [lookup_mset, if_neg (show ¬ ((("text" : Str) == ("line" : Str)) = true) by decide), lookup_mset, if_neg (show ¬ ((("text" : Str) == ("number" : Str)) = true) by decide)]; exact m1, by rw [lookup_mset, if_neg (show ¬ ((("ops" : Str) == ("line" : Str)) = true) by decide), lookup_mset, if_neg (show ¬ ((("ops" : Str) == ("number" : Str)) = true) by decide)]; exact m2, by rw [lookup_mset, if_neg (show ¬ ((("number" : Str) == ("line" : Str)) = true) by decide), lookup_mset, if_pos (show ((("number" : Str) == ("number" : Str)) = true) by decide)], by rw [lookup_mset, if_pos (show ((("line" : Str) == ("line" : Str)) = true) by decide)], trivial⟩ hsub ?_
      clear hsub m1 m2
      refine evsV_cons (EvSt.toV ?_)
      ((with_reducible show EvX _ _ _ _ _ (.Assign [.Name _ _] _ _) _ _ _); first | refine evx_assign ?_ | refine evx_assign_cell (by rfl) ?_)
      ((with_reducible show EvE _ _ _ _ _ (.Call (.Attribute _ "split" _) [] _ _) _ _ _); refine ev_meth0 PySem.F.plainAttrs_str PySem.F.slot_str_split PySem.F.type_str_split ?_)
      ((with_reducible show EvE _ _ _ _ _ (.Name _ _) _ _ _); refine ev_local (by rfl) ?_)
      ((with_reducible show Kd _ _ _ ∧ _); first | refine ⟨Kd.list (by walk_at "mv_mem") (by rfl), ?_⟩ | refine ⟨Kd.dict (by walk_at "mv_mem") (by rfl), ?_⟩ | refine ⟨Kd.str _, ?_⟩)
      refine bf_split0 (size_le (by omega)) (size_le (Nat.le_trans hln.few (by omega))) fun wd => ?_
      rw [hln.words]
      have hev := hln.each
      have hfew : ws.length ≤ 1001 := by
        have := StrLaws.words_weight x
        rw [hln.words] at this
        omega
      have go := fun ts (hts : lineO ws = some ts) m σ' h1 (h2 : SubP ((ops, .list ((opsOf pre).map op3 ++ ts.map op3)) :: (la, .list ((lns.map (·.1)).map .str)) :: σ) σ') => And.intro (h2.subset (.tail _ (.head _))) (ih' m σ' (by rw [hts]; simp) h1 (by rw [hts]; exact h2))
      have bad : lineO ws = none → ∀ msg : Str, msg.length ≤ 30000 → X false (.tup [.str (lineMsg (pre.length + 1) msg)]) σ := fun hl msg hm => hx pre (x, ws) post he hp hl msg hm
      have hlog : ((pre.length + 1 : Nat) : Int).natAbs.log2 < 1920 := log_ok (by omega)
      have htl : (Str.ofString (toString ((pre.length + 1 : Nat) : Int))).length ≤ 30 := tx_len (by omega)
      have hml : ∀ msg : Str, msg.length ≤ 30000 → (Str.empty ++ "line " ++ Str.ofString (toString ((pre.length + 1 : Nat) : Int)) ++ ": " ++ msg).length ≤ sizeLine := fun msg hm => size_le (by
        have e0 : (Str.empty).length = 0 := rfl
        have e1 : (": " : Str).length = 2 := by decide
        simp only [strLen_append, l_line, e0, e1]
        omega)
      clear ih' ih
      refine evsV_cons (evxV_if ?_)
      refine evb_or (all_or_cons (evb_not (evb_list ?_)))
      ((with_reducible show EvE _ _ _ _ _ (.Name _ _) _ _ _); refine ev_local (by rfl) ?_)
      refine ⟨wd, _, _, rfl, by walk_at "mv_mem", rfl, by simp; omega, ?_⟩
      cases ws with
      | nil =>
        refine if_tt rfl ?_
        refine if_tt rfl ?_
        refine evsV_cons (EvSt.toV ?_)
        ((with_reducible show EvX _ _ _ _ _ (.Continue _) _ _ _); refine evx_continue ?_)
        exact go [] rfl _ _ (by walk_at "mv_le") (by simp only [List.map_nil, List.append_nil]; walk_at "mv_sub")
      | cons w0 r =>
        have hw0 := hev w0 (.head _)
        refine if_ff rfl ?_
        ((with_reducible show Ev _ _ _ _ _ _ (allTrue .Or (_ :: _) _) _ _ _); refine all_or_cons ?_)
        ((with_reducible show EvB _ _ _ _ _ (.Call _ _ _ _) _ _ _); refine evb_val ?_)
        ((with_reducible show EvE _ _ _ _ _ (.Call (.Attribute _ "startswith" _) _ _ _) _ _ _); refine ev_meth PySem.F.plainAttrs_str PySem.F.slot_str_startswith PySem.F.type_str_startswith ?_)
        ((with_reducible show EvE _ _ _ _ _ (.Subscript _ _ _) _ _ _); refine ev_item ?_)
        ((with_reducible show EvE _ _ _ _ _ (.Name _ _) _ _ _); refine ev_local (by rfl) ?_)
        ((with_reducible show EvE _ _ _ _ _ (.Constant (.int _) _ _) _ _ _); refine ev_int ?_)
        refine ⟨_, Item.list (by walk_at "mv_mem") rfl (by decide) (by decide) (v := .str w0) rfl, ?_⟩
        ((with_reducible show Kd _ _ _ ∧ _); first | refine ⟨Kd.list (by walk_at "mv_mem") (by rfl), ?_⟩ | refine ⟨Kd.dict (by walk_at "mv_mem") (by rfl), ?_⟩ | refine ⟨Kd.str _, ?_⟩)
        ((with_reducible show EvA _ _ _ _ _ _ (_ :: _) _ _ _); refine eva_cons ?_)
        ((with_reducible show EvE _ _ _ _ _ (.Constant (.str _) _ _) _ _ _); refine ev_str ?_)
        ((with_reducible show EvA _ _ _ _ _ _ [] _ _ _); refine eva_nil ?_)
        refine bf_startswith ?_
        ((with_reducible show ∃ b, Tru (.bool _) b ∧ _); refine ⟨_, Tru.bool _, ?_⟩)
        cases hsw : Txt.startswith w0 "#"
        · refine if_ff rfl ?_
          ((with_reducible show Ev _ _ _ _ _ _ (allTrue .Or [] _) _ _ _); refine all_or_nil ?_)
          ((with_reducible show ite _ _ _); first | refine if_tt (by rfl) ?_ | refine if_ff (by rfl) ?_)
          refine evsV_nil ?_
          refine evsV_cons (evxV_try_from BV (EvStV.mono (Q := NextOk text ops la ((opsOf pre).map op3) ((lns.map (·.1)).map .str) σ (w0 :: r)) (X := ExcOk X) ?_ (fun f' m1 σ1 h => by
            obtain ⟨rfl, h1, ts, h2, h3⟩ := h
            exact evsV_nil (go ts h2 m1 σ1 h1 h3)) fun _ _ _ _ h => h))
          have lens : (((w0 :: r).map V.str).length : Int) = (r.length + 1 : Nat) := by simp
          have wrong : ∀ {Qn : Fl → Env' → St → Prop}, lineO (w0 :: r) = none → EvStV prog w Bs (k + 3) (callEnvC (docDef (defAt pw_k6_0113 7).name (defAt pw_k6_0113 7).params (defAt pw_k6_0113 7).body (defAt pw_k6_0113 7).scope pm code doc) L f)
              (execs (match (defAt pw_k6_0113 7).body with | [_, .For _ _ [_, _, .Try [.If _ _ [.If _ _ b _] _] _ _ _ _] _ _, _] => b | _ => []) (callEnvC (docDef (defAt pw_k6_0113 7).name (defAt pw_k6_0113 7).params (defAt pw_k6_0113 7).body (defAt pw_k6_0113 7).scope pm code doc) L f))
              [("text", .str text), ("ops", .ref ops), ("number", .int ((pre.length + 1 : Nat) : Int)), ("line", .str x), ("words", .ref wd)] ((wd, .list ((w0 :: r).map .str)) :: (ops, .list ((opsOf pre).map op3)) :: (la, .list ((lns.map (·.1)).map .str)) :: σ) Qn
              (ExcOk X) := by
            intro Qn hl
            refine evsV_cons (evxV_raise BV ?_)
            ((with_reducible show EvA _ _ _ _ _ _ (_ :: _) _ _ _); refine eva_cons ?_)
            ((with_reducible show EvE _ _ _ _ _ (.Constant (.str _) _ _) _ _ _); refine ev_str ?_)
            ((with_reducible show EvA _ _ _ _ _ _ [] _ _ _); refine eva_nil ?_)
            exact ⟨by simp, rfl, _, _, rfl, rfl, hlog, hml _ (by decide), σ, by walk_at "mv_sub", bad hl _ (by decide)⟩
          refine evsV_cons (evxV_if ?_)
          ((with_reducible show EvB _ _ _ _ _ (.BoolOp .And _ _) _ _ _); refine evb_and ?_)
          ((with_reducible show Ev _ _ _ _ _ _ (allTrue .And (_ :: _) _) _ _ _); refine all_and_cons ?_)
          ((with_reducible show EvB _ _ _ _ _ (.Compare _ _ _ _) _ _ _); refine evb_cmpG ?_)
          ((with_reducible show EvE _ _ _ _ _ (.Subscript _ _ _) _ _ _); refine ev_item ?_)
          ((with_reducible show EvE _ _ _ _ _ (.Name _ _) _ _ _); refine ev_local (by rfl) ?_)
          ((with_reducible show EvE _ _ _ _ _ (.Constant (.int _) _ _) _ _ _); refine ev_int ?_)
          refine ⟨_, Item.list (by walk_at "mv_mem") rfl (by decide) (by decide) (v := .str w0) rfl, ?_⟩
          ((with_reducible show EvE _ _ _ _ _ (.Constant (.str _) _ _) _ _ _); refine ev_str ?_)
          ((with_reducible show ∃ c, CmpG _ _ _ _ _ _ c ∧ _); refine ⟨_, Cmp.gen (by constructor), ?_⟩)
          have put : ¬ (w0 = "get" ∧ r.length = 1) → EvStV prog w Bs (k + 3) (callEnvC (docDef (defAt pw_k6_0113 7).name (defAt pw_k6_0113 7).params (defAt pw_k6_0113 7).body (defAt pw_k6_0113 7).scope pm code doc) L f)
              (execs (match (defAt pw_k6_0113 7).body with | [_, .For _ _ [_, _, .Try [.If _ _ b _] _ _ _ _] _ _, _] => b | _ => []) (callEnvC (docDef (defAt pw_k6_0113 7).name (defAt pw_k6_0113 7).params (defAt pw_k6_0113 7).body (defAt pw_k6_0113 7).scope pm code doc) L f))
              [("text", .str text), ("ops", .ref ops), ("number", .int ((pre.length + 1 : Nat) : Int)), ("line", .str x), ("words", .ref wd)] ((wd, .list ((w0 :: r).map .str)) :: (ops, .list ((opsOf pre).map op3)) :: (la, .list ((lns.map (·.1)).map .str)) :: σ)
              (NextOk text ops la ((opsOf pre).map op3) ((lns.map (·.1)).map .str) σ (w0 :: r))
              (ExcOk X) := by
            intro hg
            refine evsV_cons (evxV_if ?_)
            ((with_reducible show EvB _ _ _ _ _ (.BoolOp .And _ _) _ _ _); refine evb_and ?_)
            ((with_reducible show Ev _ _ _ _ _ _ (allTrue .And (_ :: _) _) _ _ _); refine all_and_cons ?_)
            ((with_reducible show EvB _ _ _ _ _ (.Compare _ _ _ _) _ _ _); refine evb_cmpG ?_)
            ((with_reducible show EvE _ _ _ _ _ (.Subscript _ _ _) _ _ _); refine ev_item ?_)
            ((with_reducible show EvE _ _ _ _ _ (.Name _ _) _ _ _); refine ev_local (by rfl) ?_)
            ((with_reducible show EvE _ _ _ _ _ (.Constant (.int _) _ _) _ _ _); refine ev_int ?_)
            refine ⟨_, Item.list (by walk_at "mv_mem") rfl (by decide) (by decide) (v := .str w0) rfl, ?_⟩
            ((with_reducible show EvE _ _ _ _ _ (.Constant (.str _) _ _) _ _ _); refine ev_str ?_)
            ((with_reducible show ∃ c, CmpG _ _ _ _ _ _ c ∧ _); refine ⟨_, Cmp.gen (by constructor), ?_⟩)
            by_cases hp0 : w0 = "put"
            · refine if_tt (decide_eq_true hp0) ?_
              ((with_reducible show Ev _ _ _ _ _ _ (allTrue .And (_ :: _) _) _ _ _); refine all_and_cons ?_)
              ((with_reducible show EvB _ _ _ _ _ (.Compare _ _ _ _) _ _ _); refine evb_cmpG ?_)
              ((with_reducible show EvE _ _ _ _ _ (.Call (.Name _ _) (_ :: _) [] _) _ _ _); first | refine ev_bfn (by assumption) ?_ | refine ev_tfn (by assumption) ?_ | refine ev_fn (by assumption) (by assumption) ?_)
              ((with_reducible show EvA _ _ _ _ _ _ (_ :: _) _ _ _); refine eva_cons ?_)
              ((with_reducible show EvE _ _ _ _ _ (.Name _ _) _ _ _); refine ev_local (by rfl) ?_)
              ((with_reducible show EvA _ _ _ _ _ _ [] _ _ _); refine eva_nil ?_)
              refine bf_len_list (by walk_at "mv_mem") rfl (size_le (by simp at hfew ⊢; omega)) ?_
              ((with_reducible show EvE _ _ _ _ _ (.Constant (.int _) _ _) _ _ _); refine ev_int ?_)
              ((with_reducible show ∃ c, CmpG _ _ _ _ _ _ c ∧ _); refine ⟨_, Cmp.gen (by constructor), ?_⟩)
              rw [lens]
              by_cases hp1 : r.length = 2
              · refine if_tt (decide_eq_true (by omega)) ?_
                ((with_reducible show Ev _ _ _ _ _ _ (allTrue .And [] _) _ _ _); refine all_and_nil ?_)
                ((with_reducible show ite _ _ _); first | refine if_tt (by rfl) ?_ | refine if_ff (by rfl) ?_)
                obtain ⟨n, v, rfl⟩ : ∃ n v, r = [n, v] := by
                  match r, hp1 with
                  | [n, v], _ => exact ⟨n, v, rfl⟩
                subst hp0
                refine evsV_cons (evxV_expr (evV_meth PySem.F.plainAttrs_list PySem.F.slot_list_append PySem.F.type_list_append ?_))
                ((with_reducible show EvE _ _ _ _ _ (.Name _ _) _ _ _); refine ev_local (by rfl) ?_)
                ((with_reducible show Kd _ _ _ ∧ _); first | refine ⟨Kd.list (by walk_at "mv_mem") (by rfl), ?_⟩ | refine ⟨Kd.dict (by walk_at "mv_mem") (by rfl), ?_⟩ | refine ⟨Kd.str _, ?_⟩)
                refine evaV_cons (evV_tuple (evaV_cons (Ev.toV (ev_str ?_))))
                refine evaV_cons (evV_fn C hN ?_)
                ((with_reducible show EvA _ _ _ _ _ _ (_ :: _) _ _ _); refine eva_cons ?_)
                ((with_reducible show EvE _ _ _ _ _ (.Subscript _ _ _) _ _ _); refine ev_item ?_)
                ((with_reducible show EvE _ _ _ _ _ (.Name _ _) _ _ _); refine ev_local (by rfl) ?_)
                ((with_reducible show EvE _ _ _ _ _ (.Constant (.int _) _ _) _ _ _); refine ev_int ?_)
                refine ⟨_, Item.list (by walk_at "mv_mem") rfl (by decide) (by decide) (v := .str n) rfl, ?_⟩
                ((with_reducible show EvA _ _ _ _ _ _ [] _ _ _); refine eva_nil ?_)
                refine cname_spec C hN BI Bs' BL BV GN (hev n (by simp)) (fun hnm => ?_) fun hnm msg hmsg => ⟨rfl, msg, _, rfl, rfl, hlog, hml _ hmsg, σ, by walk_at "mv_sub", bad (by rw [line_put, hnm]; rfl) msg hmsg⟩
                refine evaV_cons (evV_fn C hS ?_)
                ((with_reducible show EvA _ _ _ _ _ _ (_ :: _) _ _ _); refine eva_cons ?_)
                ((with_reducible show EvE _ _ _ _ _ (.Subscript _ _ _) _ _ _); refine ev_item ?_)
                ((with_reducible show EvE _ _ _ _ _ (.Name _ _) _ _ _); refine ev_local (by rfl) ?_)
                ((with_reducible show EvE _ _ _ _ _ (.Constant (.int _) _ _) _ _ _); refine ev_int ?_)
                refine ⟨_, Item.list (by walk_at "mv_mem") rfl (by decide) (by decide) (v := .str v) rfl, ?_⟩
                ((with_reducible show EvA _ _ _ _ _ _ [] _ _ _); refine eva_nil ?_)
                have hwv := hev v (by simp)
                refine psig_spec C hS hP hK BI Bi Bb Bs' BL BV GM (Nat.le_trans hwv.len (by decide)) hwv.small (fun i hi => ?_) fun hi msg hmsg => ⟨rfl, msg, _, rfl, rfl, hlog, hml _ hmsg, σ, by walk_at "mv_sub", bad (by rw [line_put, hnm, hi]; rfl) msg hmsg⟩
                refine evaV_nil ⟨len_ok (by simp), ?_⟩
                refine evaV_nil ?_
                refine bf_append (by walk_at "mv_up") (size_le (by simp; omega)) ⟨.none, ?_⟩
                refine evsV_nil (evsV_nil ?_)
                exact ⟨rfl, by walk_at "mv_le", [("put", n, i)], by rw [line_put, hnm, hi]; rfl, by walk_at "mv_sub"⟩
              · refine if_ff (decide_eq_false (by omega)) ?_
                refine if_ff rfl ?_
                exact wrong (line_bad hsw hg fun h => hp1 h.2)
            · refine if_ff (decide_eq_false hp0) ?_
              refine if_ff rfl ?_
              exact wrong (line_bad hsw hg fun h => hp0 h.1)
          by_cases hg0 : w0 = "get"
          · refine if_tt (decide_eq_true hg0) ?_
            ((with_reducible show Ev _ _ _ _ _ _ (allTrue .And (_ :: _) _) _ _ _); refine all_and_cons ?_)
            ((with_reducible show EvB _ _ _ _ _ (.Compare _ _ _ _) _ _ _); refine evb_cmpG ?_)
            ((with_reducible show EvE _ _ _ _ _ (.Call (.Name _ _) (_ :: _) [] _) _ _ _); first | refine ev_bfn (by assumption) ?_ | refine ev_tfn (by assumption) ?_ | refine ev_fn (by assumption) (by assumption) ?_)
            ((with_reducible show EvA _ _ _ _ _ _ (_ :: _) _ _ _); refine eva_cons ?_)
            ((with_reducible show EvE _ _ _ _ _ (.Name _ _) _ _ _); refine ev_local (by rfl) ?_)
            ((with_reducible show EvA _ _ _ _ _ _ [] _ _ _); refine eva_nil ?_)
            refine bf_len_list (by walk_at "mv_mem") rfl (size_le (by simp at hfew ⊢; omega)) ?_
            ((with_reducible show EvE _ _ _ _ _ (.Constant (.int _) _ _) _ _ _); refine ev_int ?_)
            ((with_reducible show ∃ c, CmpG _ _ _ _ _ _ c ∧ _); refine ⟨_, Cmp.gen (by constructor), ?_⟩)
            rw [lens]
            by_cases hg1 : r.length = 1
            · refine if_tt (decide_eq_true (by omega)) ?_
              ((with_reducible show Ev _ _ _ _ _ _ (allTrue .And [] _) _ _ _); refine all_and_nil ?_)
              ((with_reducible show ite _ _ _); first | refine if_tt (by rfl) ?_ | refine if_ff (by rfl) ?_)
              obtain ⟨n, rfl⟩ : ∃ n, r = [n] := by
                match r, hg1 with
                | [n], _ => exact ⟨n, rfl⟩
              subst hg0
              refine evsV_cons (evxV_expr (evV_meth PySem.F.plainAttrs_list PySem.F.slot_list_append PySem.F.type_list_append ?_))
              ((with_reducible show EvE _ _ _ _ _ (.Name _ _) _ _ _); refine ev_local (by rfl) ?_)
              ((with_reducible show Kd _ _ _ ∧ _); first | refine ⟨Kd.list (by walk_at "mv_mem") (by rfl), ?_⟩ | refine ⟨Kd.dict (by walk_at "mv_mem") (by rfl), ?_⟩ | refine ⟨Kd.str _, ?_⟩)
              refine evaV_cons (evV_tuple (evaV_cons (Ev.toV (ev_str ?_))))
              refine evaV_cons (evV_fn C hN ?_)
              ((with_reducible show EvA _ _ _ _ _ _ (_ :: _) _ _ _); refine eva_cons ?_)
              ((with_reducible show EvE _ _ _ _ _ (.Subscript _ _ _) _ _ _); refine ev_item ?_)
              ((with_reducible show EvE _ _ _ _ _ (.Name _ _) _ _ _); refine ev_local (by rfl) ?_)
              ((with_reducible show EvE _ _ _ _ _ (.Constant (.int _) _ _) _ _ _); refine ev_int ?_)
              refine ⟨_, Item.list (by walk_at "mv_mem") rfl (by decide) (by decide) (v := .str n) rfl, ?_⟩
              ((with_reducible show EvA _ _ _ _ _ _ [] _ _ _); refine eva_nil ?_)
              refine cname_spec C hN BI Bs' BL BV GN (hev n (by simp)) (fun hnm => ?_) fun hnm msg hmsg => ⟨rfl, msg, _, rfl, rfl, hlog, hml _ hmsg, σ, by walk_at "mv_sub", bad (by rw [line_get, hnm]; rfl) msg hmsg⟩
              refine evaV_cons (Ev.toV (ev_int ?_))
              refine evaV_nil ⟨len_ok (by simp), ?_⟩
              refine evaV_nil ?_
              refine bf_append (by walk_at "mv_up") (size_le (by simp; omega)) ⟨.none, ?_⟩
              refine evsV_nil (evsV_nil ?_)
              exact ⟨rfl, by walk_at "mv_le", [("get", n, 0)], by rw [line_get, hnm]; rfl, by walk_at "mv_sub"⟩
            · refine if_ff (decide_eq_false (by omega)) ?_
              refine if_ff rfl ?_
              refine EvStV.mono (put fun h => hg1 h.2) (fun f' m1 σ1 h => by obtain ⟨rfl, h⟩ := h; exact evsV_nil ⟨rfl, h⟩) fun _ _ _ _ h => h
          · refine if_ff (decide_eq_false hg0) ?_
            refine if_ff rfl ?_
            refine EvStV.mono (put fun h => hg0 h.1) (fun f' m1 σ1 h => by obtain ⟨rfl, h⟩ := h; exact evsV_nil ⟨rfl, h⟩) fun _ _ _ _ h => h
        · refine if_tt rfl ?_
          refine if_tt rfl ?_
          refine evsV_cons (EvSt.toV ?_)
          ((with_reducible show EvX _ _ _ _ _ (.Continue _) _ _ _); refine evx_continue ?_)
          exact go [] (line_hash hsw) _ _ (by walk_at "mv_le") (by simp only [List.map_nil, List.append_nil]; walk_at "mv_sub")
  refine key _ (fun m σ' hp hm hsub => ?_) lns [] _ _ rfl (fun q hq' => nomatch hq') ⟨rfl, rfl, trivial⟩ (by walk_at "mv_sub")
  refine EvStV.weak hm hsub ?_
  refine evsV_cons (EvSt.toV ?_)
  ((with_reducible show EvX _ _ _ _ _ (.Return (some _) _) _ _ _); refine evx_ret ?_)
  ((with_reducible show EvE _ _ _ _ _ (.Name _ _) _ _ _); refine ev_local (by rfl) ?_)
  exact ⟨_, by walk_at "mv_sub", hq hp ops⟩
end
section
variable {prog : Program} {w : World} {Bs : Heap} {k : Nat} {σ : St} {mg mb : Str → Option Value}

theorem bind_name {pm code doc : Value} : ∀ cvs : List Value, cvs.length = 1 → bindArgs (docDef (defAt pw_k6_0113 10).name (defAt pw_k6_0113 10).params (defAt pw_k6_0113 10).body (defAt pw_k6_0113 10).scope pm code doc) ⟨cvs, []⟩ = pure ((["n"] : List Str).zip cvs)
  | [a], _ => rfl
theorem name_spec {n : Int} {f : Addr} {pm code doc : Value} {Q : V → St → Prop} (C : Ctx Bs mg mb) (F : FnAt Bs mg "_law_name" (defAt pw_k6_0113 10) f pm code doc) (BC : BIs Bs mg mb "chr" (.builtin "chr")) (hq : Q (.str (nmOf n)) σ) : EvF prog w Bs (k + 1) (.ref f) [.int n] σ Q := by
  refine evf_nc (ps := ["n"]) C F bind_name rfl (by decide) (by decide) fun L => ?_
  refine evs_cons (evx_ret (ev_mulT ?_))
  ((with_reducible show EvE _ _ _ _ _ (.Call (.Name _ _) (_ :: _) [] _) _ _ _); first | refine ev_bfn (by assumption) ?_ | refine ev_tfn (by assumption) ?_ | refine ev_fn (by assumption) (by assumption) ?_)
  ((with_reducible show EvA _ _ _ _ _ _ (_ :: _) _ _ _); refine eva_cons ?_)
  ((with_reducible show EvE _ _ _ _ _ (.BinOp _ .Add _ _) _ _ _); refine ev_addG ?_)
  ((with_reducible show EvE _ _ _ _ _ (.Constant (.int _) _ _) _ _ _); refine ev_int ?_)
  ((with_reducible show EvE _ _ _ _ _ (.BinOp _ .Mod _ _) _ _ _); refine ev_binop ?_)
  ((with_reducible show EvE _ _ _ _ _ (.Name _ _) _ _ _); refine ev_local (by rfl) ?_)
  ((with_reducible show EvE _ _ _ _ _ (.Constant (.int _) _ _) _ _ _); refine ev_int ?_)
  ((with_reducible show ∃ c, Bin .Mod _ _ c ∧ _); refine ⟨_, Bin.mod _ _ (by first | decide | omega), ?_⟩)
  ((with_reducible show AddG _ _ _ (.int _) (.int _) _); refine addG_int ?_)
  ((with_reducible show EvA _ _ _ _ _ _ [] _ _ _); refine eva_nil ?_)
  refine bf_chr (by rw [decide_eq_false (by omega), decide_eq_false (by omega)]; rfl) ?_
  ((with_reducible show EvE _ _ _ _ _ (.Subscript _ _ _) _ _ _); refine ev_item ?_)
  ((with_reducible show EvE _ _ _ _ _ (.List _ _) _ _ _); refine ev_list ?_)
  ((with_reducible show EvA _ _ _ _ _ _ (_ :: _) _ _ _); refine eva_cons ?_)
  ((with_reducible show EvE _ _ _ _ _ (.Constant (.int _) _ _) _ _ _); refine ev_int ?_)
  ((with_reducible show EvA _ _ _ _ _ _ (_ :: _) _ _ _); refine eva_cons ?_)
  ((with_reducible show EvE _ _ _ _ _ (.Constant (.int _) _ _) _ _ _); refine ev_int ?_)
  ((with_reducible show EvA _ _ _ _ _ _ (_ :: _) _ _ _); refine eva_cons ?_)
  ((with_reducible show EvE _ _ _ _ _ (.Constant (.int _) _ _) _ _ _); refine ev_int ?_)
  ((with_reducible show EvA _ _ _ _ _ _ (_ :: _) _ _ _); refine eva_cons ?_)
  ((with_reducible show EvE _ _ _ _ _ (.Constant (.int _) _ _) _ _ _); refine ev_int ?_)
  ((with_reducible show EvA _ _ _ _ _ _ [] _ _ _); refine eva_nil ?_)
  ((with_reducible show List.length _ ≤ sizeLine ∧ _); refine ⟨len_ok (by simp), ?_⟩)
  intro a
  ((with_reducible show EvE _ _ _ _ _ (.BinOp _ .Mod _ _) _ _ _); refine ev_binop ?_)
  ((with_reducible show EvE _ _ _ _ _ (.Name _ _) _ _ _); refine ev_local (by rfl) ?_)
  ((with_reducible show EvE _ _ _ _ _ (.Constant (.int _) _ _) _ _ _); refine ev_int ?_)
  ((with_reducible show ∃ c, Bin .Mod _ _ c ∧ _); refine ⟨_, Bin.mod _ _ (by first | decide | omega), ?_⟩)
  obtain ⟨h0, h1, h2⟩ := nct_at (j := (n % 4).toNat) (by omega)
  refine ⟨_, Item.list (ob := .list (NCT.map .int)) (v := .int (NCT.getD (n % 4).toNat 1)) (by walk_at "mv_mem") rfl (by omega) (by omega) (by rw [List.getElem?_map, h0]; rfl), ?_⟩
  exact ⟨_, _, rfl, rfl, mul_ok1 h1 (by omega), _, by walk_at "mv_sub", hq⟩
theorem bind_sound {pm code doc : Value} : ∀ cvs : List Value, cvs.length = 2 → bindArgs (docDef (defAt pw_k6_0113 11).name (defAt pw_k6_0113 11).params (defAt pw_k6_0113 11).body (defAt pw_k6_0113 11).scope pm code doc) ⟨cvs, []⟩ = pure ((["a", "b"] : List Str).zip cvs)
  | [a, b], _ => rfl
theorem sound_spec {a b : Int} {f : Addr} {pm code doc : Value} {fn : Addr} {pmn coden docn : Value} {Q : V → St → Prop} (C : Ctx Bs mg mb) (F : FnAt Bs mg "_law_sound" (defAt pw_k6_0113 11) f pm code doc) (hN : FnAt Bs mg "_law_name" (defAt pw_k6_0113 10) fn pmn coden docn) (BC : BIs Bs mg mb "chr" (.builtin "chr")) (Bs' : BIs Bs mg mb "str" (.type "str"))
    (hq : ∀ ad, Q (.tup [.str (rT a b), .ref ad]) ((ad, .list ((rO a b).map op3)) :: σ)) : EvF prog w Bs (k + 2) (.ref f) [.int a, .int b] σ Q := by
  refine evf_nc (ps := ["a", "b"]) C F bind_sound rfl (by decide) (by decide) fun L => ?_
  ((with_reducible show EvS _ _ _ _ _ _ _ _ _); refine evs_cons ?_)
  ((with_reducible show EvX _ _ _ _ _ (.Assign [.Name _ _] _ _) _ _ _); first | refine evx_assign ?_ | refine evx_assign_cell (by rfl) ?_)
  ((with_reducible show EvE _ _ _ _ _ (.Call (.Name _ _) (_ :: _) [] _) _ _ _); first | refine ev_bfn (by assumption) ?_ | refine ev_tfn (by assumption) ?_ | refine ev_fn (by assumption) (by assumption) ?_)
  ((with_reducible show EvA _ _ _ _ _ _ (_ :: _) _ _ _); refine eva_cons ?_)
  ((with_reducible show EvE _ _ _ _ _ (.BinOp _ .FloorDiv _ _) _ _ _); refine ev_binop ?_)
  ((with_reducible show EvE _ _ _ _ _ (.Name _ _) _ _ _); refine ev_local (by rfl) ?_)
  ((with_reducible show EvE _ _ _ _ _ (.Constant (.int _) _ _) _ _ _); refine ev_int ?_)
  ((with_reducible show ∃ c, Bin .FloorDiv _ _ c ∧ _); refine ⟨_, Bin.div _ _ (by first | decide | omega) (by first | decide | omega), ?_⟩)
  ((with_reducible show EvA _ _ _ _ _ _ [] _ _ _); refine eva_nil ?_)
  refine name_spec C hN BC ?_
  have hnl := (nm_ok (a / 8)).len
  obtain ⟨v1, v2, v3⟩ := vOf_in b
  obtain ⟨s1, s2, s3⟩ := sOf_in b
  have tv : (Str.ofString (toString (vOf b))).length ≤ 30 := tx_len v3
  have ts : (Str.ofString (toString (sOf b))).length ≤ 30 := tx_len s3
  have ev : b % (2 * 10 ^ (18 : Int).toNat + 1) - 10 ^ (18 : Int).toNat = vOf b := rfl
  have es : b % 1000 = sOf b := rfl
  unfold rT rO at hq
  generalize nmOf (a / 8) = n at *
  ((with_reducible show EvS _ _ _ _ _ (.Assign _ _ _ :: _) _ _ _); refine evs_cons ?_)
  ((with_reducible show EvX _ _ _ _ _ (.Assign [.Name _ _] _ _) _ _ _); first | refine evx_assign ?_ | refine evx_assign_cell (by rfl) ?_)
  ((with_reducible show EvE _ _ _ _ _ (.BinOp _ .Sub _ _) _ _ _); refine ev_binop ?_)
  ((with_reducible show EvE _ _ _ _ _ (.BinOp _ .Mod _ _) _ _ _); refine ev_binop ?_)
  ((with_reducible show EvE _ _ _ _ _ (.Name _ _) _ _ _); refine ev_local (by rfl) ?_)
  ((with_reducible show EvE _ _ _ _ _ (.BinOp _ .Add _ _) _ _ _); refine ev_addG ?_)
  ((with_reducible show EvE _ _ _ _ _ (.BinOp _ .Mult _ _) _ _ _); refine ev_binop ?_)
  ((with_reducible show EvE _ _ _ _ _ (.Constant (.int _) _ _) _ _ _); refine ev_int ?_)
  ((with_reducible show EvE _ _ _ _ _ (.BinOp _ .Pow _ _) _ _ _); refine ev_pow ?_)
  ((with_reducible show EvE _ _ _ _ _ (.Constant (.int _) _ _) _ _ _); refine ev_int ?_)
  ((with_reducible show EvE _ _ _ _ _ (.Constant (.int _) _ _) _ _ _); refine ev_int ?_)
  ((with_reducible show ∃ i n, V.int _ = V.int i ∧ V.int _ = V.int n ∧ _); refine ⟨_, _, rfl, rfl, by decide, by decide, by decide, ?_⟩)
  ((with_reducible show ∃ c, Bin .Mult _ _ c ∧ _); refine ⟨_, Bin.mul _ _ (.of_left (by decide +kernel)), ?_⟩)
  ((with_reducible show EvE _ _ _ _ _ (.Constant (.int _) _ _) _ _ _); refine ev_int ?_)
  ((with_reducible show AddG _ _ _ (.int _) (.int _) _); refine addG_int ?_)
  ((with_reducible show ∃ c, Bin .Mod _ _ c ∧ _); refine ⟨_, Bin.mod _ _ (by first | decide | omega), ?_⟩)
  ((with_reducible show EvE _ _ _ _ _ (.BinOp _ .Pow _ _) _ _ _); refine ev_pow ?_)
  ((with_reducible show EvE _ _ _ _ _ (.Constant (.int _) _ _) _ _ _); refine ev_int ?_)
  ((with_reducible show EvE _ _ _ _ _ (.Constant (.int _) _ _) _ _ _); refine ev_int ?_)
  ((with_reducible show ∃ i n, V.int _ = V.int i ∧ V.int _ = V.int n ∧ _); refine ⟨_, _, rfl, rfl, by decide, by decide, by decide, ?_⟩)
  ((with_reducible show ∃ c, Bin .Sub _ _ c ∧ _); refine ⟨_, Bin.sub _ _, ?_⟩)
  ((with_reducible show EvS _ _ _ _ _ (.Assign _ _ _ :: _) _ _ _); refine evs_cons ?_)
  ((with_reducible show EvX _ _ _ _ _ (.Assign [.Name _ _] _ _) _ _ _); first | refine evx_assign ?_ | refine evx_assign_cell (by rfl) ?_)
  ((with_reducible show EvE _ _ _ _ _ (.BinOp _ .Mod _ _) _ _ _); refine ev_binop ?_)
  ((with_reducible show EvE _ _ _ _ _ (.Name _ _) _ _ _); refine ev_local (by rfl) ?_)
  ((with_reducible show EvE _ _ _ _ _ (.Constant (.int _) _ _) _ _ _); refine ev_int ?_)
  ((with_reducible show ∃ c, Bin .Mod _ _ c ∧ _); refine ⟨_, Bin.mod _ _ (by first | decide | omega), ?_⟩)
  ((with_reducible show EvS _ _ _ _ _ (.Return _ _ :: _) _ _ _); refine evs_cons ?_)
  ((with_reducible show EvX _ _ _ _ _ (.Return (some _) _) _ _ _); refine evx_ret ?_)
  ((with_reducible show EvE _ _ _ _ _ (.Subscript _ _ _) _ _ _); refine ev_item ?_)
  ((with_reducible show EvE _ _ _ _ _ (.List _ _) _ _ _); refine ev_list ?_)
  ((with_reducible show EvA _ _ _ _ _ _ (_ :: _) _ _ _); refine eva_cons ?_)
  ((with_reducible show EvE _ _ _ _ _ (.Tuple _ _ _) _ _ _); refine ev_tuple ?_)
  ((with_reducible show EvA _ _ _ _ _ _ (_ :: _) _ _ _); refine eva_cons ?_)
  ((with_reducible show EvE _ _ _ _ _ (.BinOp _ .Add _ _) _ _ _); refine ev_addG ?_)
  ((with_reducible show EvE _ _ _ _ _ (.Constant (.str _) _ _) _ _ _); refine ev_str ?_)
  ((with_reducible show EvE _ _ _ _ _ (.Name _ _) _ _ _); refine ev_local (by rfl) ?_)
  ((with_reducible show AddG _ _ _ (.str _) (.str _) _); refine addG_str (size_le (by walk_at "mlen")) ?_)
  ((with_reducible show EvA _ _ _ _ _ _ (_ :: _) _ _ _); refine eva_cons ?_)
  ((with_reducible show EvE _ _ _ _ _ (.List _ _) _ _ _); refine ev_list ?_)
  ((with_reducible show EvA _ _ _ _ _ _ (_ :: _) _ _ _); refine eva_cons ?_)
  ((with_reducible show EvE _ _ _ _ _ (.Tuple _ _ _) _ _ _); refine ev_tuple ?_)
  ((with_reducible show EvA _ _ _ _ _ _ (_ :: _) _ _ _); refine eva_cons ?_)
  ((with_reducible show EvE _ _ _ _ _ (.Constant (.str _) _ _) _ _ _); refine ev_str ?_)
  ((with_reducible show EvA _ _ _ _ _ _ (_ :: _) _ _ _); refine eva_cons ?_)
  ((with_reducible show EvE _ _ _ _ _ (.Name _ _) _ _ _); refine ev_local (by rfl) ?_)
  ((with_reducible show EvA _ _ _ _ _ _ (_ :: _) _ _ _); refine eva_cons ?_)
  ((with_reducible show EvE _ _ _ _ _ (.Constant (.int _) _ _) _ _ _); refine ev_int ?_)
  ((with_reducible show EvA _ _ _ _ _ _ [] _ _ _); refine eva_nil ?_)
  ((with_reducible show List.length _ ≤ sizeLine ∧ _); refine ⟨len_ok (by simp), ?_⟩)
  ((with_reducible show EvA _ _ _ _ _ _ [] _ _ _); refine eva_nil ?_)
  ((with_reducible show List.length _ ≤ sizeLine ∧ _); refine ⟨len_ok (by simp), ?_⟩)
  rw [ev, es]
  intro a0
  ((with_reducible show EvA _ _ _ _ _ _ [] _ _ _); refine eva_nil ?_)
  ((with_reducible show List.length _ ≤ sizeLine ∧ _); refine ⟨len_ok (by simp), ?_⟩)
  ((with_reducible show EvA _ _ _ _ _ _ (_ :: _) _ _ _); refine eva_cons ?_)
  ((with_reducible show EvE _ _ _ _ _ (.Tuple _ _ _) _ _ _); refine ev_tuple ?_)
  ((with_reducible show EvA _ _ _ _ _ _ (_ :: _) _ _ _); refine eva_cons ?_)
  ((with_reducible show EvE _ _ _ _ _ (.BinOp _ .Add _ _) _ _ _); refine ev_addG ?_)
  ((with_reducible show EvE _ _ _ _ _ (.BinOp _ .Add _ _) _ _ _); refine ev_addG ?_)
  ((with_reducible show EvE _ _ _ _ _ (.BinOp _ .Add _ _) _ _ _); refine ev_addG ?_)
  ((with_reducible show EvE _ _ _ _ _ (.Constant (.str _) _ _) _ _ _); refine ev_str ?_)
  ((with_reducible show EvE _ _ _ _ _ (.Name _ _) _ _ _); refine ev_local (by rfl) ?_)
  ((with_reducible show AddG _ _ _ (.str _) (.str _) _); refine addG_str (size_le (by walk_at "mlen")) ?_)
  ((with_reducible show EvE _ _ _ _ _ (.Constant (.str _) _ _) _ _ _); refine ev_str ?_)
  ((with_reducible show AddG _ _ _ (.str _) (.str _) _); refine addG_str (size_le (by walk_at "mlen")) ?_)
  ((with_reducible show EvE _ _ _ _ _ (.Call (.Name _ _) (_ :: _) [] _) _ _ _); first | refine ev_bfn (by assumption) ?_ | refine ev_tfn (by assumption) ?_ | refine ev_fn (by assumption) (by assumption) ?_)
  ((with_reducible show EvA _ _ _ _ _ _ (_ :: _) _ _ _); refine eva_cons ?_)
  ((with_reducible show EvE _ _ _ _ _ (.Name _ _) _ _ _); refine ev_local (by rfl) ?_)
  ((with_reducible show EvA _ _ _ _ _ _ [] _ _ _); refine eva_nil ?_)
  refine bf_str_int (log_ok v3) ?_
  ((with_reducible show AddG _ _ _ (.str _) (.str _) _); refine addG_str (size_le (by walk_at "mlen")) ?_)
  ((with_reducible show EvA _ _ _ _ _ _ (_ :: _) _ _ _); refine eva_cons ?_)
  ((with_reducible show EvE _ _ _ _ _ (.List _ _) _ _ _); refine ev_list ?_)
  ((with_reducible show EvA _ _ _ _ _ _ (_ :: _) _ _ _); refine eva_cons ?_)
  ((with_reducible show EvE _ _ _ _ _ (.Tuple _ _ _) _ _ _); refine ev_tuple ?_)
  ((with_reducible show EvA _ _ _ _ _ _ (_ :: _) _ _ _); refine eva_cons ?_)
  ((with_reducible show EvE _ _ _ _ _ (.Constant (.str _) _ _) _ _ _); refine ev_str ?_)
  ((with_reducible show EvA _ _ _ _ _ _ (_ :: _) _ _ _); refine eva_cons ?_)
  ((with_reducible show EvE _ _ _ _ _ (.Name _ _) _ _ _); refine ev_local (by rfl) ?_)
  ((with_reducible show EvA _ _ _ _ _ _ (_ :: _) _ _ _); refine eva_cons ?_)
  ((with_reducible show EvE _ _ _ _ _ (.Name _ _) _ _ _); refine ev_local (by rfl) ?_)
  ((with_reducible show EvA _ _ _ _ _ _ [] _ _ _); refine eva_nil ?_)
  ((with_reducible show List.length _ ≤ sizeLine ∧ _); refine ⟨len_ok (by simp), ?_⟩)
  ((with_reducible show EvA _ _ _ _ _ _ [] _ _ _); refine eva_nil ?_)
  ((with_reducible show List.length _ ≤ sizeLine ∧ _); refine ⟨len_ok (by simp), ?_⟩)
  intro a1
  ((with_reducible show EvA _ _ _ _ _ _ [] _ _ _); refine eva_nil ?_)
  ((with_reducible show List.length _ ≤ sizeLine ∧ _); refine ⟨len_ok (by simp), ?_⟩)
  ((with_reducible show EvA _ _ _ _ _ _ (_ :: _) _ _ _); refine eva_cons ?_)
  ((with_reducible show EvE _ _ _ _ _ (.Tuple _ _ _) _ _ _); refine ev_tuple ?_)
  ((with_reducible show EvA _ _ _ _ _ _ (_ :: _) _ _ _); refine eva_cons ?_)
  ((with_reducible show EvE _ _ _ _ _ (.BinOp _ .Add _ _) _ _ _); refine ev_addG ?_)
  ((with_reducible show EvE _ _ _ _ _ (.BinOp _ .Add _ _) _ _ _); refine ev_addG ?_)
  ((with_reducible show EvE _ _ _ _ _ (.BinOp _ .Add _ _) _ _ _); refine ev_addG ?_)
  ((with_reducible show EvE _ _ _ _ _ (.Constant (.str _) _ _) _ _ _); refine ev_str ?_)
  ((with_reducible show EvE _ _ _ _ _ (.Name _ _) _ _ _); refine ev_local (by rfl) ?_)
  ((with_reducible show AddG _ _ _ (.str _) (.str _) _); refine addG_str (size_le (by walk_at "mlen")) ?_)
  ((with_reducible show EvE _ _ _ _ _ (.Constant (.str _) _ _) _ _ _); refine ev_str ?_)
  ((with_reducible show AddG _ _ _ (.str _) (.str _) _); refine addG_str (size_le (by walk_at "mlen")) ?_)
  ((with_reducible show EvE _ _ _ _ _ (.Call (.Name _ _) (_ :: _) [] _) _ _ _); first | refine ev_bfn (by assumption) ?_ | refine ev_tfn (by assumption) ?_ | refine ev_fn (by assumption) (by assumption) ?_)
  ((with_reducible show EvA _ _ _ _ _ _ (_ :: _) _ _ _); refine eva_cons ?_)
  ((with_reducible show EvE _ _ _ _ _ (.Name _ _) _ _ _); refine ev_local (by rfl) ?_)
  ((with_reducible show EvA _ _ _ _ _ _ [] _ _ _); refine eva_nil ?_)
  refine bf_str_int (log_ok s3) ?_
  ((with_reducible show AddG _ _ _ (.str _) (.str _) _); refine addG_str (size_le (by walk_at "mlen")) ?_)
  ((with_reducible show EvA _ _ _ _ _ _ (_ :: _) _ _ _); refine eva_cons ?_)
  ((with_reducible show EvE _ _ _ _ _ (.List _ _) _ _ _); refine ev_list ?_)
  ((with_reducible show EvA _ _ _ _ _ _ (_ :: _) _ _ _); refine eva_cons ?_)
  ((with_reducible show EvE _ _ _ _ _ (.Tuple _ _ _) _ _ _); refine ev_tuple ?_)
  ((with_reducible show EvA _ _ _ _ _ _ (_ :: _) _ _ _); refine eva_cons ?_)
  ((with_reducible show EvE _ _ _ _ _ (.Constant (.str _) _ _) _ _ _); refine ev_str ?_)
  ((with_reducible show EvA _ _ _ _ _ _ (_ :: _) _ _ _); refine eva_cons ?_)
  ((with_reducible show EvE _ _ _ _ _ (.Name _ _) _ _ _); refine ev_local (by rfl) ?_)
  ((with_reducible show EvA _ _ _ _ _ _ (_ :: _) _ _ _); refine eva_cons ?_)
  ((with_reducible show EvE _ _ _ _ _ (.UnaryOp .USub _ _) _ _ _); refine ev_neg ?_)
  ((with_reducible show EvE _ _ _ _ _ (.Name _ _) _ _ _); refine ev_local (by rfl) ?_)
  ((with_reducible show ∃ i, V.int _ = V.int i ∧ _); refine ⟨_, rfl, ?_⟩)
  ((with_reducible show EvA _ _ _ _ _ _ [] _ _ _); refine eva_nil ?_)
  ((with_reducible show List.length _ ≤ sizeLine ∧ _); refine ⟨len_ok (by simp), ?_⟩)
  ((with_reducible show EvA _ _ _ _ _ _ [] _ _ _); refine eva_nil ?_)
  ((with_reducible show List.length _ ≤ sizeLine ∧ _); refine ⟨len_ok (by simp), ?_⟩)
  intro a2
  ((with_reducible show EvA _ _ _ _ _ _ [] _ _ _); refine eva_nil ?_)
  ((with_reducible show List.length _ ≤ sizeLine ∧ _); refine ⟨len_ok (by simp), ?_⟩)
  ((with_reducible show EvA _ _ _ _ _ _ (_ :: _) _ _ _); refine eva_cons ?_)
  ((with_reducible show EvE _ _ _ _ _ (.Tuple _ _ _) _ _ _); refine ev_tuple ?_)
  ((with_reducible show EvA _ _ _ _ _ _ (_ :: _) _ _ _); refine eva_cons ?_)
  ((with_reducible show EvE _ _ _ _ _ (.Constant (.str _) _ _) _ _ _); refine ev_str ?_)
  ((with_reducible show EvA _ _ _ _ _ _ (_ :: _) _ _ _); refine eva_cons ?_)
  ((with_reducible show EvE _ _ _ _ _ (.List _ _) _ _ _); refine ev_list ?_)
  ((with_reducible show EvA _ _ _ _ _ _ [] _ _ _); refine eva_nil ?_)
  ((with_reducible show List.length _ ≤ sizeLine ∧ _); refine ⟨len_ok (by simp), ?_⟩)
  intro a3
  ((with_reducible show EvA _ _ _ _ _ _ [] _ _ _); refine eva_nil ?_)
  ((with_reducible show List.length _ ≤ sizeLine ∧ _); refine ⟨len_ok (by simp), ?_⟩)
  ((with_reducible show EvA _ _ _ _ _ _ (_ :: _) _ _ _); refine eva_cons ?_)
  ((with_reducible show EvE _ _ _ _ _ (.Tuple _ _ _) _ _ _); refine ev_tuple ?_)
  ((with_reducible show EvA _ _ _ _ _ _ (_ :: _) _ _ _); refine eva_cons ?_)
  ((with_reducible show EvE _ _ _ _ _ (.Constant (.str _) _ _) _ _ _); refine ev_str ?_)
  ((with_reducible show EvA _ _ _ _ _ _ (_ :: _) _ _ _); refine eva_cons ?_)
  ((with_reducible show EvE _ _ _ _ _ (.List _ _) _ _ _); refine ev_list ?_)
  ((with_reducible show EvA _ _ _ _ _ _ [] _ _ _); refine eva_nil ?_)
  ((with_reducible show List.length _ ≤ sizeLine ∧ _); refine ⟨len_ok (by simp), ?_⟩)
  intro a4
  ((with_reducible show EvA _ _ _ _ _ _ [] _ _ _); refine eva_nil ?_)
  ((with_reducible show List.length _ ≤ sizeLine ∧ _); refine ⟨len_ok (by simp), ?_⟩)
  ((with_reducible show EvA _ _ _ _ _ _ (_ :: _) _ _ _); refine eva_cons ?_)
  ((with_reducible show EvE _ _ _ _ _ (.Tuple _ _ _) _ _ _); refine ev_tuple ?_)
  ((with_reducible show EvA _ _ _ _ _ _ (_ :: _) _ _ _); refine eva_cons ?_)
  ((with_reducible show EvE _ _ _ _ _ (.Constant (.str _) _ _) _ _ _); refine ev_str ?_)
  ((with_reducible show EvA _ _ _ _ _ _ (_ :: _) _ _ _); refine eva_cons ?_)
  ((with_reducible show EvE _ _ _ _ _ (.List _ _) _ _ _); refine ev_list ?_)
  ((with_reducible show EvA _ _ _ _ _ _ [] _ _ _); refine eva_nil ?_)
  ((with_reducible show List.length _ ≤ sizeLine ∧ _); refine ⟨len_ok (by simp), ?_⟩)
  intro a5
  ((with_reducible show EvA _ _ _ _ _ _ [] _ _ _); refine eva_nil ?_)
  ((with_reducible show List.length _ ≤ sizeLine ∧ _); refine ⟨len_ok (by simp), ?_⟩)
  ((with_reducible show EvA _ _ _ _ _ _ (_ :: _) _ _ _); refine eva_cons ?_)
  ((with_reducible show EvE _ _ _ _ _ (.Tuple _ _ _) _ _ _); refine ev_tuple ?_)
  ((with_reducible show EvA _ _ _ _ _ _ (_ :: _) _ _ _); refine eva_cons ?_)
  ((with_reducible show EvE _ _ _ _ _ (.BinOp _ .Add _ _) _ _ _); refine ev_addG ?_)
  ((with_reducible show EvE _ _ _ _ _ (.Constant (.str _) _ _) _ _ _); refine ev_str ?_)
  ((with_reducible show EvE _ _ _ _ _ (.Name _ _) _ _ _); refine ev_local (by rfl) ?_)
  ((with_reducible show AddG _ _ _ (.str _) (.str _) _); refine addG_str (size_le (by walk_at "mlen")) ?_)
  ((with_reducible show EvA _ _ _ _ _ _ (_ :: _) _ _ _); refine eva_cons ?_)
  ((with_reducible show EvE _ _ _ _ _ (.List _ _) _ _ _); refine ev_list ?_)
  ((with_reducible show EvA _ _ _ _ _ _ [] _ _ _); refine eva_nil ?_)
  ((with_reducible show List.length _ ≤ sizeLine ∧ _); refine ⟨len_ok (by simp), ?_⟩)
  intro a6
  ((with_reducible show EvA _ _ _ _ _ _ [] _ _ _); refine eva_nil ?_)
  ((with_reducible show List.length _ ≤ sizeLine ∧ _); refine ⟨len_ok (by simp), ?_⟩)
  ((with_reducible show EvA _ _ _ _ _ _ (_ :: _) _ _ _); refine eva_cons ?_)
  ((with_reducible show EvE _ _ _ _ _ (.Tuple _ _ _) _ _ _); refine ev_tuple ?_)
  ((with_reducible show EvA _ _ _ _ _ _ (_ :: _) _ _ _); refine eva_cons ?_)
  ((with_reducible show EvE _ _ _ _ _ (.BinOp _ .Add _ _) _ _ _); refine ev_addG ?_)
  ((with_reducible show EvE _ _ _ _ _ (.Constant (.str _) _ _) _ _ _); refine ev_str ?_)
  ((with_reducible show EvE _ _ _ _ _ (.Name _ _) _ _ _); refine ev_local (by rfl) ?_)
  ((with_reducible show AddG _ _ _ (.str _) (.str _) _); refine addG_str (size_le (by walk_at "mlen")) ?_)
  ((with_reducible show EvA _ _ _ _ _ _ (_ :: _) _ _ _); refine eva_cons ?_)
  ((with_reducible show EvE _ _ _ _ _ (.List _ _) _ _ _); refine ev_list ?_)
  ((with_reducible show EvA _ _ _ _ _ _ [] _ _ _); refine eva_nil ?_)
  ((with_reducible show List.length _ ≤ sizeLine ∧ _); refine ⟨len_ok (by simp), ?_⟩)
  intro a7
  ((with_reducible show EvA _ _ _ _ _ _ [] _ _ _); refine eva_nil ?_)
  ((with_reducible show List.length _ ≤ sizeLine ∧ _); refine ⟨len_ok (by simp), ?_⟩)
  ((with_reducible show EvA _ _ _ _ _ _ [] _ _ _); refine eva_nil ?_)
  ((with_reducible show List.length _ ≤ sizeLine ∧ _); refine ⟨len_ok (by simp), ?_⟩)
  intro o
  ((with_reducible show EvE _ _ _ _ _ (.BinOp _ .Mod _ _) _ _ _); refine ev_binop ?_)
  ((with_reducible show EvE _ _ _ _ _ (.Name _ _) _ _ _); refine ev_local (by rfl) ?_)
  ((with_reducible show EvE _ _ _ _ _ (.Constant (.int _) _ _) _ _ _); refine ev_int ?_)
  ((with_reducible show ∃ c, Bin .Mod _ _ c ∧ _); refine ⟨_, Bin.mod _ _ (by first | decide | omega), ?_⟩)
  have hj : a % 8 = 0 ∨ a % 8 = 1 ∨ a % 8 = 2 ∨ a % 8 = 3 ∨ a % 8 = 4 ∨ a % 8 = 5 ∨ a % 8 = 6 ∨ a % 8 = 7 := by omega
  rcases hj with h | h | h | h | h | h | h | h <;> rw [h] at hq ⊢
  · exact ⟨_, Item.list (by walk_at "mv_mem") rfl (by decide) (by decide) rfl, _, by walk_at "mv_sub", hq a0⟩
  · exact ⟨_, Item.list (by walk_at "mv_mem") rfl (by decide) (by decide) rfl, _, by walk_at "mv_sub", hq a1⟩
  · exact ⟨_, Item.list (by walk_at "mv_mem") rfl (by decide) (by decide) rfl, _, by walk_at "mv_sub", hq a2⟩
  · exact ⟨_, Item.list (by walk_at "mv_mem") rfl (by decide) (by decide) rfl, _, by walk_at "mv_sub", hq a3⟩
  · exact ⟨_, Item.list (by walk_at "mv_mem") rfl (by decide) (by decide) rfl, _, by walk_at "mv_sub", hq a4⟩
  · exact ⟨_, Item.list (by walk_at "mv_mem") rfl (by decide) (by decide) rfl, _, by walk_at "mv_sub", hq a5⟩
  · exact ⟨_, Item.list (by walk_at "mv_mem") rfl (by decide) (by decide) rfl, _, by walk_at "mv_sub", hq a6⟩
  · exact ⟨_, Item.list (by walk_at "mv_mem") rfl (by decide) (by decide) rfl, _, by walk_at "mv_sub", hq a7⟩
theorem bind_form {pm code doc : Value} : ∀ cvs : List Value, cvs.length = 2 → bindArgs (docDef (defAt pw_k6_0113 12).name (defAt pw_k6_0113 12).params (defAt pw_k6_0113 12).body (defAt pw_k6_0113 12).scope pm code doc) ⟨cvs, []⟩ = pure ((["pick", "name"] : List Str).zip cvs)
  | [a, b], _ => rfl
theorem form_spec {pk : Nat} {n : Str} {f : Addr} {pm code doc : Value} {Q : V → St → Prop} (C : Ctx Bs mg mb) (F : FnAt Bs mg "_law_wrong_form" (defAt pw_k6_0113 12) f pm code doc) (hn : n.length ≤ 200) (hk : pk < 8)
    (hq : Q (.str ((wForms n).getD pk "")) σ) : EvF prog w Bs (k + 1) (.ref f) [.int pk, .str n] σ Q := by
  refine evf_nc (ps := ["pick", "name"]) C F bind_form rfl (by decide) (by decide) fun L => ?_
  ((with_reducible show EvS _ _ _ _ _ _ _ _ _); refine evs_cons ?_)
  ((with_reducible show EvX _ _ _ _ _ (.Return (some _) _) _ _ _); refine evx_ret ?_)
  ((with_reducible show EvE _ _ _ _ _ (.Subscript _ _ _) _ _ _); refine ev_item ?_)
  ((with_reducible show EvE _ _ _ _ _ (.List _ _) _ _ _); refine ev_list ?_)
  ((with_reducible show EvA _ _ _ _ _ _ (_ :: _) _ _ _); refine eva_cons ?_)
  ((with_reducible show EvE _ _ _ _ _ (.Constant (.str _) _ _) _ _ _); refine ev_str ?_)
  ((with_reducible show EvA _ _ _ _ _ _ (_ :: _) _ _ _); refine eva_cons ?_)
  ((with_reducible show EvE _ _ _ _ _ (.BinOp _ .Add _ _) _ _ _); refine ev_addG ?_)
  ((with_reducible show EvE _ _ _ _ _ (.BinOp _ .Add _ _) _ _ _); refine ev_addG ?_)
  ((with_reducible show EvE _ _ _ _ _ (.BinOp _ .Add _ _) _ _ _); refine ev_addG ?_)
  ((with_reducible show EvE _ _ _ _ _ (.Constant (.str _) _ _) _ _ _); refine ev_str ?_)
  ((with_reducible show EvE _ _ _ _ _ (.Name _ _) _ _ _); refine ev_local (by rfl) ?_)
  ((with_reducible show AddG _ _ _ (.str _) (.str _) _); refine addG_str (size_le (by walk_at "mlen")) ?_)
  ((with_reducible show EvE _ _ _ _ _ (.Constant (.str _) _ _) _ _ _); refine ev_str ?_)
  ((with_reducible show AddG _ _ _ (.str _) (.str _) _); refine addG_str (size_le (by walk_at "mlen")) ?_)
  ((with_reducible show EvE _ _ _ _ _ (.Name _ _) _ _ _); refine ev_local (by rfl) ?_)
  ((with_reducible show AddG _ _ _ (.str _) (.str _) _); refine addG_str (size_le (by walk_at "mlen")) ?_)
  ((with_reducible show EvA _ _ _ _ _ _ (_ :: _) _ _ _); refine eva_cons ?_)
  ((with_reducible show EvE _ _ _ _ _ (.BinOp _ .Add _ _) _ _ _); refine ev_addG ?_)
  ((with_reducible show EvE _ _ _ _ _ (.BinOp _ .Add _ _) _ _ _); refine ev_addG ?_)
  ((with_reducible show EvE _ _ _ _ _ (.Constant (.str _) _ _) _ _ _); refine ev_str ?_)
  ((with_reducible show EvE _ _ _ _ _ (.Name _ _) _ _ _); refine ev_local (by rfl) ?_)
  ((with_reducible show AddG _ _ _ (.str _) (.str _) _); refine addG_str (size_le (by walk_at "mlen")) ?_)
  ((with_reducible show EvE _ _ _ _ _ (.Constant (.str _) _ _) _ _ _); refine ev_str ?_)
  ((with_reducible show AddG _ _ _ (.str _) (.str _) _); refine addG_str (size_le (by walk_at "mlen")) ?_)
  ((with_reducible show EvA _ _ _ _ _ _ (_ :: _) _ _ _); refine eva_cons ?_)
  ((with_reducible show EvE _ _ _ _ _ (.Constant (.str _) _ _) _ _ _); refine ev_str ?_)
  ((with_reducible show EvA _ _ _ _ _ _ (_ :: _) _ _ _); refine eva_cons ?_)
  ((with_reducible show EvE _ _ _ _ _ (.BinOp _ .Add _ _) _ _ _); refine ev_addG ?_)
  ((with_reducible show EvE _ _ _ _ _ (.Constant (.str _) _ _) _ _ _); refine ev_str ?_)
  ((with_reducible show EvE _ _ _ _ _ (.Name _ _) _ _ _); refine ev_local (by rfl) ?_)
  ((with_reducible show AddG _ _ _ (.str _) (.str _) _); refine addG_str (size_le (by walk_at "mlen")) ?_)
  ((with_reducible show EvA _ _ _ _ _ _ (_ :: _) _ _ _); refine eva_cons ?_)
  ((with_reducible show EvE _ _ _ _ _ (.BinOp _ .Add _ _) _ _ _); refine ev_addG ?_)
  ((with_reducible show EvE _ _ _ _ _ (.BinOp _ .Add _ _) _ _ _); refine ev_addG ?_)
  ((with_reducible show EvE _ _ _ _ _ (.Constant (.str _) _ _) _ _ _); refine ev_str ?_)
  ((with_reducible show EvE _ _ _ _ _ (.Name _ _) _ _ _); refine ev_local (by rfl) ?_)
  ((with_reducible show AddG _ _ _ (.str _) (.str _) _); refine addG_str (size_le (by walk_at "mlen")) ?_)
  ((with_reducible show EvE _ _ _ _ _ (.Constant (.str _) _ _) _ _ _); refine ev_str ?_)
  ((with_reducible show AddG _ _ _ (.str _) (.str _) _); refine addG_str (size_le (by walk_at "mlen")) ?_)
  ((with_reducible show EvA _ _ _ _ _ _ (_ :: _) _ _ _); refine eva_cons ?_)
  ((with_reducible show EvE _ _ _ _ _ (.BinOp _ .Add _ _) _ _ _); refine ev_addG ?_)
  ((with_reducible show EvE _ _ _ _ _ (.Constant (.str _) _ _) _ _ _); refine ev_str ?_)
  ((with_reducible show EvE _ _ _ _ _ (.Name _ _) _ _ _); refine ev_local (by rfl) ?_)
  ((with_reducible show AddG _ _ _ (.str _) (.str _) _); refine addG_str (size_le (by walk_at "mlen")) ?_)
  ((with_reducible show EvA _ _ _ _ _ _ (_ :: _) _ _ _); refine eva_cons ?_)
  ((with_reducible show EvE _ _ _ _ _ (.BinOp _ .Add _ _) _ _ _); refine ev_addG ?_)
  ((with_reducible show EvE _ _ _ _ _ (.BinOp _ .Add _ _) _ _ _); refine ev_addG ?_)
  ((with_reducible show EvE _ _ _ _ _ (.Constant (.str _) _ _) _ _ _); refine ev_str ?_)
  ((with_reducible show EvE _ _ _ _ _ (.Name _ _) _ _ _); refine ev_local (by rfl) ?_)
  ((with_reducible show AddG _ _ _ (.str _) (.str _) _); refine addG_str (size_le (by walk_at "mlen")) ?_)
  ((with_reducible show EvE _ _ _ _ _ (.Constant (.str _) _ _) _ _ _); refine ev_str ?_)
  ((with_reducible show AddG _ _ _ (.str _) (.str _) _); refine addG_str (size_le (by walk_at "mlen")) ?_)
  ((with_reducible show EvA _ _ _ _ _ _ [] _ _ _); refine eva_nil ?_)
  ((with_reducible show List.length _ ≤ sizeLine ∧ _); refine ⟨len_ok (by simp), ?_⟩)
  intro o
  ((with_reducible show EvE _ _ _ _ _ (.Name _ _) _ _ _); refine ev_local (by rfl) ?_)
  have hg : (wForms n)[pk]? = some ((wForms n).getD pk "") := by
    have : pk < (wForms n).length := hk
    simp [this]
  exact ⟨_, Item.list (ob := .list ((wForms n).map .str)) (v := .str ((wForms n).getD pk "")) (by walk_at "mv_mem") rfl (by omega) (by omega) (by rw [Int.toNat_natCast, List.getElem?_map, hg]; rfl), _, by walk_at "mv_sub", hq⟩
theorem bind_part {pm code doc : Value} : ∀ cvs : List Value, cvs.length = 3 → bindArgs (docDef (defAt pw_k6_0113 13).name (defAt pw_k6_0113 13).params (defAt pw_k6_0113 13).body (defAt pw_k6_0113 13).scope pm code doc) ⟨cvs, []⟩ = pure ((["pick", "name", "b"] : List Str).zip cvs)
  | [a, b, c], _ => rfl
theorem mul_k : MulOk "k" 201 := mul_ok1 (c := 107) (by decide) (by decide)
theorem part_spec {pk : Nat} {n : Str} {b : Int} {f : Addr} {pm code doc : Value} {Q : V → St → Prop} (C : Ctx Bs mg mb) (F : FnAt Bs mg "_law_wrong_part" (defAt pw_k6_0113 13) f pm code doc) (Bs' : BIs Bs mg mb "str" (.type "str")) (hn : n.length ≤ 200) (hk : pk < 8)
    (hq : Q (.str ((wParts n b).getD pk "")) σ) : EvF prog w Bs (k + 1) (.ref f) [.int pk, .str n, .int b] σ Q := by
  refine evf_nc (ps := ["pick", "name", "b"]) C F bind_part rfl (by decide) (by decide) fun L => ?_
  obtain ⟨o1, o2, o3⟩ := ov_in b
  have ol : (Str.ofString (toString (ovOf b))).length ≤ 30 := tx_len o3
  have eo : 10 ^ (18 : Int).toNat + 1 + b % 1000 = ovOf b := rfl
  have kl : (Txt.mul "k" 201).length = 201 := kk_len
  ((with_reducible show EvS _ _ _ _ _ _ _ _ _); refine evs_cons ?_)
  ((with_reducible show EvX _ _ _ _ _ (.Assign [.Name _ _] _ _) _ _ _); first | refine evx_assign ?_ | refine evx_assign_cell (by rfl) ?_)
  ((with_reducible show EvE _ _ _ _ _ (.Call (.Name _ _) (_ :: _) [] _) _ _ _); first | refine ev_bfn (by assumption) ?_ | refine ev_tfn (by assumption) ?_ | refine ev_fn (by assumption) (by assumption) ?_)
  ((with_reducible show EvA _ _ _ _ _ _ (_ :: _) _ _ _); refine eva_cons ?_)
  ((with_reducible show EvE _ _ _ _ _ (.BinOp _ .Add _ _) _ _ _); refine ev_addG ?_)
  ((with_reducible show EvE _ _ _ _ _ (.BinOp _ .Add _ _) _ _ _); refine ev_addG ?_)
  ((with_reducible show EvE _ _ _ _ _ (.BinOp _ .Pow _ _) _ _ _); refine ev_pow ?_)
  ((with_reducible show EvE _ _ _ _ _ (.Constant (.int _) _ _) _ _ _); refine ev_int ?_)
  ((with_reducible show EvE _ _ _ _ _ (.Constant (.int _) _ _) _ _ _); refine ev_int ?_)
  ((with_reducible show ∃ i n, V.int _ = V.int i ∧ V.int _ = V.int n ∧ _); refine ⟨_, _, rfl, rfl, by decide, by decide, by decide, ?_⟩)
  ((with_reducible show EvE _ _ _ _ _ (.Constant (.int _) _ _) _ _ _); refine ev_int ?_)
  ((with_reducible show AddG _ _ _ (.int _) (.int _) _); refine addG_int ?_)
  ((with_reducible show EvE _ _ _ _ _ (.BinOp _ .Mod _ _) _ _ _); refine ev_binop ?_)
  ((with_reducible show EvE _ _ _ _ _ (.Name _ _) _ _ _); refine ev_local (by rfl) ?_)
  ((with_reducible show EvE _ _ _ _ _ (.Constant (.int _) _ _) _ _ _); refine ev_int ?_)
  ((with_reducible show ∃ c, Bin .Mod _ _ c ∧ _); refine ⟨_, Bin.mod _ _ (by first | decide | omega), ?_⟩)
  ((with_reducible show AddG _ _ _ (.int _) (.int _) _); refine addG_int ?_)
  ((with_reducible show EvA _ _ _ _ _ _ [] _ _ _); refine eva_nil ?_)
  rw [eo]
  refine bf_str_int (log_ok o3) ?_
  ((with_reducible show EvS _ _ _ _ _ (.Return _ _ :: _) _ _ _); refine evs_cons ?_)
  ((with_reducible show EvX _ _ _ _ _ (.Return (some _) _) _ _ _); refine evx_ret ?_)
  ((with_reducible show EvE _ _ _ _ _ (.Subscript _ _ _) _ _ _); refine ev_item ?_)
  ((with_reducible show EvE _ _ _ _ _ (.List _ _) _ _ _); refine ev_list ?_)
  ((with_reducible show EvA _ _ _ _ _ _ (_ :: _) _ _ _); refine eva_cons ?_)
  ((with_reducible show EvE _ _ _ _ _ (.BinOp _ .Add _ _) _ _ _); refine ev_addG ?_)
  ((with_reducible show EvE _ _ _ _ _ (.Constant (.str _) _ _) _ _ _); refine ev_str ?_)
  ((with_reducible show EvE _ _ _ _ _ (.BinOp (.Constant (.str _) _ _) .Mult _ _) _ _ _); refine ev_mulT ?_)
  ((with_reducible show EvE _ _ _ _ _ (.Constant (.str _) _ _) _ _ _); refine ev_str ?_)
  ((with_reducible show EvE _ _ _ _ _ (.Constant (.int _) _ _) _ _ _); refine ev_int ?_)
  refine ⟨_, _, rfl, rfl, mul_k, ?_⟩
  ((with_reducible show AddG _ _ _ (.str _) (.str _) _); refine addG_str (size_le (by walk_at "mlen")) ?_)
  ((with_reducible show EvA _ _ _ _ _ _ (_ :: _) _ _ _); refine eva_cons ?_)
  ((with_reducible show EvE _ _ _ _ _ (.BinOp _ .Add _ _) _ _ _); refine ev_addG ?_)
  ((with_reducible show EvE _ _ _ _ _ (.BinOp _ .Add _ _) _ _ _); refine ev_addG ?_)
  ((with_reducible show EvE _ _ _ _ _ (.Constant (.str _) _ _) _ _ _); refine ev_str ?_)
  ((with_reducible show EvE _ _ _ _ _ (.BinOp (.Constant (.str _) _ _) .Mult _ _) _ _ _); refine ev_mulT ?_)
  ((with_reducible show EvE _ _ _ _ _ (.Constant (.str _) _ _) _ _ _); refine ev_str ?_)
  ((with_reducible show EvE _ _ _ _ _ (.Constant (.int _) _ _) _ _ _); refine ev_int ?_)
  refine ⟨_, _, rfl, rfl, mul_k, ?_⟩
  ((with_reducible show AddG _ _ _ (.str _) (.str _) _); refine addG_str (size_le (by walk_at "mlen")) ?_)
  ((with_reducible show EvE _ _ _ _ _ (.Constant (.str _) _ _) _ _ _); refine ev_str ?_)
  ((with_reducible show AddG _ _ _ (.str _) (.str _) _); refine addG_str (size_le (by walk_at "mlen")) ?_)
  ((with_reducible show EvA _ _ _ _ _ _ (_ :: _) _ _ _); refine eva_cons ?_)
  ((with_reducible show EvE _ _ _ _ _ (.Constant (.str _) _ _) _ _ _); refine ev_str ?_)
  ((with_reducible show EvA _ _ _ _ _ _ (_ :: _) _ _ _); refine eva_cons ?_)
  ((with_reducible show EvE _ _ _ _ _ (.Constant (.str _) _ _) _ _ _); refine ev_str ?_)
  ((with_reducible show EvA _ _ _ _ _ _ (_ :: _) _ _ _); refine eva_cons ?_)
  ((with_reducible show EvE _ _ _ _ _ (.BinOp _ .Add _ _) _ _ _); refine ev_addG ?_)
  ((with_reducible show EvE _ _ _ _ _ (.BinOp _ .Add _ _) _ _ _); refine ev_addG ?_)
  ((with_reducible show EvE _ _ _ _ _ (.Constant (.str _) _ _) _ _ _); refine ev_str ?_)
  ((with_reducible show EvE _ _ _ _ _ (.Name _ _) _ _ _); refine ev_local (by rfl) ?_)
  ((with_reducible show AddG _ _ _ (.str _) (.str _) _); refine addG_str (size_le (by walk_at "mlen")) ?_)
  ((with_reducible show EvE _ _ _ _ _ (.Constant (.str _) _ _) _ _ _); refine ev_str ?_)
  ((with_reducible show AddG _ _ _ (.str _) (.str _) _); refine addG_str (size_le (by walk_at "mlen")) ?_)
  ((with_reducible show EvA _ _ _ _ _ _ (_ :: _) _ _ _); refine eva_cons ?_)
  ((with_reducible show EvE _ _ _ _ _ (.BinOp _ .Add _ _) _ _ _); refine ev_addG ?_)
  ((with_reducible show EvE _ _ _ _ _ (.BinOp _ .Add _ _) _ _ _); refine ev_addG ?_)
  ((with_reducible show EvE _ _ _ _ _ (.Constant (.str _) _ _) _ _ _); refine ev_str ?_)
  ((with_reducible show EvE _ _ _ _ _ (.Name _ _) _ _ _); refine ev_local (by rfl) ?_)
  ((with_reducible show AddG _ _ _ (.str _) (.str _) _); refine addG_str (size_le (by walk_at "mlen")) ?_)
  ((with_reducible show EvE _ _ _ _ _ (.Constant (.str _) _ _) _ _ _); refine ev_str ?_)
  ((with_reducible show AddG _ _ _ (.str _) (.str _) _); refine addG_str (size_le (by walk_at "mlen")) ?_)
  ((with_reducible show EvA _ _ _ _ _ _ (_ :: _) _ _ _); refine eva_cons ?_)
  ((with_reducible show EvE _ _ _ _ _ (.BinOp _ .Add _ _) _ _ _); refine ev_addG ?_)
  ((with_reducible show EvE _ _ _ _ _ (.BinOp _ .Add _ _) _ _ _); refine ev_addG ?_)
  ((with_reducible show EvE _ _ _ _ _ (.BinOp _ .Add _ _) _ _ _); refine ev_addG ?_)
  ((with_reducible show EvE _ _ _ _ _ (.Constant (.str _) _ _) _ _ _); refine ev_str ?_)
  ((with_reducible show EvE _ _ _ _ _ (.Name _ _) _ _ _); refine ev_local (by rfl) ?_)
  ((with_reducible show AddG _ _ _ (.str _) (.str _) _); refine addG_str (size_le (by walk_at "mlen")) ?_)
  ((with_reducible show EvE _ _ _ _ _ (.Constant (.str _) _ _) _ _ _); refine ev_str ?_)
  ((with_reducible show AddG _ _ _ (.str _) (.str _) _); refine addG_str (size_le (by walk_at "mlen")) ?_)
  ((with_reducible show EvE _ _ _ _ _ (.Name _ _) _ _ _); refine ev_local (by rfl) ?_)
  ((with_reducible show AddG _ _ _ (.str _) (.str _) _); refine addG_str (size_le (by walk_at "mlen")) ?_)
  ((with_reducible show EvA _ _ _ _ _ _ (_ :: _) _ _ _); refine eva_cons ?_)
  ((with_reducible show EvE _ _ _ _ _ (.BinOp _ .Add _ _) _ _ _); refine ev_addG ?_)
  ((with_reducible show EvE _ _ _ _ _ (.BinOp _ .Add _ _) _ _ _); refine ev_addG ?_)
  ((with_reducible show EvE _ _ _ _ _ (.BinOp _ .Add _ _) _ _ _); refine ev_addG ?_)
  ((with_reducible show EvE _ _ _ _ _ (.Constant (.str _) _ _) _ _ _); refine ev_str ?_)
  ((with_reducible show EvE _ _ _ _ _ (.Name _ _) _ _ _); refine ev_local (by rfl) ?_)
  ((with_reducible show AddG _ _ _ (.str _) (.str _) _); refine addG_str (size_le (by walk_at "mlen")) ?_)
  ((with_reducible show EvE _ _ _ _ _ (.Constant (.str _) _ _) _ _ _); refine ev_str ?_)
  ((with_reducible show AddG _ _ _ (.str _) (.str _) _); refine addG_str (size_le (by walk_at "mlen")) ?_)
  ((with_reducible show EvE _ _ _ _ _ (.Name _ _) _ _ _); refine ev_local (by rfl) ?_)
  ((with_reducible show AddG _ _ _ (.str _) (.str _) _); refine addG_str (size_le (by walk_at "mlen")) ?_)
  ((with_reducible show EvA _ _ _ _ _ _ [] _ _ _); refine eva_nil ?_)
  ((with_reducible show List.length _ ≤ sizeLine ∧ _); refine ⟨len_ok (by simp), ?_⟩)
  intro o
  ((with_reducible show EvE _ _ _ _ _ (.Name _ _) _ _ _); refine ev_local (by rfl) ?_)
  have hg : (wParts n b)[pk]? = some ((wParts n b).getD pk "") := by
    have : pk < (wParts n b).length := hk
    simp [this]
  exact ⟨_, Item.list (ob := .list ((wParts n b).map .str)) (v := .str ((wParts n b).getD pk "")) (by walk_at "mv_mem") rfl (by omega) (by omega) (by rw [Int.toNat_natCast, List.getElem?_map, hg]; rfl), _, by walk_at "mv_sub", hq⟩
end
section
variable {prog : Program} {w : World} {Bs : Heap} {k : Nat} {σ : St} {mg mb : Str → Option Value}

theorem bind_law {pm code doc : Value} : ∀ cvs : List Value, cvs.length = 1 → bindArgs (docDef (defAt pw_k6_0113 14).name (defAt pw_k6_0113 14).params (defAt pw_k6_0113 14).body (defAt pw_k6_0113 14).scope pm code doc) ⟨cvs, []⟩ = pure ((["script"] : List Str).zip cvs)
  | [a], _ => rfl
abbrev RowD := Int × Int × Addr
def rv (r : RowD) : V := .tup [.str (rT r.1 r.2.1), .ref r.2.2]
def ro (r : RowD) : Addr × O := (r.2.2, .list ((rO r.1 r.2.1).map op3))
def rl (r : RowD) : Str × List Str := (rT r.1 r.2.1, rW r.1 r.2.1)
theorem rl_ok (rs : List RowD) : ∀ p ∈ rs.map rl, LnOk p.1 p.2 ∧ lineO p.2 ≠ none := fun p hp => by
  obtain ⟨r, _, rfl⟩ := List.mem_map.mp hp
  have := row_ok r.1 r.2.1
  exact ⟨this.1, by show lineO (rW r.1 r.2.1) ≠ none; rw [this.2]; simp⟩
theorem rl_ops (rs : List RowD) : opsOf (rs.map rl) = rs.flatMap fun r => rO r.1 r.2.1 := by
  unfold opsOf
  rw [List.flatMap_map]
  congr 1
  funext r
  show (lineO (rW r.1 r.2.1)).getD [] = _
  rw [(row_ok r.1 r.2.1).2]; rfl
theorem only_bad {lns A B pre post : List (Str × List Str)} {b p : Str × List Str} (h1 : lns = A ++ b :: B) (h2 : lns = pre ++ p :: post) (hA : ∀ q ∈ A, lineO q.2 ≠ none) (hb : lineO b.2 = none) (hp : ∀ q ∈ pre, lineO q.2 ≠ none) (hpb : lineO p.2 = none) : pre.length = A.length := by
  rcases Nat.lt_trichotomy pre.length A.length with h | h | h
  · have e : lns[pre.length]? = some p := by rw [h2]; simp
    rw [h1, List.getElem?_append_left h] at e
    exact absurd hpb (hA p (List.mem_of_getElem? e))
  · exact h
  · have e : lns[A.length]? = some b := by rw [h1]; simp
    rw [h2, List.getElem?_append_left h] at e
    exact absurd hb (hp b (List.mem_of_getElem? e))
theorem want_eq (rs : List RowD) : (rs.map fun r => ((rv r, r.2.2, O.list ((rO r.1 r.2.1).map op3), (rO r.1 r.2.1).map op3) : V × Addr × O × List V)).flatMap (·.2.2.2) = (opsOf (rs.map rl)).map op3 := by
  rw [rl_ops, List.flatMap_map, List.map_flatMap]
theorem lines_eq (rs : List RowD) : (rs.map fun r => V.str (rT r.1 r.2.1)) = ((rs.map rl).map (·.1)).map V.str := by
  simp [rl, Function.comp_def]
theorem ops_data (rs : List RowD) : ∀ v ∈ (opsOf (rs.map rl)).map op3, ∃ d, DV σ v d ∧ W.kqdOk 8 d = true := fun v hv => by
  obtain ⟨t, ht, rfl⟩ := List.mem_map.mp hv
  rw [rl_ops] at ht
  obtain ⟨r, _, hr⟩ := List.mem_flatMap.mp ht
  obtain ⟨h1, h2⟩ := row_str r.1 r.2.1 t hr
  exact ⟨.tuple [.str t.1, .str t.2.1, .int t.2.2], .tup (.cons (.str _) (.cons (.str _) (.cons (.int _) .nil))), by simp [W.kqdOk, h1, h2]⟩
theorem law_spec {P c : Addr} {l : Addr} {ob : O} {ns : List Int} {f : Addr} {pm doc : Value} {f13 : Addr} {pm13 code13 doc13 : Value} {f12 : Addr} {pm12 code12 doc12 : Value} {f11 : Addr} {pm11 code11 doc11 : Value} {f10 : Addr} {pm10 code10 doc10 : Value} {f9 : Addr} {pm9 code9 doc9 : Value} {f7 : Addr} {pm7 code7 doc7 : Value} {f6 : Addr} {pm6 code6 doc6 : Value} {f5 : Addr} {pm5 code5 doc5 : Value} {f4 : Addr} {pm4 code4 doc4 : Value} {f3 : Addr} {pm3 code3 doc3 : Value} {Q : V → St → Prop}
    (C : Ctx Bs mg mb) (BM : BMain Bs mg) (CA : CodeAt Bs c P) (hF : FnAt Bs mg "law" (defAt pw_k6_0113 14) f pm (.ref c) doc)
    (hWp : FnAt Bs mg "_law_wrong_part" (defAt pw_k6_0113 13) f13 pm13 code13 doc13) (hWf : FnAt Bs mg "_law_wrong_form" (defAt pw_k6_0113 12) f12 pm12 code12 doc12) (hSd : FnAt Bs mg "_law_sound" (defAt pw_k6_0113 11) f11 pm11 code11 doc11) (hNm : FnAt Bs mg "_law_name" (defAt pw_k6_0113 10) f10 pm10 code10 doc10) (hC : FnAt Bs mg "_law_cell" (defAt pw_k6_0113 9) f9 pm9 code9 doc9)
    (hR : FnAt Bs mg "read_trace" (defAt pw_k6_0113 7) f7 pm7 code7 doc7) (hS : FnAt Bs mg "parse_signed" (defAt pw_k6_0113 6) f6 pm6 code6 doc6) (hP : FnAt Bs mg "parse_number" (defAt pw_k6_0113 5) f5 pm5 code5 doc5) (hK : FnAt Bs mg "check_number" (defAt pw_k6_0113 4) f4 pm4 code4 doc4) (hN : FnAt Bs mg "check_name" (defAt pw_k6_0113 3) f3 pm3 code3 doc3)
    (BI : BIs Bs mg mb "isinstance" (.builtin "isinstance")) (Bi : BIs Bs mg mb "int" (.type "int")) (Bb : BIs Bs mg mb "bool" (.type "bool")) (Bs' : BIs Bs mg mb "str" (.type "str")) (BL : BIs Bs mg mb "len" (.builtin "len")) (BE : BIs Bs mg mb "enumerate" (.type "enumerate")) (BV : BIs Bs mg mb "ValueError" (.type "ValueError")) (BC : BIs Bs mg mb "chr" (.builtin "chr")) (BR : BIs Bs mg mb "range" (.type "range")) (BA : BIs Bs mg mb "all" (.builtin "all")) (BT : BIs Bs mg mb "type" (.type "type"))
    (GN : GIs Bs mg mb "MAX_NAME" (.int 200)) (GM : GIs Bs mg mb "MAX_NUMBER" (.int MXN))
    (hl : ob.peel = .list (ns.map .int)) (hz : ns.length ≤ 63) (hq : Q (.bool true) [(l, ob)]) : EvFW prog w Bs P (k + 5) (.ref f) [.ref l] [(l, ob)] Q := by
  refine evfW_c (xs := ["script"]) C hF bind_law rfl (by decide) [] (fun L => (L + 1, .cell (some (.ref l))) :: [(l, ob)]) rfl (fun L => rfl) fun L => ?_
  refine evsW_cons (EvSt.toV ?_)
  ((with_reducible show EvX _ _ _ _ _ (.Assign [.Name _ _] _ _) _ _ _); first | refine evx_assign ?_ | refine evx_assign_cell (by rfl) ?_)
  ((with_reducible show EvE _ _ _ _ _ (.BinOp _ .Mod _ _) _ _ _); refine ev_binop ?_)
  ((with_reducible show EvE _ _ _ _ _ (.Call (.Name _ _) (_ :: _) [] _) _ _ _); first | refine ev_bfn (by assumption) ?_ | refine ev_tfn (by assumption) ?_ | refine ev_fn (by assumption) (by assumption) ?_)
  ((with_reducible show EvA _ _ _ _ _ _ (_ :: _) _ _ _); refine eva_cons ?_)
  ((with_reducible show EvE _ _ _ _ _ (.Name _ _) _ _ _); refine ev_cell (by rfl) (by walk_at "mv_mem") ?_)
  ((with_reducible show EvA _ _ _ _ _ _ (_ :: _) _ _ _); refine eva_cons ?_)
  ((with_reducible show EvE _ _ _ _ _ (.Constant (.int _) _ _) _ _ _); refine ev_int ?_)
  ((with_reducible show EvA _ _ _ _ _ _ [] _ _ _); refine eva_nil ?_)
  refine cell_spec C hC BL (by walk_at "mv_mem") hl hz (j := 0) rfl (by omega) ?_
  ((with_reducible show EvE _ _ _ _ _ (.Constant (.int _) _ _) _ _ _); refine ev_int ?_)
  ((with_reducible show ∃ c, Bin .Mod _ _ c ∧ _); refine ⟨_, Bin.mod _ _ (by first | decide | omega), ?_⟩)
  ((with_reducible show EvStW _ _ _ _ _ _ (execs (.Assign _ _ _ :: _) _) _ _ _); refine evsW_cons (EvSt.toV ?_))
  ((with_reducible show EvX _ _ _ _ _ (.Assign [.Name _ _] _ _) _ _ _); first | refine evx_assign ?_ | refine evx_assign_cell (by rfl) ?_)
  ((with_reducible show EvE _ _ _ _ _ (.BinOp _ .Mod _ _) _ _ _); refine ev_binop ?_)
  ((with_reducible show EvE _ _ _ _ _ (.Call (.Name _ _) (_ :: _) [] _) _ _ _); first | refine ev_bfn (by assumption) ?_ | refine ev_tfn (by assumption) ?_ | refine ev_fn (by assumption) (by assumption) ?_)
  ((with_reducible show EvA _ _ _ _ _ _ (_ :: _) _ _ _); refine eva_cons ?_)
  ((with_reducible show EvE _ _ _ _ _ (.Name _ _) _ _ _); refine ev_cell (by rfl) (by walk_at "mv_mem") ?_)
  ((with_reducible show EvA _ _ _ _ _ _ (_ :: _) _ _ _); refine eva_cons ?_)
  ((with_reducible show EvE _ _ _ _ _ (.Constant (.int _) _ _) _ _ _); refine ev_int ?_)
  ((with_reducible show EvA _ _ _ _ _ _ [] _ _ _); refine eva_nil ?_)
  refine cell_spec C hC BL (by walk_at "mv_mem") hl hz (j := 1) rfl (by omega) ?_
  ((with_reducible show EvE _ _ _ _ _ (.Constant (.int _) _ _) _ _ _); refine ev_int ?_)
  ((with_reducible show ∃ c, Bin .Mod _ _ c ∧ _); refine ⟨_, Bin.mod _ _ (by first | decide | omega), ?_⟩)
  ((with_reducible show EvStW _ _ _ _ _ _ (execs (.Assign _ _ _ :: _) _) _ _ _); refine evsW_cons (EvSt.toV ?_))
  ((with_reducible show EvX _ _ _ _ _ (.Assign [.Name _ _] _ _) _ _ _); first | refine evx_assign ?_ | refine evx_assign_cell (by rfl) ?_)
  ((with_reducible show EvE _ _ _ _ _ (.BinOp _ .Mod _ _) _ _ _); refine ev_binop ?_)
  ((with_reducible show EvE _ _ _ _ _ (.Call (.Name _ _) (_ :: _) [] _) _ _ _); first | refine ev_bfn (by assumption) ?_ | refine ev_tfn (by assumption) ?_ | refine ev_fn (by assumption) (by assumption) ?_)
  ((with_reducible show EvA _ _ _ _ _ _ (_ :: _) _ _ _); refine eva_cons ?_)
  ((with_reducible show EvE _ _ _ _ _ (.Name _ _) _ _ _); refine ev_cell (by rfl) (by walk_at "mv_mem") ?_)
  ((with_reducible show EvA _ _ _ _ _ _ (_ :: _) _ _ _); refine eva_cons ?_)
  ((with_reducible show EvE _ _ _ _ _ (.Constant (.int _) _ _) _ _ _); refine ev_int ?_)
  ((with_reducible show EvA _ _ _ _ _ _ [] _ _ _); refine eva_nil ?_)
  refine cell_spec C hC BL (by walk_at "mv_mem") hl hz (j := 2) rfl (by omega) ?_
  ((with_reducible show EvE _ _ _ _ _ (.BinOp _ .Add _ _) _ _ _); refine ev_addG ?_)
  ((with_reducible show EvE _ _ _ _ _ (.Name _ _) _ _ _); refine ev_local (by rfl) ?_)
  ((with_reducible show EvE _ _ _ _ _ (.Constant (.int _) _ _) _ _ _); refine ev_int ?_)
  ((with_reducible show AddG _ _ _ (.int _) (.int _) _); refine addG_int ?_)
  ((with_reducible show ∃ c, Bin .Mod _ _ c ∧ _); refine ⟨_, Bin.mod _ _ (by first | decide | omega), ?_⟩)
  ((with_reducible show EvStW _ _ _ _ _ _ (execs (.Assign _ _ _ :: _) _) _ _ _); refine evsW_cons (EvSt.toV ?_))
  ((with_reducible show EvX _ _ _ _ _ (.Assign [.Name _ _] _ _) _ _ _); first | refine evx_assign ?_ | refine evx_assign_cell (by rfl) ?_)
  ((with_reducible show EvE _ _ _ _ _ (.BinOp _ .Mod _ _) _ _ _); refine ev_binop ?_)
  ((with_reducible show EvE _ _ _ _ _ (.Call (.Name _ _) (_ :: _) [] _) _ _ _); first | refine ev_bfn (by assumption) ?_ | refine ev_tfn (by assumption) ?_ | refine ev_fn (by assumption) (by assumption) ?_)
  ((with_reducible show EvA _ _ _ _ _ _ (_ :: _) _ _ _); refine eva_cons ?_)
  ((with_reducible show EvE _ _ _ _ _ (.Name _ _) _ _ _); refine ev_cell (by rfl) (by walk_at "mv_mem") ?_)
  ((with_reducible show EvA _ _ _ _ _ _ (_ :: _) _ _ _); refine eva_cons ?_)
  ((with_reducible show EvE _ _ _ _ _ (.Constant (.int _) _ _) _ _ _); refine ev_int ?_)
  ((with_reducible show EvA _ _ _ _ _ _ [] _ _ _); refine eva_nil ?_)
  refine cell_spec C hC BL (by walk_at "mv_mem") hl hz (j := 3) rfl (by omega) ?_
  ((with_reducible show EvE _ _ _ _ _ (.Constant (.int _) _ _) _ _ _); refine ev_int ?_)
  ((with_reducible show ∃ c, Bin .Mod _ _ c ∧ _); refine ⟨_, Bin.mod _ _ (by first | decide | omega), ?_⟩)
  ((with_reducible show EvStW _ _ _ _ _ _ (execs (.Assign _ _ _ :: _) _) _ _ _); refine evsW_cons (EvSt.toV ?_))
  ((with_reducible show EvX _ _ _ _ _ (.Assign [.Name _ _] (.ListComp _ _ _ _) _) _ _ _); first | refine evx_assign_comp (by rfl) (by decide) ?_ | refine evx_assign_cell (by rfl) ?_)
  ((with_reducible show EvE _ _ _ _ _ (.Call (.Name _ _) (_ :: _) [] _) _ _ _); first | refine ev_bfn (by assumption) ?_ | refine ev_tfn (by assumption) ?_ | refine ev_fn (by assumption) (by assumption) ?_)
  ((with_reducible show EvA _ _ _ _ _ _ (_ :: _) _ _ _); refine eva_cons ?_)
  ((with_reducible show EvE _ _ _ _ _ (.Name _ _) _ _ _); refine ev_local (by rfl) ?_)
  ((with_reducible show EvA _ _ _ _ _ _ [] _ _ _); refine eva_nil ?_)
  obtain ⟨cnt, hcnt⟩ : ∃ n : Nat, cz ns 0 % 5 = (n : Int) := ⟨(cz ns 0 % 5).toNat, by omega⟩
  have hc4 : cnt ≤ 4 := by omega
  rw [hcnt]
  obtain ⟨pl, hpl⟩ : ∃ n : Nat, cz ns 2 % ((cnt : Int) + 1) = (n : Int) := ⟨(cz ns 2 % ((cnt : Int) + 1)).toNat, by have := Int.emod_nonneg (cz ns 2) (b := (cnt : Int) + 1) (by omega); omega⟩
  have hpc : pl ≤ cnt := by have := Int.emod_lt_of_pos (cz ns 2) (b := (cnt : Int) + 1) (by omega); omega
  rw [hpl]
  obtain ⟨pk, hpk⟩ : ∃ n : Nat, cz ns 3 % 8 = (n : Int) := ⟨(cz ns 3 % 8).toNat, by omega⟩
  have hk8 : pk < 8 := by omega
  rw [hpk]
  generalize cz ns 1 % 3 = md
  refine bf_range1 fun r t u v => ?_
  refine its_range cnt rfl (by omega) rfl ⟨len_ok (by rw [rngV_length]; omega), fun C' => ?_⟩
  refine compB_grow (α := RowD) rv ro [(L + 1, .cell (some (.ref l))), (l, ob)] (rngV 0 cnt) [] (fun v hv pre => ?_) (fun rs hrs => ?_)
  · obtain ⟨i, hi, rfl⟩ : ∃ i : Nat, i < cnt ∧ v = .int ((i : Nat) : Int) := by
      obtain ⟨i, hi, rfl⟩ := List.mem_map.mp hv
      exact ⟨i, List.mem_range.mp hi, by simp⟩
    have m1 : (L + 1, O.cell (some (.ref l))) ∈ pre ++ [(L + 1, .cell (some (.ref l))), (l, ob)] := List.mem_append_right _ (.head _)
    have m2 : (l, ob) ∈ pre ++ [(L + 1, O.cell (some (.ref l))), (l, ob)] := List.mem_append_right _ (.tail _ (.head _))
    ((with_reducible show EvE _ _ _ _ _ (.Call (.Name _ _) (_ :: _) [] _) _ _ _); first | refine ev_bfn (by assumption) ?_ | refine ev_tfn (by assumption) ?_ | refine ev_fn (by assumption) (by assumption) ?_)
    ((with_reducible show EvA _ _ _ _ _ _ (_ :: _) _ _ _); refine eva_cons ?_)
    ((with_reducible show EvE _ _ _ _ _ (.Call (.Name _ _) (_ :: _) [] _) _ _ _); first | refine ev_bfn (by assumption) ?_ | refine ev_tfn (by assumption) ?_ | refine ev_fn (by assumption) (by assumption) ?_)
    ((with_reducible show EvA _ _ _ _ _ _ (_ :: _) _ _ _); refine eva_cons ?_)
    ((with_reducible show EvE _ _ _ _ _ (.Name _ _) _ _ _); refine ev_cell (by rfl) (by walk_at "mv_mem") ?_)
    ((with_reducible show EvA _ _ _ _ _ _ (_ :: _) _ _ _); refine eva_cons ?_)
    ((with_reducible show EvE _ _ _ _ _ (.BinOp _ .Add _ _) _ _ _); refine ev_addG ?_)
    ((with_reducible show EvE _ _ _ _ _ (.Constant (.int _) _ _) _ _ _); refine ev_int ?_)
    ((with_reducible show EvE _ _ _ _ _ (.BinOp _ .Mult _ _) _ _ _); refine ev_binop ?_)
    ((with_reducible show EvE _ _ _ _ _ (.Constant (.int _) _ _) _ _ _); refine ev_int ?_)
    ((with_reducible show EvE _ _ _ _ _ (.Name _ _) _ _ _); refine ev_local (by rfl) ?_)
    ((with_reducible show ∃ c, Bin .Mult _ _ c ∧ _); refine ⟨_, Bin.mul _ _ (.of_left (by decide +kernel)), ?_⟩)
    ((with_reducible show AddG _ _ _ (.int _) (.int _) _); refine addG_int ?_)
    ((with_reducible show EvA _ _ _ _ _ _ [] _ _ _); refine eva_nil ?_)
    refine cell_spec C hC BL m2 hl hz (j := 4 + 2 * i) (by omega) (by omega) ?_
    ((with_reducible show EvA _ _ _ _ _ _ (_ :: _) _ _ _); refine eva_cons ?_)
    ((with_reducible show EvE _ _ _ _ _ (.Call (.Name _ _) (_ :: _) [] _) _ _ _); first | refine ev_bfn (by assumption) ?_ | refine ev_tfn (by assumption) ?_ | refine ev_fn (by assumption) (by assumption) ?_)
    ((with_reducible show EvA _ _ _ _ _ _ (_ :: _) _ _ _); refine eva_cons ?_)
    ((with_reducible show EvE _ _ _ _ _ (.Name _ _) _ _ _); refine ev_cell (by rfl) (by walk_at "mv_mem") ?_)
    ((with_reducible show EvA _ _ _ _ _ _ (_ :: _) _ _ _); refine eva_cons ?_)
    ((with_reducible show EvE _ _ _ _ _ (.BinOp _ .Add _ _) _ _ _); refine ev_addG ?_)
    ((with_reducible show EvE _ _ _ _ _ (.Constant (.int _) _ _) _ _ _); refine ev_int ?_)
    ((with_reducible show EvE _ _ _ _ _ (.BinOp _ .Mult _ _) _ _ _); refine ev_binop ?_)
    ((with_reducible show EvE _ _ _ _ _ (.Constant (.int _) _ _) _ _ _); refine ev_int ?_)
    ((with_reducible show EvE _ _ _ _ _ (.Name _ _) _ _ _); refine ev_local (by rfl) ?_)
    ((with_reducible show ∃ c, Bin .Mult _ _ c ∧ _); refine ⟨_, Bin.mul _ _ (.of_left (by decide +kernel)), ?_⟩)
    ((with_reducible show AddG _ _ _ (.int _) (.int _) _); refine addG_int ?_)
    ((with_reducible show EvA _ _ _ _ _ _ [] _ _ _); refine eva_nil ?_)
    refine cell_spec C hC BL m2 hl hz (j := 5 + 2 * i) (by omega) (by omega) ?_
    ((with_reducible show EvA _ _ _ _ _ _ [] _ _ _); refine eva_nil ?_)
    exact sound_spec C hSd hNm BC Bs' fun ad => ⟨(cz ns (4 + 2 * i), cz ns (5 + 2 * i), ad), rfl, rfl⟩
  have hrl : rs.length = cnt := by rw [hrs, rngV_length]; simp
  clear hrs
  intro D
  ((with_reducible show EvStW _ _ _ _ _ _ (execs (.Assign _ _ _ :: _) _) _ _ _); refine evsW_cons (EvSt.toV ?_))
  ((with_reducible show EvX _ _ _ _ _ (.Assign [.Name _ _] (.ListComp _ _ _ _) _) _ _ _); first | refine evx_assign_comp (by rfl) (by decide) ?_ | refine evx_assign_cell (by rfl) ?_)
  ((with_reducible show EvE _ _ _ _ _ (.Name _ _) _ _ _); refine ev_local (by rfl) ?_)
  refine its_comp_list rs rv (fun _ => true) (fun r => .str (rT r.1 r.2.1)) (by walk_at "mv_mem") rfl (by omega) (fun C' y hy => evt_nil ⟨rfl, SubP.refl _⟩) (fun C' y hy _ => ?_) ?_
  · unfold rv
    ((with_reducible show EvE _ _ _ _ _ (.Subscript _ _ _) _ _ _); refine ev_item ?_)
    ((with_reducible show EvE _ _ _ _ _ (.Name _ _) _ _ _); refine ev_local (by rfl) ?_)
    ((with_reducible show EvE _ _ _ _ _ (.Constant (.int _) _ _) _ _ _); refine ev_int ?_)
    ((with_reducible show ∃ v, Item _ _ (.int _) v ∧ _); refine ⟨_, Item.tup (by decide) (by decide) (by rfl), ?_⟩)
    exact ⟨rfl, SubP.refl _⟩
  intro E
  rw [List.filter_eq_self.mpr (by simp), lines_eq]
  have hokr := rl_ok rs
  refine evsW_if ?_
  ((with_reducible show EvB _ _ _ _ _ (.Compare _ _ _ _) _ _ _); refine evb_cmpG ?_)
  ((with_reducible show EvE _ _ _ _ _ (.Name _ _) _ _ _); refine ev_local (by rfl) ?_)
  ((with_reducible show EvE _ _ _ _ _ (.Constant (.int _) _ _) _ _ _); refine ev_int ?_)
  ((with_reducible show ∃ c, CmpG _ _ _ _ _ _ c ∧ _); refine ⟨_, Cmp.gen (by constructor), ?_⟩)
  by_cases hm0 : md = 0
  · refine if_tt (decide_eq_true hm0) ?_
    refine evsW_cons (EvSt.toV (evx_assign_nest (a := D) (ob := .list (rs.map rv)) (rs.map fun r => (rv r, r.2.2, .list ((rO r.1 r.2.1).map op3), (rO r.1 r.2.1).map op3)) (by rfl) (by decide) (by decide) ?_ (by walk_at "mv_mem") (by rw [List.map_map]; rfl) ?_ (fun C' r hr => ?_) (by intro _ _; rfl) fun W => ?_))
    · ((with_reducible show EvE _ _ _ _ _ (.Name _ _) _ _ _); refine ev_local (by rfl) ?_)
      exact ⟨rfl, rfl⟩
    · rw [want_eq, List.length_map]
      have := opsOf_len (rs.map rl)
      rw [List.length_map] at this
      exact size_le (by omega)
    · obtain ⟨q, hq', rfl⟩ := List.mem_map.mp hr
      refine ⟨.tail _ (.tail _ (List.mem_append_left _ (List.mem_map.mpr ⟨q, List.mem_reverse.mpr hq', rfl⟩))), rfl, ?_⟩
      unfold rv
      ((with_reducible show EvE _ _ _ _ _ (.Subscript _ _ _) _ _ _); refine ev_item ?_)
      ((with_reducible show EvE _ _ _ _ _ (.Name _ _) _ _ _); refine ev_local (by rfl) ?_)
      ((with_reducible show EvE _ _ _ _ _ (.Constant (.int _) _ _) _ _ _); refine ev_int ?_)
      ((with_reducible show ∃ v, Item _ _ (.int _) v ∧ _); refine ⟨_, Item.tup (by decide) (by decide) (by rfl), ?_⟩)
      exact ⟨rfl, rfl⟩
    rw [want_eq]
    refine evsW_cons (evxV_assign (evV_fn C hR ?_))
    obtain ⟨J1, J2, lns', J3, J4, J5, J6, J7⟩ := joined (rs.map rl) (fun p hp => (hokr p hp).1) (by simp; omega)
    ((with_reducible show EvA _ _ _ _ _ _ (_ :: _) _ _ _); refine eva_cons ?_)
    ((with_reducible show EvE _ _ _ _ _ (.Call (.Attribute _ "join" _) _ _ _) _ _ _); refine ev_meth PySem.F.plainAttrs_str PySem.F.slot_str_join PySem.F.type_str_join ?_)
    ((with_reducible show EvE _ _ _ _ _ (.Constant (.str _) _ _) _ _ _); refine ev_str ?_)
    ((with_reducible show Kd _ _ _ ∧ _); first | refine ⟨Kd.list (by walk_at "mv_mem") (by rfl), ?_⟩ | refine ⟨Kd.dict (by walk_at "mv_mem") (by rfl), ?_⟩ | refine ⟨Kd.str _, ?_⟩)
    ((with_reducible show EvA _ _ _ _ _ _ (_ :: _) _ _ _); refine eva_cons ?_)
    ((with_reducible show EvE _ _ _ _ _ (.Name _ _) _ _ _); refine ev_local (by rfl) ?_)
    ((with_reducible show EvA _ _ _ _ _ _ [] _ _ _); refine eva_nil ?_)
    refine bf_joinJ (by walk_at "mv_mem") rfl J2 (fun z hz => ?_) (size_le (by omega)) ?_
    · obtain ⟨p, hp, rfl⟩ := List.mem_map.mp hz
      exact size_le (Nat.le_trans (hokr p hp).1.len (by decide))
    ((with_reducible show EvA _ _ _ _ _ _ [] _ _ _); refine eva_nil ?_)
    have hall : ∀ p ∈ lns', lineO p.2 ≠ none := by
      rcases J7 with ⟨_, rfl⟩ | ⟨_, rfl⟩
      · intro p hp
        rw [List.mem_singleton.mp hp]; simp [lineO]
      · exact fun p hp => (hokr p hp).2
    refine read_spec C hR hN hS hP hK BI Bi Bb Bs' BL BE BV GN GM lns' J3 J4 J5 J1 (fun _ G => ?_) fun pre p post e _ hb => absurd hb (hall p (by rw [e]; simp))
    rw [J6]
    refine evsW_cons (EvSt.toV ?_)
    ((with_reducible show EvX _ _ _ _ _ (.If _ _ _ _) _ _ _); refine evx_if ?_)
    ((with_reducible show EvB _ _ _ _ _ (.Compare _ _ _ _) _ _ _); refine evb_cmpG ?_)
    ((with_reducible show EvE _ _ _ _ _ (.Name _ _) _ _ _); refine ev_local (by rfl) ?_)
    ((with_reducible show EvE _ _ _ _ _ (.Name _ _) _ _ _); refine ev_local (by rfl) ?_)
    refine ⟨_, cmp_ne_same (by walk_at "mv_mem") rfl (by walk_at "mv_mem") rfl (ops_data rs), ?_⟩
    refine if_ff rfl ?_
    ((with_reducible show EvS _ _ _ _ _ [] _ _ _); refine evs_nil ?_)
    refine EvStG.toW (evsG_cons (evxG_ifnot (evG_all (c := c) (a := G) (ob := .list ((opsOf (rs.map rl)).map op3)) (opsOf (rs.map rl)) op3 (fun _ => true) BA BM CA (by rfl) (by decide) (by rfl) ?_ (by walk_at "mv_mem") rfl ?_ (fun p' => ?_) rfl)))
    · ((with_reducible show EvE _ _ _ _ _ (.Name _ _) _ _ _); refine ev_local (by rfl) ?_)
      exact ⟨rfl, rfl⟩
    · intro C' code y hy
      show EvE prog w Bs _ (genEnv _ _ C' code builtinsNs _) _ _ _ _
      unfold op3
      ((with_reducible show EvE _ _ _ _ _ (.Compare _ _ _ _) _ _ _); refine ev_cmpG ?_)
      ((with_reducible show EvE _ _ _ _ _ (.Call (.Name _ _) (_ :: _) [] _) _ _ _); first | refine ev_bfn (by assumption) ?_ | refine ev_tfn (by assumption) ?_ | refine ev_fn (by assumption) (by assumption) ?_)
      ((with_reducible show EvA _ _ _ _ _ _ (_ :: _) _ _ _); refine eva_cons ?_)
      ((with_reducible show EvE _ _ _ _ _ (.Subscript _ _ _) _ _ _); refine ev_item ?_)
      ((with_reducible show EvE _ _ _ _ _ (.Name _ _) _ _ _); refine ev_local (by rfl) ?_)
      ((with_reducible show EvE _ _ _ _ _ (.Constant (.int _) _ _) _ _ _); refine ev_int ?_)
      ((with_reducible show ∃ v, Item _ _ (.int _) v ∧ _); refine ⟨_, Item.tup (by decide) (by decide) (by rfl), ?_⟩)
      ((with_reducible show EvA _ _ _ _ _ _ [] _ _ _); refine eva_nil ?_)
      refine bf_type (.int _) ?_
      ((with_reducible show EvE _ _ _ _ _ (.Name _ _) _ _ _); first | refine ev_tname (by assumption) ?_ | refine ev_gname (by assumption) ?_)
      ((with_reducible show ∃ c, CmpG _ _ _ _ _ _ c ∧ _); refine ⟨_, Cmp.gen (by constructor), ?_⟩)
      rfl
    refine ⟨true, by simp, if_ff rfl ?_⟩
    refine EvSt.toG ?_
    ((with_reducible show EvS _ _ _ _ _ [] _ _ _); refine evs_nil ?_)
    refine evsG_cons (EvSt.toG ?_)
    ((with_reducible show EvX _ _ _ _ _ (.Return (some _) _) _ _ _); refine evx_ret ?_)
    ((with_reducible show EvE _ _ _ _ _ (.Constant (.bool _) _ _) _ _ _); refine ev_bool ?_)
    exact ⟨⟨_, rfl⟩, _, by (repeat (first | exact subP_app2 _ _ | apply SubP.more)), hq⟩
  refine if_ff (decide_eq_false hm0) ?_
  refine EvStW.weak (m1 := [("count", .int cnt), ("mode", .int md), ("place", .int pl), ("pick", .int pk), ("rows", .ref D), ("lines", .ref E)]) (σ1 := [(E, .list (((rs.map rl).map (·.1)).map .str)), (L + 1, .cell (some (.ref l))), (l, ob)]) (by walk_at "mv_le") (SubP.cons .head (SubP.more _ (subP_app _))) ?_
  ((with_reducible show EvStW _ _ _ _ _ _ (execs (.Assign _ _ _ :: _) _) _ _ _); refine evsW_cons (EvSt.toV ?_))
  ((with_reducible show EvX _ _ _ _ _ (.Assign [.Name _ _] _ _) _ _ _); first | refine evx_assign ?_ | refine evx_assign_cell (by rfl) ?_)
  ((with_reducible show EvE _ _ _ _ _ (.Call (.Name _ _) (_ :: _) [] _) _ _ _); first | refine ev_bfn (by assumption) ?_ | refine ev_tfn (by assumption) ?_ | refine ev_fn (by assumption) (by assumption) ?_)
  ((with_reducible show EvA _ _ _ _ _ _ (_ :: _) _ _ _); refine eva_cons ?_)
  ((with_reducible show EvE _ _ _ _ _ (.BinOp _ .FloorDiv _ _) _ _ _); refine ev_binop ?_)
  ((with_reducible show EvE _ _ _ _ _ (.Call (.Name _ _) (_ :: _) [] _) _ _ _); first | refine ev_bfn (by assumption) ?_ | refine ev_tfn (by assumption) ?_ | refine ev_fn (by assumption) (by assumption) ?_)
  ((with_reducible show EvA _ _ _ _ _ _ (_ :: _) _ _ _); refine eva_cons ?_)
  ((with_reducible show EvE _ _ _ _ _ (.Name _ _) _ _ _); refine ev_cell (by rfl) (by walk_at "mv_mem") ?_)
  ((with_reducible show EvA _ _ _ _ _ _ (_ :: _) _ _ _); refine eva_cons ?_)
  ((with_reducible show EvE _ _ _ _ _ (.Constant (.int _) _ _) _ _ _); refine ev_int ?_)
  ((with_reducible show EvA _ _ _ _ _ _ [] _ _ _); refine eva_nil ?_)
  refine cell_spec C hC BL (by walk_at "mv_mem") hl hz (j := 4) rfl (by omega) ?_
  ((with_reducible show EvE _ _ _ _ _ (.Constant (.int _) _ _) _ _ _); refine ev_int ?_)
  ((with_reducible show ∃ c, Bin .FloorDiv _ _ c ∧ _); refine ⟨_, Bin.div _ _ (by first | decide | omega) (by first | decide | omega), ?_⟩)
  ((with_reducible show EvA _ _ _ _ _ _ [] _ _ _); refine eva_nil ?_)
  refine name_spec C hNm BC ?_
  have hnm := nm_ok (cz ns 4 / 8)
  generalize nmOf (cz ns 4 / 8) = n at *
  have fin : ∀ x : Str, Bad x → EvStW prog w Bs P (k + 4) (callEnvC (docDef (defAt pw_k6_0113 14).name (defAt pw_k6_0113 14).params (defAt pw_k6_0113 14).body (defAt pw_k6_0113 14).scope pm (.ref c) doc) L f) (execs ((defAt pw_k6_0113 14).body.drop 9) (callEnvC (docDef (defAt pw_k6_0113 14).name (defAt pw_k6_0113 14).params (defAt pw_k6_0113 14).body (defAt pw_k6_0113 14).scope pm (.ref c) doc) L f))
      [("count", .int cnt), ("mode", .int md), ("place", .int pl), ("pick", .int pk), ("rows", .ref D), ("lines", .ref E), ("name", .str n)] [(E, .list ((((rs.map rl).map (·.1)).map V.str).take (pl : Int).toNat ++ .str x :: (((rs.map rl).map (·.1)).map V.str).drop (pl : Int).toNat)), (L + 1, .cell (some (.ref l))), (l, ob)] (fun fl _ σ' => ∃ σ'', SubP σ'' σ' ∧ Q (retOf fl) σ'') := by
    intro x hx
    obtain ⟨ws, hx1, hx2⟩ := hx
    have el : (((rs.map rl).map (·.1)).map V.str).take (pl : Int).toNat ++ .str x :: (((rs.map rl).map (·.1)).map V.str).drop (pl : Int).toNat = ((((rs.map rl).take pl ++ (x, ws) :: (rs.map rl).drop pl)).map (·.1)).map V.str := by
      rw [Int.toNat_natCast]
      simp [List.map_take, List.map_drop]
    rw [el]
    have hA : ∀ q ∈ (rs.map rl).take pl, LnOk q.1 q.2 ∧ lineO q.2 ≠ none := fun q hq' => hokr q (List.mem_of_mem_take hq')
    have hB : ∀ q ∈ (rs.map rl).drop pl, LnOk q.1 q.2 ∧ lineO q.2 ≠ none := fun q hq' => hokr q (List.mem_of_mem_drop hq')
    have hAl : ((rs.map rl).take pl).length = pl := by rw [List.length_take, List.length_map]; omega
    have hBl : ((rs.map rl).drop pl).length ≤ 4 := by rw [List.length_drop, List.length_map]; omega
    generalize (rs.map rl).take pl = A at *
    generalize (rs.map rl).drop pl = B at *
    obtain ⟨J1, J2, lns', J3, J4, J5, J6, J7⟩ := joined (A ++ (x, ws) :: B) (fun p hp => by
      rcases List.mem_append.mp hp with hp | hp
      · exact (hA p hp).1
      · rcases List.mem_cons.mp hp with rfl | hp
        · exact hx1
        · exact (hB p hp).1) (by simp; omega)
    obtain ⟨_, rfl⟩ : A ++ (x, ws) :: B ≠ [] ∧ lns' = A ++ (x, ws) :: B := J7.resolve_left (by simp)
    refine evsW_cons (EvSt.toV ?_)
    ((with_reducible show EvX _ _ _ _ _ (.Assign [.Name _ _] _ _) _ _ _); first | refine evx_assign ?_ | refine evx_assign_cell (by rfl) ?_)
    ((with_reducible show EvE _ _ _ _ _ (.Constant (.str _) _ _) _ _ _); refine ev_str ?_)
    refine evsW_cons (evxV_try_said BV Bs' ?_)
    refine evsV_cons (evxV_expr (evV_fn C hR ?_))
    ((with_reducible show EvA _ _ _ _ _ _ (_ :: _) _ _ _); refine eva_cons ?_)
    ((with_reducible show EvE _ _ _ _ _ (.Call (.Attribute _ "join" _) _ _ _) _ _ _); refine ev_meth PySem.F.plainAttrs_str PySem.F.slot_str_join PySem.F.type_str_join ?_)
    ((with_reducible show EvE _ _ _ _ _ (.Constant (.str _) _ _) _ _ _); refine ev_str ?_)
    ((with_reducible show Kd _ _ _ ∧ _); first | refine ⟨Kd.list (by walk_at "mv_mem") (by rfl), ?_⟩ | refine ⟨Kd.dict (by walk_at "mv_mem") (by rfl), ?_⟩ | refine ⟨Kd.str _, ?_⟩)
    ((with_reducible show EvA _ _ _ _ _ _ (_ :: _) _ _ _); refine eva_cons ?_)
    ((with_reducible show EvE _ _ _ _ _ (.Name _ _) _ _ _); refine ev_local (by rfl) ?_)
    ((with_reducible show EvA _ _ _ _ _ _ [] _ _ _); refine eva_nil ?_)
    refine bf_joinJ (by walk_at "mv_mem") rfl J2 (fun z hz' => ?_) (size_le (by omega)) ?_
    · obtain ⟨p, hp, rfl⟩ := List.mem_map.mp hz'
      exact size_le (Nat.le_trans (J4 p hp).len (by decide))
    ((with_reducible show EvA _ _ _ _ _ _ [] _ _ _); refine eva_nil ?_)
    refine read_spec C hR hN hS hP hK BI Bi Bb Bs' BL BE BV GN GM _ J3 J4 J5 J1 (fun hall _ => absurd hx2 (hall (x, ws) (by simp))) fun pre p post e hp hb msg hmsg => ?_
    have hpl' : pre.length = pl := by rw [only_bad rfl e (fun q hq' => (hA q hq').2) hx2 hp hb, hAl]
    rw [hpl']
    refine ⟨_, rfl, rfl, ?_⟩
    refine evsW_cons (EvSt.toV ?_)
    ((with_reducible show EvX _ _ _ _ _ (.If _ _ _ _) _ _ _); refine evx_if ?_)
    ((with_reducible show EvB _ _ _ _ _ (.Compare _ _ _ _) _ _ _); refine evb_cmpG ?_)
    ((with_reducible show EvE _ _ _ _ _ (.BinOp _ .Add _ _) _ _ _); refine ev_addG ?_)
    ((with_reducible show EvE _ _ _ _ _ (.Constant (.str _) _ _) _ _ _); refine ev_str ?_)
    ((with_reducible show EvE _ _ _ _ _ (.Call (.Name _ _) (_ :: _) [] _) _ _ _); first | refine ev_bfn (by assumption) ?_ | refine ev_tfn (by assumption) ?_ | refine ev_fn (by assumption) (by assumption) ?_)
    ((with_reducible show EvA _ _ _ _ _ _ (_ :: _) _ _ _); refine eva_cons ?_)
    ((with_reducible show EvE _ _ _ _ _ (.BinOp _ .Add _ _) _ _ _); refine ev_addG ?_)
    ((with_reducible show EvE _ _ _ _ _ (.Name _ _) _ _ _); refine ev_local (by rfl) ?_)
    ((with_reducible show EvE _ _ _ _ _ (.Constant (.int _) _ _) _ _ _); refine ev_int ?_)
    ((with_reducible show AddG _ _ _ (.int _) (.int _) _); refine addG_int ?_)
    ((with_reducible show EvA _ _ _ _ _ _ [] _ _ _); refine eva_nil ?_)
    have e1 : (pl : Int) + 1 = ((pl + 1 : Nat) : Int) := by omega
    rw [e1]
    have tl : (Str.ofString (toString ((pl + 1 : Nat) : Int))).length ≤ 30 := tx_len (by omega)
    refine bf_str_int (log_ok (by omega)) ?_
    ((with_reducible show AddG _ _ _ (.str _) (.str _) _); refine addG_str (size_le (by walk_at "mlen")) ?_)
    ((with_reducible show EvE _ _ _ _ _ (.Name _ _) _ _ _); refine ev_local (by rfl) ?_)
    refine ⟨_, cmp_notInT, ?_⟩
    rw [said_line]
    refine if_ff rfl ?_
    ((with_reducible show EvS _ _ _ _ _ [] _ _ _); refine evs_nil ?_)
    refine evsW_cons (EvSt.toV ?_)
    ((with_reducible show EvX _ _ _ _ _ (.Return (some _) _) _ _ _); refine evx_ret ?_)
    ((with_reducible show EvE _ _ _ _ _ (.Constant (.bool _) _ _) _ _ _); refine ev_bool ?_)
    exact ⟨_, by walk_at "mv_sub", hq⟩
  refine evsW_cons (EvSt.toV ?_)
  ((with_reducible show EvX _ _ _ _ _ (.If _ _ _ _) _ _ _); refine evx_if ?_)
  ((with_reducible show EvB _ _ _ _ _ (.Compare _ _ _ _) _ _ _); refine evb_cmpG ?_)
  ((with_reducible show EvE _ _ _ _ _ (.Name _ _) _ _ _); refine ev_local (by rfl) ?_)
  ((with_reducible show EvE _ _ _ _ _ (.Constant (.int _) _ _) _ _ _); refine ev_int ?_)
  ((with_reducible show ∃ c, CmpG _ _ _ _ _ _ c ∧ _); refine ⟨_, Cmp.gen (by constructor), ?_⟩)
  by_cases hm1 : md = 1
  · refine if_tt (decide_eq_true hm1) ?_
    ((with_reducible show EvS _ _ _ _ _ _ _ _ _); refine evs_cons ?_)
    ((with_reducible show EvX _ _ _ _ _ (.Expr _ _) _ _ _); refine evx_expr ?_)
    ((with_reducible show EvE _ _ _ _ _ (.Call (.Attribute _ "insert" _) _ _ _) _ _ _); refine ev_meth PySem.F.plainAttrs_list PySem.F.slot_list_insert PySem.F.type_list_insert ?_)
    ((with_reducible show EvE _ _ _ _ _ (.Name _ _) _ _ _); refine ev_local (by rfl) ?_)
    ((with_reducible show Kd _ _ _ ∧ _); first | refine ⟨Kd.list (by walk_at "mv_mem") (by rfl), ?_⟩ | refine ⟨Kd.dict (by walk_at "mv_mem") (by rfl), ?_⟩ | refine ⟨Kd.str _, ?_⟩)
    ((with_reducible show EvA _ _ _ _ _ _ (_ :: _) _ _ _); refine eva_cons ?_)
    ((with_reducible show EvE _ _ _ _ _ (.Name _ _) _ _ _); refine ev_local (by rfl) ?_)
    ((with_reducible show EvA _ _ _ _ _ _ (_ :: _) _ _ _); refine eva_cons ?_)
    ((with_reducible show EvE _ _ _ _ _ (.Call (.Name _ _) (_ :: _) [] _) _ _ _); first | refine ev_bfn (by assumption) ?_ | refine ev_tfn (by assumption) ?_ | refine ev_fn (by assumption) (by assumption) ?_)
    ((with_reducible show EvA _ _ _ _ _ _ (_ :: _) _ _ _); refine eva_cons ?_)
    ((with_reducible show EvE _ _ _ _ _ (.Name _ _) _ _ _); refine ev_local (by rfl) ?_)
    ((with_reducible show EvA _ _ _ _ _ _ (_ :: _) _ _ _); refine eva_cons ?_)
    ((with_reducible show EvE _ _ _ _ _ (.Name _ _) _ _ _); refine ev_local (by rfl) ?_)
    ((with_reducible show EvA _ _ _ _ _ _ [] _ _ _); refine eva_nil ?_)
    refine form_spec C hWf hnm.len hk8 ?_
    ((with_reducible show EvA _ _ _ _ _ _ [] _ _ _); refine eva_nil ?_)
    refine bf_insert (by walk_at "mv_up") (by omega) (by simp; omega) (by simp; omega) ?_
    ((with_reducible show NoRef _ ∧ _); refine ⟨by constructor, ?_⟩)
    ((with_reducible show EvS _ _ _ _ _ [] _ _ _); refine evs_nil ?_)
    exact fin _ (form_bad hnm hk8)
  · refine if_ff (decide_eq_false hm1) ?_
    ((with_reducible show EvS _ _ _ _ _ _ _ _ _); refine evs_cons ?_)
    ((with_reducible show EvX _ _ _ _ _ (.Expr _ _) _ _ _); refine evx_expr ?_)
    ((with_reducible show EvE _ _ _ _ _ (.Call (.Attribute _ "insert" _) _ _ _) _ _ _); refine ev_meth PySem.F.plainAttrs_list PySem.F.slot_list_insert PySem.F.type_list_insert ?_)
    ((with_reducible show EvE _ _ _ _ _ (.Name _ _) _ _ _); refine ev_local (by rfl) ?_)
    ((with_reducible show Kd _ _ _ ∧ _); first | refine ⟨Kd.list (by walk_at "mv_mem") (by rfl), ?_⟩ | refine ⟨Kd.dict (by walk_at "mv_mem") (by rfl), ?_⟩ | refine ⟨Kd.str _, ?_⟩)
    ((with_reducible show EvA _ _ _ _ _ _ (_ :: _) _ _ _); refine eva_cons ?_)
    ((with_reducible show EvE _ _ _ _ _ (.Name _ _) _ _ _); refine ev_local (by rfl) ?_)
    ((with_reducible show EvA _ _ _ _ _ _ (_ :: _) _ _ _); refine eva_cons ?_)
    ((with_reducible show EvE _ _ _ _ _ (.Call (.Name _ _) (_ :: _) [] _) _ _ _); first | refine ev_bfn (by assumption) ?_ | refine ev_tfn (by assumption) ?_ | refine ev_fn (by assumption) (by assumption) ?_)
    ((with_reducible show EvA _ _ _ _ _ _ (_ :: _) _ _ _); refine eva_cons ?_)
    ((with_reducible show EvE _ _ _ _ _ (.Name _ _) _ _ _); refine ev_local (by rfl) ?_)
    ((with_reducible show EvA _ _ _ _ _ _ (_ :: _) _ _ _); refine eva_cons ?_)
    ((with_reducible show EvE _ _ _ _ _ (.Name _ _) _ _ _); refine ev_local (by rfl) ?_)
    ((with_reducible show EvA _ _ _ _ _ _ (_ :: _) _ _ _); refine eva_cons ?_)
    ((with_reducible show EvE _ _ _ _ _ (.Call (.Name _ _) (_ :: _) [] _) _ _ _); first | refine ev_bfn (by assumption) ?_ | refine ev_tfn (by assumption) ?_ | refine ev_fn (by assumption) (by assumption) ?_)
    ((with_reducible show EvA _ _ _ _ _ _ (_ :: _) _ _ _); refine eva_cons ?_)
    ((with_reducible show EvE _ _ _ _ _ (.Name _ _) _ _ _); refine ev_cell (by rfl) (by walk_at "mv_mem") ?_)
    ((with_reducible show EvA _ _ _ _ _ _ (_ :: _) _ _ _); refine eva_cons ?_)
    ((with_reducible show EvE _ _ _ _ _ (.Constant (.int _) _ _) _ _ _); refine ev_int ?_)
    ((with_reducible show EvA _ _ _ _ _ _ [] _ _ _); refine eva_nil ?_)
    refine cell_spec C hC BL (by walk_at "mv_mem") hl hz (j := 5) rfl (by omega) ?_
    ((with_reducible show EvA _ _ _ _ _ _ [] _ _ _); refine eva_nil ?_)
    refine part_spec C hWp Bs' hnm.len hk8 ?_
    ((with_reducible show EvA _ _ _ _ _ _ [] _ _ _); refine eva_nil ?_)
    refine bf_insert (by walk_at "mv_up") (by omega) (by simp; omega) (by simp; omega) ?_
    ((with_reducible show NoRef _ ∧ _); refine ⟨by constructor, ?_⟩)
    ((with_reducible show EvS _ _ _ _ _ [] _ _ _); refine evs_nil ?_)
    exact fin _ (part_bad (cz ns 5) hnm hk8)
end
end Mine

open PySem PySem.W PyProof.Rows Mine
set_option Elab.async false
set_option maxRecDepth 100000 in
set_option maxHeartbeats 8000000 in
theorem PySem.Challenge.cw_k6_0113_holds : PySem.Challenge.rw_k6_0113.Holds := by
  w_on
  o_law
  k_head
  (case hw => w_witness2)
  k_fill
  intro w s₀ s₁ mg mb G Y fa o pm cd doc dV kV ho hd hcd hD hmg hg args vals as hpre hlay hrd hwl hlo
  have KX := kIn_of Y
  have hlo2 := hlo
  refine Ground.open G ?_
  intro T B D TE TW
  wrow_args hpre hlay hrd hwl hlo
  rename_i ns hs hlay0 hL1 hr1 hl2 bs cs l vs ds hL ra w1 r0 hI hr hc1 hc2
  have ho1 := lst_of hL w1
  have hsys := sys_of r0 hlo2
  have hlen : ns.length ≤ 63 := by omega
  obtain ⟨c, P, hic, htc, hcode⟩ := Mine.tab_of T (d := defAt Challenge.pw_k6_0113 14) (by repeat (first | exact List.Mem.head _ | refine List.Mem.tail _ ?_))
  obtain ⟨f14, pm14, code14, doc14, F14⟩ := fn_mask2 ho1 htc.2 T (fn := "law") (d := defAt Challenge.pw_k6_0113 14) (by repeat (first | exact List.Mem.head _ | refine List.Mem.tail _ ?_)) rfl
  obtain ⟨f13, pm13, code13, doc13, F13⟩ := fn_mask2 ho1 htc.2 T (fn := "_law_wrong_part") (d := defAt Challenge.pw_k6_0113 13) (by repeat (first | exact List.Mem.head _ | refine List.Mem.tail _ ?_)) rfl
  obtain ⟨f12, pm12, code12, doc12, F12⟩ := fn_mask2 ho1 htc.2 T (fn := "_law_wrong_form") (d := defAt Challenge.pw_k6_0113 12) (by repeat (first | exact List.Mem.head _ | refine List.Mem.tail _ ?_)) rfl
  obtain ⟨f11, pm11, code11, doc11, F11⟩ := fn_mask2 ho1 htc.2 T (fn := "_law_sound") (d := defAt Challenge.pw_k6_0113 11) (by repeat (first | exact List.Mem.head _ | refine List.Mem.tail _ ?_)) rfl
  obtain ⟨f10, pm10, code10, doc10, F10⟩ := fn_mask2 ho1 htc.2 T (fn := "_law_name") (d := defAt Challenge.pw_k6_0113 10) (by repeat (first | exact List.Mem.head _ | refine List.Mem.tail _ ?_)) rfl
  obtain ⟨f9, pm9, code9, doc9, F9⟩ := fn_mask2 ho1 htc.2 T (fn := "_law_cell") (d := defAt Challenge.pw_k6_0113 9) (by repeat (first | exact List.Mem.head _ | refine List.Mem.tail _ ?_)) rfl
  obtain ⟨f7, pm7, code7, doc7, F7⟩ := fn_mask2 ho1 htc.2 T (fn := "read_trace") (d := defAt Challenge.pw_k6_0113 7) (by repeat (first | exact List.Mem.head _ | refine List.Mem.tail _ ?_)) rfl
  obtain ⟨f6, pm6, code6, doc6, F6⟩ := fn_mask2 ho1 htc.2 T (fn := "parse_signed") (d := defAt Challenge.pw_k6_0113 6) (by repeat (first | exact List.Mem.head _ | refine List.Mem.tail _ ?_)) rfl
  obtain ⟨f5, pm5, code5, doc5, F5⟩ := fn_mask2 ho1 htc.2 T (fn := "parse_number") (d := defAt Challenge.pw_k6_0113 5) (by repeat (first | exact List.Mem.head _ | refine List.Mem.tail _ ?_)) rfl
  obtain ⟨f4, pm4, code4, doc4, F4⟩ := fn_mask2 ho1 htc.2 T (fn := "check_number") (d := defAt Challenge.pw_k6_0113 4) (by repeat (first | exact List.Mem.head _ | refine List.Mem.tail _ ?_)) rfl
  obtain ⟨f3, pm3, code3, doc3, F3⟩ := fn_mask2 ho1 htc.2 T (fn := "check_name") (d := defAt Challenge.pw_k6_0113 3) (by repeat (first | exact List.Mem.head _ | refine List.Mem.tail _ ?_)) rfl
  have hfa : fa = f14 := by
    have h4 := F14.name
    have h5 : mg (defAt Challenge.pw_k6_0113 14).name = some (.ref fa) := hmg
    rw [h5] at h4
    exact Value.ref.inj (Option.some.inj h4)
  subst hfa
  have hcd2 : code14 = .ref c := by
    obtain ⟨o', ho', hd'⟩ := F14.obj
    exact hcode _ _ _ F14.name (mask_sub ho') hd'
  subst hcd2
  refine law_glueW ho1 hI hg T hsys htc (by intro cls; rfl) (by wrow_post) ?_
  refine law_spec (ctx_mask2 ho1 htc.2 T) (bmain_mask2 ho1 htc.2 T) (codeAt_mask2 ho1 hic htc) F14 F13 F12 F11 F10 F9 F7 F6 F5 F4 F3 (bi_mask2 ho1 htc.2 T (by decide +kernel) (by decide) (by rfl)) (bi_mask2 ho1 htc.2 T (by decide +kernel) (by decide) (by rfl)) (bi_mask2 ho1 htc.2 T (by decide +kernel) (by decide) (by rfl)) (bi_mask2 ho1 htc.2 T (by decide +kernel) (by decide) (by rfl)) (bi_mask2 ho1 htc.2 T (by decide +kernel) (by decide) (by rfl)) (bi_mask2 ho1 htc.2 T (by decide +kernel) (by decide) (by rfl)) (bi_mask2 ho1 htc.2 T (by decide +kernel) (by decide) (by rfl)) (bi_mask2 ho1 htc.2 T (by decide +kernel) (by decide) (by rfl)) (bi_mask2 ho1 htc.2 T (by decide +kernel) (by decide) (by rfl)) (bi_mask2 ho1 htc.2 T (by decide +kernel) (by decide) (by rfl)) (bi_mask2 ho1 htc.2 T (by decide +kernel) (by decide) (by rfl)) ⟨ctx_mask2 ho1 htc.2 T, _, mg_of KX T.g (by rfl), by constructor⟩ ⟨ctx_mask2 ho1 htc.2 T, _, mg_of KX T.g (by rfl), by constructor⟩ rfl hlen ⟨rfl, rfl⟩
