import PyProof.Rows.All
import Wide.All
import OpenK.AllK
import PyProof.DictRoads
import PyProof.DictRoadsH
import PyProof.DictIter
import PyProof.CompFree
import PyProof.ForAny
import PyProof.DefCall
import PyProof.RaisesMany
import PyProof.Rules3
import PyProof.Ns1
import PyProof.Cells
import PyProof.NoPylong
import PyProof.Rows.TupAssign
import PyProof.WalksPairs
import PyProof.WalksMore
import PyProof.EnumStmt
import PyProof.DictWalks
import PyProof.RangeIter
import PyProof.PlainList
import PyProof.CompMap
import PyProof.CompUse
import PyProof.MinMaxWalk
import PyProof.WalkInts
import PyProof.IsiPairs
import PyProof.CallRoads
import PyProof.ListCopy
import PyProof.RangeFor
import PyProof.IsiHeapPairs
import PyProof.AssignAttr
import PyProof.ListIndex
import PyProof.MeetsDict
import PyProof.DictValues
import PyProof.ListRange
import PyProof.ListMulAny
import PyProof.ListMulRoad
import PyProof.Rows.ListMulArg
import PyProof.Rows.SetFrom
import PyProof.DictDisplay
import PyProof.MeetsDictList
import KE.KDictSum
import KE.KDictOf
import PyProof.RulesAs
import PyProof.ExcClass3
import PyProof.ExcBaseAll.ValueError
import KE.KTryMore
import KE.KIsAll
import PyProof.StrLawsTight
import PyProof.StrLawsChain
import PyProof.StrLawsIn
import PyProof.StrBlockH
import PyProof.Rows.StrBin
import PyProof.Rows.ReprOcc
import KE.KIntText
import PyProof.StrOps
import PyProof.StrLoop
import PyProof.CallStr
import PyProof.TupleOfSeq
import PyProof.SliceStr2
import PyProof.StrCalls2
import PyProof.Rows.StrJoin2
import PyProof.AttrMissHeap
import KE.KEqDict
import PyProof.Conv_int_bool
import PyProof.ConsumeWalk
import PySem.Challenge.RW_uf040033_10
set_option Elab.async false
set_option linter.all false
set_option maxRecDepth 100000
set_option maxHeartbeats 8000000
set_option genSizeOf false
set_option genInjectivity false
set_option backward.eqns.nonrecursive false
namespace Mine
section
open PySem
/-- abstract values: what a Python value means, without tokens; tuples are plain data -/
inductive V where
  | none
  | bool (b : Bool)
  | int (i : Int)
  | str (x : Str)
  | ref (a : Addr)
  | tup (xs : List V)
  | frz (xs : List V)
/-- abstract objects -/
inductive AO where
  | list (xs : List V)
  | dictI (kvs : List (Int × V)) (ep : Nat)
  | dictS (kvs : List (Str × V)) (ep : Nat)
  | dictT (kvs : List (List Int × V)) (ep : Nat)
  | inst (C d : Addr)
  | attrs (kvs : List (Str × V))
  | exc (C : Addr)
noncomputable abbrev AH := Addr → Option AO
noncomputable abbrev Loc := String → Option V
noncomputable def AH.set (σ : AH) (a : Addr) (o : AO) : AH := fun b => if b = a then some o else σ b
noncomputable def Loc.set (ℓ : Loc) (i : String) (v : V) : Loc := fun j => cond (j == i) (some v) (ℓ j)
theorem Loc.set_at {ℓ : Loc} {i j : String} {v : V} : (ℓ.set i v) j = if j = i then some v else ℓ j := by
  unfold Loc.set
  by_cases h : j = i
  · rw [if_pos h, beq_iff_eq.mpr h]; rfl
  · rw [if_neg h, beq_eq_false_iff_ne.mpr h]; rfl
/-- the ground: program, world, the heap in which the law is called -/
structure Gr where
  prog : Program
  w : World
  b0 : Heap
  /-- tuples that the interpreter keeps to itself: no value is one of them -/
  hid : Addr → Prop
/-- another set of hidden tuples -/
noncomputable def Gr.wh (g : Gr) (H : Addr → Prop) : Gr := { g with hid := H }
/-- sizes that stay under every line of the model -/
noncomputable def Fits (n : Nat) : Prop := n ≤ 1000000
theorem Fits.line {n : Nat} (h : Fits n) : n ≤ sizeLine := by unfold Fits at h; have : sizeLine = 16777216 := rfl; omega
theorem Fits.le {n m : Nat} (h : Fits n) (k : m ≤ n) : Fits m := Nat.le_trans k h
theorem Fits.fit {n : Nat} (h : Fits n) : (n : Int) < 2 ^ 63 := by unfold Fits at h; omega
mutual
/-- the value v bears the datum, in the heap h over the base b0 -/
noncomputable def VR (g : Gr) (h : Heap) : V → Value → Prop
  | .none, v => v = .none
  | .bool b, v => v = .bool b
  | .int i, v => ∃ t, v = .int i t
  | .str x, v => Fits x.length ∧ ∃ t, v = .str x t
  | .ref a, v => v = .ref a
  | .tup xs, v => Fits xs.length ∧ ∃ a o vs n, v = .ref a ∧ ¬ g.hid a ∧ h.get? a = some o ∧ o.cls = .type "tuple" ∧ o.data = .seq vs n ∧ VRs g h xs vs.toList
  | .frz xs, v => Fits xs.length ∧ ∃ a o vs n, v = .ref a ∧ g.b0.get? a = some o ∧ o.cls = .type "list" ∧ o.data = .seq vs n ∧ VRs g h xs vs.toList
noncomputable def VRs (g : Gr) (h : Heap) : List V → List Value → Prop
  | [], vs => vs = []
  | x :: xs, vs => ∃ v r, vs = v :: r ∧ VR g h x v ∧ VRs g h xs r
end
section
variable {g : Gr} {h h' : Heap}
theorem VR_none {v : Value} : VR g h .none v ↔ v = .none := by unfold VR; exact Iff.rfl
theorem VR_bool {b : Bool} {v : Value} : VR g h (.bool b) v ↔ v = .bool b := by unfold VR; exact Iff.rfl
theorem VR_int {i : Int} {v : Value} : VR g h (.int i) v ↔ ∃ t, v = .int i t := by unfold VR; exact Iff.rfl
theorem VR_str {x : Str} {v : Value} : VR g h (.str x) v ↔ Fits x.length ∧ ∃ t, v = .str x t := by unfold VR; exact Iff.rfl
theorem VR_ref {a : Addr} {v : Value} : VR g h (.ref a) v ↔ v = .ref a := by unfold VR; exact Iff.rfl
inductive TupAt (g : Gr) (h : Heap) (xs : List V) (v : Value) : Prop
  | mk (hf : Fits xs.length) (a : Addr) (o : Obj) (vs : Array Value) (n : Nat) (e : v = .ref a) (nh : ¬ g.hid a) (ho : h.get? a = some o) (hc : o.cls = .type "tuple") (hd : o.data = .seq vs n) (r : VRs g h xs vs.toList) : TupAt g h xs v
inductive FrzAt (g : Gr) (h : Heap) (xs : List V) (v : Value) : Prop
  | mk (hf : Fits xs.length) (a : Addr) (o : Obj) (vs : Array Value) (n : Nat) (e : v = .ref a) (ho : g.b0.get? a = some o) (hc : o.cls = .type "list") (hd : o.data = .seq vs n) (r : VRs g h xs vs.toList) : FrzAt g h xs v
inductive ConsAt (g : Gr) (h : Heap) (x : V) (xs : List V) (vs : List Value) : Prop
  | mk (v : Value) (r : List Value) (e : vs = v :: r) (a : VR g h x v) (b : VRs g h xs r) : ConsAt g h x xs vs
theorem VR_tup {xs : List V} {v : Value} : VR g h (.tup xs) v ↔ TupAt g h xs v := by
  rw [VR]; exact ⟨fun ⟨a, b, c, d, e, f, g, h, i, j, k⟩ => ⟨a, b, c, d, e, f, g, h, i, j, k⟩, fun ⟨a, b, c, d, e, f, g, h, i, j, k⟩ => ⟨a, b, c, d, e, f, g, h, i, j, k⟩⟩
theorem VR_frz {xs : List V} {v : Value} : VR g h (.frz xs) v ↔ FrzAt g h xs v := by
  rw [VR]; exact ⟨fun ⟨a, b, c, d, e, f, g, h, i, j⟩ => ⟨a, b, c, d, e, f, g, h, i, j⟩, fun ⟨a, b, c, d, e, f, g, h, i, j⟩ => ⟨a, b, c, d, e, f, g, h, i, j⟩⟩
theorem VRs_nil : VRs g h [] [] := by unfold VRs; rfl
theorem VRs_cons {x : V} {xs : List V} {v : Value} {vs : List Value} (a : VR g h x v) (b : VRs g h xs vs) : VRs g h (x :: xs) (v :: vs) := by
  unfold VRs; exact ⟨v, vs, rfl, a, b⟩
theorem VRs_cons_inv {x : V} {xs : List V} {vs : List Value} (a : VRs g h (x :: xs) vs) : ConsAt g h x xs vs := by
  unfold VRs at a; exact let ⟨v, r, e, a, b⟩ := a; ⟨v, r, e, a, b⟩
theorem VRs_nil_inv {vs : List Value} (a : VRs g h [] vs) : vs = [] := by
  unfold VRs at a; exact a
theorem VRs_length : ∀ {xs : List V} {vs : List Value}, VRs g h xs vs → xs.length = vs.length
  | [], vs, a => by rw [VRs_nil_inv a]; rfl
  | x :: xs, vs, a => by obtain ⟨v, r, rfl, _, b⟩ := VRs_cons_inv a; simp [VRs_length b]
theorem VRs_get : ∀ {xs : List V} {vs : List Value}, VRs g h xs vs → ∀ {i : Nat} {x : V}, xs[i]? = some x → ∃ v, vs[i]? = some v ∧ VR g h x v
  | [], vs, a, i, x, e => by simp at e
  | y :: xs, vs, a, i, x, e => by
    obtain ⟨v, r, rfl, hv, b⟩ := VRs_cons_inv a
    cases i with
    | zero => simp at e; subst e; exact ⟨v, by simp, hv⟩
    | succ i => simp at e; obtain ⟨w, h1, h2⟩ := VRs_get b e; exact ⟨w, by simpa using h1, h2⟩
theorem VRs_append : ∀ {xs ys : List V} {vs us : List Value}, VRs g h xs vs → VRs g h ys us → VRs g h (xs ++ ys) (vs ++ us)
  | [], ys, vs, us, a, b => by rw [VRs_nil_inv a]; exact b
  | x :: xs, ys, vs, us, a, b => by obtain ⟨v, r, rfl, hv, c⟩ := VRs_cons_inv a; exact VRs_cons hv (VRs_append c b)
theorem VRs_snoc {xs : List V} {x : V} {vs : List Value} {v : Value} (a : VRs g h xs vs) (b : VR g h x v) : VRs g h (xs ++ [x]) (vs ++ [v]) :=
  VRs_append a (VRs_cons b VRs_nil)
theorem VRs_drop : ∀ {xs : List V} {vs : List Value} (n : Nat), VRs g h xs vs → VRs g h (xs.drop n) (vs.drop n)
  | xs, vs, 0, a => a
  | [], vs, n + 1, a => by rw [VRs_nil_inv a]; exact VRs_nil
  | x :: xs, vs, n + 1, a => by obtain ⟨v, r, rfl, hv, b⟩ := VRs_cons_inv a; exact VRs_drop n b
theorem VRs_take : ∀ {xs : List V} {vs : List Value} (n : Nat), VRs g h xs vs → VRs g h (xs.take n) (vs.take n)
  | xs, vs, 0, a => VRs_nil
  | [], vs, n + 1, a => by rw [VRs_nil_inv a]; exact VRs_nil
  | x :: xs, vs, n + 1, a => by obtain ⟨v, r, rfl, hv, b⟩ := VRs_cons_inv a; exact VRs_cons hv (VRs_take n b)
end
/-- an object is kept, but perhaps for its slots -/
noncomputable def UpTo (h' : Heap) (a : Addr) (o : Obj) : Prop := h'.get? a = some o ∨ ∃ es n sl, o.data = .dict es n ∧ h'.get? a = some { o with slots := sl }
theorem UpTo.of {h' : Heap} {a : Addr} {o : Obj} (e : h'.get? a = some o) : UpTo h' a o := .inl e
theorem UpTo.sl {h' : Heap} {a : Addr} {o : Obj} (x : UpTo h' a o) : ∃ sl, h'.get? a = some { o with slots := sl } := by
  rcases x with e | ⟨_, _, sl, _, e⟩
  · exact ⟨o.slots, e⟩
  · exact ⟨sl, e⟩
/-- what is no table is kept as it is -/
theorem UpTo.exact {h' : Heap} {a : Addr} {o : Obj} (x : UpTo h' a o) (hd : ∀ es n, o.data ≠ .dict es n) : h'.get? a = some o := by
  rcases x with e | ⟨es, n, _, e, _⟩
  · exact e
  · exact absurd e (hd es n)
theorem UpTo.then {h' h'' : Heap} {a : Addr} {o : Obj} (x : UpTo h' a o) (k : ∀ o', h'.get? a = some o' → UpTo h'' a o') : UpTo h'' a o := by
  rcases x with e | ⟨es, n, sl, d, e⟩
  · exact k o e
  · obtain ⟨sl', e'⟩ := (k _ e).sl
    exact .inr ⟨es, n, sl', d, e'⟩
/-- tuples are kept -/
noncomputable def TupsKept (g : Gr) (h h' : Heap) : Prop := ∀ a o vs n, ¬ g.hid a → h.get? a = some o → o.cls = .type "tuple" → o.data = .seq vs n → UpTo h' a o
mutual
theorem VR.mono {g : Gr} {h h' : Heap} (k : TupsKept g h h') : ∀ {x : V} {v : Value}, VR g h x v → VR g h' x v
  | .none, v, a => by rw [VR_none] at a ⊢; exact a
  | .bool b, v, a => by rw [VR_bool] at a ⊢; exact a
  | .int i, v, a => by rw [VR_int] at a ⊢; exact a
  | .str x, v, a => by rw [VR_str] at a ⊢; exact a
  | .ref b, v, a => by rw [VR_ref] at a ⊢; exact a
  | .tup xs, v, a => by
    rw [VR_tup] at a ⊢
    obtain ⟨hf, b, o, vs, n, e, nh, ho, hc, hd, r⟩ := a
    have ho' := (k _ _ _ _ nh ho hc hd).exact (by rw [hd]; intros; exact Data.noConfusion)
    exact ⟨hf, b, _, vs, n, e, nh, ho', hc, hd, VRs.mono k r⟩
  | .frz xs, v, a => by
    rw [VR_frz] at a ⊢
    obtain ⟨hf, b, o, vs, n, e, ho, hc, hd, r⟩ := a
    exact ⟨hf, b, o, vs, n, e, ho, hc, hd, VRs.mono k r⟩
theorem VRs.mono {g : Gr} {h h' : Heap} (k : TupsKept g h h') : ∀ {xs : List V} {vs : List Value}, VRs g h xs vs → VRs g h' xs vs
  | [], vs, a => by rw [VRs_nil_inv a]; exact VRs_nil
  | x :: xs, vs, a => by
    obtain ⟨v, r, rfl, hv, c⟩ := VRs_cons_inv a
    exact VRs_cons (VR.mono k hv) (VRs.mono k c)
end
/-- a dict keyed by tuples of ints, its epoch told -/
noncomputable def DictAtT (g : Gr) (h : Heap) (d : Addr) (xs : List (List Int × Addr × Value)) (ep : Nat) : Prop :=
  ∃ o es, h.get? d = some o ∧ o.ExactDict ∧ o.data = .dict es ep ∧ es.toList = xs.map (entryOfKey (tupleKind (intKind g.prog g.w))) ∧ (∀ x ∈ xs, ¬ g.hid x.2.1 ∧ IsTupleKey (intKind g.prog g.w) h x.1 x.2.1) ∧ (xs.map (·.1)).Nodup
inductive ListAt (g : Gr) (h : Heap) (a : Addr) (xs : List V) : Prop
  | mk (hf : Fits xs.length) (vs : Array Value) (n : Nat) (e : h.get? a = some { cls := .type "list", data := .seq vs n }) (r : VRs g h xs vs.toList) : ListAt g h a xs
inductive DictIAt (g : Gr) (h : Heap) (a : Addr) (kvs : List (Int × V)) (ep : Nat) : Prop
  | mk (hf : Fits kvs.length) (us : List (Int × Value)) (e : h.DictAt (intKind g.prog g.w) a us ep) (k : us.map (·.1) = kvs.map (·.1)) (r : VRs g h (kvs.map (·.2)) (us.map (·.2))) : DictIAt g h a kvs ep
inductive DictSAt (g : Gr) (h : Heap) (a : Addr) (kvs : List (Str × V)) (ep : Nat) : Prop
  | mk (hf : Fits kvs.length) (us : List (Str × Value)) (e : h.DictAt (strKind g.prog g.w) a us ep) (k : us.map (·.1) = kvs.map (·.1)) (r : VRs g h (kvs.map (·.2)) (us.map (·.2))) : DictSAt g h a kvs ep
inductive DictTAt (g : Gr) (h : Heap) (a : Addr) (kvs : List (List Int × V)) (ep : Nat) : Prop
  | mk (hf : Fits kvs.length) (us : List (List Int × Addr × Value)) (e : DictAtT g h a us ep) (k : us.map (·.1) = kvs.map (·.1)) (r : VRs g h (kvs.map (·.2)) (us.map (·.2.2))) : DictTAt g h a kvs ep
inductive ExcObj (h : Heap) (a C : Addr) : Prop
  | mk (o : Obj) (vs : Array Value) (e : h.get? a = some o) (c : o.cls = .ref C) (n : o.dict = none) (d : o.data = .fields vs) : ExcObj h a C
/-- the object at a bears the abstract object -/
noncomputable def OR (g : Gr) (h : Heap) (a : Addr) : AO → Prop
  | .list xs => ListAt g h a xs
  | .dictI kvs ep => DictIAt g h a kvs ep
  | .dictS kvs ep => DictSAt g h a kvs ep
  | .dictT kvs ep => DictTAt g h a kvs ep
  | .inst C d => h.get? a = some { cls := .ref C, dict := some d, data := .plain }
  | .attrs kvs => Fits kvs.length ∧ ∃ m, h.Ns1 a m ∧ ∀ x, (∀ v, kvs.lookup x = some v → ∃ u, m x = some u ∧ VR g h v u) ∧ (kvs.lookup x = none → m x = none)
  | .exc C => ExcObj h a C
theorem OR_some {g : Gr} {h : Heap} {a : Addr} {ao : AO} (x : OR g h a ao) : ∃ o, h.get? a = some o ∧ ∀ vs n, o.cls = .type "tuple" → o.data ≠ .seq vs n := by
  cases ao with
  | list xs => obtain ⟨_, vs, n, e, _⟩ := x; exact ⟨_, e, fun _ _ q => absurd q (by simp)⟩
  | dictI kvs ep => obtain ⟨_, us, ⟨o, es, ho, hc, _⟩, _⟩ := x; exact ⟨o, ho, fun _ _ q => absurd q (by rw [hc.1]; decide)⟩
  | dictS kvs ep => obtain ⟨_, us, ⟨o, es, ho, hc, _⟩, _⟩ := x; exact ⟨o, ho, fun _ _ q => absurd q (by rw [hc.1]; decide)⟩
  | dictT kvs ep => obtain ⟨_, us, ⟨o, es, ho, hc, _⟩, _⟩ := x; exact ⟨o, ho, fun _ _ q => absurd q (by rw [hc.1]; decide)⟩
  | inst C d => exact ⟨_, x, fun _ _ q => absurd q (by simp)⟩
  | attrs kvs => obtain ⟨_, m, ⟨o, es, ep, e, hd, _⟩, _⟩ := x; exact ⟨o, e, fun _ _ _ q => by rw [hd] at q; cases q⟩
  | exc C => obtain ⟨o, vs, e, c, n, d⟩ := x; exact ⟨o, e, fun _ _ _ q => by rw [d] at q; cases q⟩
theorem tupleKey_mono {g : Gr} {h h' : Heap} (k : TupsKept g h h') {ks : List Int} {a : Addr} (nh : ¬ g.hid a) (x : IsTupleKey (intKind g.prog g.w) h ks a) : IsTupleKey (intKind g.prog g.w) h' ks a := by
  obtain ⟨o, items, n, ho, hc, hd, hi⟩ := x
  have ho' := (k _ _ _ _ nh ho hc hd).exact (by rw [hd]; intros; exact Data.noConfusion)
  exact ⟨_, items, n, ho', hc, hd, hi⟩
/-- an object that stands as it stood keeps its abstract object, where tuples are kept -/
theorem OR_mono {g : Gr} {h h' : Heap} {a : Addr} {ao : AO} (k : TupsKept g h h') (e : ∀ o, h.get? a = some o → h'.get? a = some o) (x : OR g h a ao) : OR g h' a ao := by
  cases ao with
  | list xs => obtain ⟨hf, vs, n, ho, r⟩ := x; exact ⟨hf, vs, n, e _ ho, VRs.mono k r⟩
  | dictI kvs ep => obtain ⟨hf, us, ⟨o, es, ho, r⟩, q, p⟩ := x; exact ⟨hf, us, ⟨o, es, e _ ho, r⟩, q, VRs.mono k p⟩
  | dictS kvs ep => obtain ⟨hf, us, ⟨o, es, ho, r⟩, q, p⟩ := x; exact ⟨hf, us, ⟨o, es, e _ ho, r⟩, q, VRs.mono k p⟩
  | dictT kvs ep => obtain ⟨hf, us, ⟨o, es, ho, h1, h2, h3, h4, h5⟩, q, p⟩ := x; exact ⟨hf, us, ⟨o, es, e _ ho, h1, h2, h3, fun y hy => ⟨(h4 y hy).1, tupleKey_mono k (h4 y hy).1 (h4 y hy).2⟩, h5⟩, q, VRs.mono k p⟩
  | inst C d => exact e _ x
  | attrs kvs => obtain ⟨hf, m, ⟨o, es, ep, ho, hr⟩, r⟩ := x; exact ⟨hf, m, ⟨o, es, ep, e _ ho, hr⟩, fun y => ⟨fun v q => let ⟨u, h1, h2⟩ := (r y).1 v q; ⟨u, h1, VR.mono k h2⟩, (r y).2⟩⟩
  | exc C => obtain ⟨o, vs, e1, c, n, d⟩ := x; exact ⟨o, vs, e _ e1, c, n, d⟩
/-- the heap bears the abstract heap; what stood at the call stands -/
structure Rel (g : Gr) (h : Heap) (σ : AH) : Prop where
  hid : ∀ a, g.hid a → ∃ o, h.get? a = some o
  base : ∀ a o, g.b0.get? a = some o → h.get? a = some o
  own : ∀ a ao, σ a = some ao → g.b0.get? a = none ∧ OR g h a ao
/-- what a step may do: what is not owned (nor in W) is kept but for slots; nothing is freed; what is owned behind was owned or is new -/
structure Ext (W : Addr → Prop) (h : Heap) (σ : AH) (h' : Heap) (σ' : AH) : Prop where
  keep : ∀ a o, h.get? a = some o → σ a = none → ¬ W a → UpTo h' a o
  pres : ∀ a o, h.get? a = some o → ∃ o', h'.get? a = some o'
  dom : ∀ a, σ' a ≠ none → σ a ≠ none ∨ h.get? a = none
noncomputable abbrev No : Addr → Prop := fun _ => False
theorem Ext.refl {W : Addr → Prop} {h : Heap} {σ : AH} : Ext W h σ h σ :=
  ⟨fun _ _ e _ _ => .of e, fun _ o e => ⟨o, e⟩, fun _ e => .inl e⟩
theorem Ext.off {W : Addr → Prop} {h h' : Heap} {σ σ' : AH} (x : Ext W h σ h' σ') {a : Addr} {o : Obj} (e : h.get? a = some o) (n : σ a = none) : σ' a = none := by
  cases q : σ' a with
  | none => rfl
  | some _ =>
    rcases x.dom a (by rw [q]; simp) with z | z
    · exact absurd n z
    · rw [e] at z; cases z
theorem Ext.trans {W : Addr → Prop} {h h' h'' : Heap} {σ σ' σ'' : AH} (x : Ext W h σ h' σ') (y : Ext W h' σ' h'' σ'') : Ext W h σ h'' σ'' := by
  refine ⟨fun a o e n w => ?_, fun a o e => ?_, fun a q => ?_⟩
  · exact (x.keep a o e n w).then fun o' e' => y.keep a o' e' (x.off e n) w
  · obtain ⟨o', e'⟩ := x.pres a o e; exact y.pres a o' e'
  · rcases y.dom a q with z | z
    · exact x.dom a z
    · cases e : h.get? a with
      | none => exact .inr rfl
      | some o => obtain ⟨o', e'⟩ := x.pres a o e; rw [e'] at z; cases z
theorem Ext.weaken {W W' : Addr → Prop} {h h' : Heap} {σ σ' : AH} (x : Ext W h σ h' σ') (k : ∀ a, W a → W' a) : Ext W' h σ h' σ' :=
  ⟨fun a o e n w => x.keep a o e n fun q => w (k a q), x.pres, x.dom⟩
/-- at these addresses lies no sequence -/
noncomputable def NoSeq (W : Addr → Prop) (h : Heap) : Prop := ∀ a o, W a → h.get? a = some o → ∀ vs n, o.data ≠ .seq vs n
/-- tuples are kept by a step -/
theorem Ext.tuples {g : Gr} {W : Addr → Prop} {h h' : Heap} {σ σ' : AH} (x : Ext W h σ h' σ') (R : Rel g h σ) (hw : NoSeq W h) : TupsKept g h h' := fun a o vs n _ e c d => by
  refine x.keep a o e ?_ fun w => hw a o w e vs n d
  cases q : σ a with
  | none => rfl
  | some ao => obtain ⟨o', e', c'⟩ := OR_some (R.own a ao q).2; rw [e] at e'; cases e'; exact absurd d (c' _ _ c)
theorem Ext.vr {g : Gr} {W : Addr → Prop} {h h' : Heap} {σ σ' : AH} (x : Ext W h σ h' σ') (R : Rel g h σ) (hw : NoSeq W h) {v : V} {u : Value} (k : VR g h v u) : VR g h' v u :=
  VR.mono (x.tuples R hw) k
theorem Ext.vrs {g : Gr} {W : Addr → Prop} {h h' : Heap} {σ σ' : AH} (x : Ext W h σ h' σ') (R : Rel g h σ) (hw : NoSeq W h) {v : List V} {u : List Value} (k : VRs g h v u) : VRs g h' v u :=
  VRs.mono (x.tuples R hw) k
theorem noSeq_no {h : Heap} : NoSeq No h := fun _ _ n => n.elim
/-- forgetting: fewer objects are told -/
theorem Rel.forget {g : Gr} {h : Heap} {σ σ' : AH} (R : Rel g h σ) (k : ∀ a o, σ' a = some o → σ a = some o) : Rel g h σ' :=
  ⟨R.hid, R.base, fun a ao e => R.own a ao (k a ao e)⟩
theorem Ext.forget {W : Addr → Prop} {h h' : Heap} {σ σ' σ'' : AH} (x : Ext W h σ h' σ') (k : ∀ a o, σ'' a = some o → σ' a = some o) : Ext W h σ h' σ'' :=
  ⟨x.keep, x.pres, fun a q => x.dom a (by
    cases e : σ'' a with
    | none => exact absurd e q
    | some o => rw [k a o e]; simp)⟩
/-- a step that keeps all (allocations of unowned things) -/
theorem Rel.keeps {g : Gr} {h h' : Heap} {σ : AH} (R : Rel g h σ) (k : ∀ a o, h.get? a = some o → h'.get? a = some o) : Rel g h' σ :=
  ⟨fun a ha => let ⟨o, e⟩ := R.hid a ha; ⟨o, k a o e⟩, fun a o e => k a o (R.base a o e), fun a ao e => ⟨(R.own a ao e).1, OR_mono (fun a o _ _ _ e _ _ => .of (k a o e)) (k a) (R.own a ao e).2⟩⟩
theorem Ext.keeps {W : Addr → Prop} {h h' : Heap} {σ : AH} (k : ∀ a o, h.get? a = some o → h'.get? a = some o) : Ext W h σ h' σ :=
  ⟨fun a o e _ _ => .of (k a o e), fun a o e => ⟨o, k a o e⟩, fun _ e => .inl e⟩
theorem push_keeps (h : Heap) (o' : Obj) : ∀ a o, h.get? a = some o → (h.push o').get? a = some o := fun _ _ e => Heap.get?_push_of_some _ e
/-- a new owned object -/
theorem Rel.alloc {g : Gr} {h h' : Heap} {σ : AH} {a : Addr} {ao : AO} (R : Rel g h σ) (k : ∀ a o, h.get? a = some o → h'.get? a = some o) (hn : h.get? a = none) (x : OR g h' a ao) : Rel g h' (σ.set a ao) := by
  refine ⟨fun a ha => let ⟨o, e⟩ := R.hid a ha; ⟨o, k a o e⟩, fun b o e => k b o (R.base b o e), fun b bo e => ?_⟩
  unfold AH.set at e
  split at e
  · rename_i q; subst q; cases e
    refine ⟨?_, x⟩
    cases q : g.b0.get? b with
    | none => rfl
    | some o => rw [R.base b o q] at hn; cases hn
  · exact (R.keeps k).own b bo e
theorem Ext.alloc {W : Addr → Prop} {h h' : Heap} {σ : AH} {a : Addr} {ao : AO} (k : ∀ a o, h.get? a = some o → h'.get? a = some o) (hn : h.get? a = none) : Ext W h σ h' (σ.set a ao) :=
  ⟨fun a o e _ _ => .of (k a o e), fun a o e => ⟨o, k a o e⟩, fun b q => by
    unfold AH.set at q
    by_cases z : b = a
    · subst z; exact .inr hn
    · rw [if_neg z] at q; exact .inl q⟩
/-- an owned object is changed -/
theorem Rel.upd {g : Gr} {h h' : Heap} {σ : AH} {a : Addr} {ao ao' : AO} (R : Rel g h σ) (e : σ a = some ao) (k : Heap.SameBut a h h') (x : OR g h' a ao') : Rel g h' (σ.set a ao') := by
  have pr : ∃ o, h'.get? a = some o := let ⟨o, q, _⟩ := OR_some x; ⟨o, q⟩
  have ho := R.own a ao e
  obtain ⟨o₀, e₀, c₀⟩ := OR_some ho.2
  refine ⟨fun b hb => ?_, fun b o q => (k.2 b fun z => ?_).trans (R.base b o q), fun b bo q => ?_⟩
  · by_cases z : b = a
    · rw [z]; exact pr
    · obtain ⟨o, q⟩ := R.hid b hb; exact ⟨o, (k.2 b z).trans q⟩
  · subst z; rw [ho.1] at q; cases q
  · unfold AH.set at q
    split at q
    · rename_i z; subst z; cases q; exact ⟨ho.1, x⟩
    · rename_i z
      refine ⟨(R.own b bo q).1, OR_mono (fun c o _ _ _ y t dd => .of ((k.2 c fun w => ?_).trans y)) (fun o y => (k.2 b z).trans y) (R.own b bo q).2⟩
      subst w; rw [e₀] at y; cases y; exact c₀ _ _ t dd
theorem Ext.upd {W : Addr → Prop} {h h' : Heap} {σ : AH} {a : Addr} {ao ao' : AO} (e : σ a = some ao) (k : Heap.SameBut a h h') (p : ∃ o, h'.get? a = some o) : Ext W h σ h' (σ.set a ao') := by
  refine ⟨fun b o q n _ => .of ((k.2 b fun z => ?_).trans q), fun b o q => ?_, fun b q => ?_⟩
  · subst z; rw [e] at n; cases n
  · by_cases z : b = a
    · subst z; exact p
    · exact ⟨o, (k.2 b z).trans q⟩
  · unfold AH.set at q
    by_cases z : b = a
    · subst z; rw [e]; simp
    · rw [if_neg z] at q; exact .inl q
theorem Rel.owned_some {g : Gr} {h : Heap} {σ : AH} (R : Rel g h σ) {a : Addr} {ao : AO} (e : σ a = some ao) : ∃ o, h.get? a = some o := let ⟨o, h1, _⟩ := OR_some (R.own a ao e).2; ⟨o, h1⟩
theorem Rel.fresh {g : Gr} {h : Heap} {σ : AH} (R : Rel g h σ) {a : Addr} (e : h.get? a = none) : σ a = none := by
  cases q : σ a with
  | none => rfl
  | some ao => obtain ⟨o, z⟩ := R.owned_some q; rw [e] at z; cases z
theorem size_fresh (h : Heap) : h.get? h.objs.size = none := Heap.get?_none_of_le (Nat.le_refl _)
/-! ## fewer or more hidden tuples -/
section
variable {g : Gr} {H : Addr → Prop} {h : Heap}
mutual
theorem VR.less (k : ∀ a, g.hid a → H a) : ∀ {x : V} {v : Value}, VR (g.wh H) h x v → VR g h x v
  | .none, v, a => by rw [VR_none] at a ⊢; exact a
  | .bool b, v, a => by rw [VR_bool] at a ⊢; exact a
  | .int i, v, a => by rw [VR_int] at a ⊢; exact a
  | .str x, v, a => by rw [VR_str] at a ⊢; exact a
  | .ref b, v, a => by rw [VR_ref] at a ⊢; exact a
  | .tup xs, v, a => by
    rw [VR_tup] at a ⊢
    obtain ⟨hf, b, o, vs, n, e, nh, ho, hc, hd, r⟩ := a
    exact ⟨hf, b, o, vs, n, e, fun z => nh (k b z), ho, hc, hd, VRs.less k r⟩
  | .frz xs, v, a => by
    rw [VR_frz] at a ⊢
    obtain ⟨hf, b, o, vs, n, e, ho, hc, hd, r⟩ := a
    exact ⟨hf, b, o, vs, n, e, ho, hc, hd, VRs.less k r⟩
theorem VRs.less (k : ∀ a, g.hid a → H a) : ∀ {xs : List V} {vs : List Value}, VRs (g.wh H) h xs vs → VRs g h xs vs
  | [], vs, a => by rw [VRs_nil_inv a]; exact VRs_nil
  | x :: xs, vs, a => by
    obtain ⟨v, r, rfl, hv, c⟩ := VRs_cons_inv a
    exact VRs_cons (VR.less k hv) (VRs.less k c)
end
mutual
theorem VR.more (k : ∀ a o, h.get? a = some o → H a → g.hid a) : ∀ {x : V} {v : Value}, VR g h x v → VR (g.wh H) h x v
  | .none, v, a => by rw [VR_none] at a ⊢; exact a
  | .bool b, v, a => by rw [VR_bool] at a ⊢; exact a
  | .int i, v, a => by rw [VR_int] at a ⊢; exact a
  | .str x, v, a => by rw [VR_str] at a ⊢; exact a
  | .ref b, v, a => by rw [VR_ref] at a ⊢; exact a
  | .tup xs, v, a => by
    rw [VR_tup] at a ⊢
    obtain ⟨hf, b, o, vs, n, e, nh, ho, hc, hd, r⟩ := a
    exact ⟨hf, b, o, vs, n, e, fun z => nh (k b o ho z), ho, hc, hd, VRs.more k r⟩
  | .frz xs, v, a => by
    rw [VR_frz] at a ⊢
    obtain ⟨hf, b, o, vs, n, e, ho, hc, hd, r⟩ := a
    exact ⟨hf, b, o, vs, n, e, ho, hc, hd, VRs.more k r⟩
theorem VRs.more (k : ∀ a o, h.get? a = some o → H a → g.hid a) : ∀ {xs : List V} {vs : List Value}, VRs g h xs vs → VRs (g.wh H) h xs vs
  | [], vs, a => by rw [VRs_nil_inv a]; exact VRs_nil
  | x :: xs, vs, a => by
    obtain ⟨v, r, rfl, hv, c⟩ := VRs_cons_inv a
    exact VRs_cons (VR.more k hv) (VRs.more k c)
end
theorem OR.less (k : ∀ a, g.hid a → H a) {a : Addr} {ao : AO} (x : OR (g.wh H) h a ao) : OR g h a ao := by
  cases ao with
  | list xs => obtain ⟨hf, vs, n, ho, r⟩ := x; exact ⟨hf, vs, n, ho, VRs.less k r⟩
  | dictI kvs ep => obtain ⟨hf, us, d, q, p⟩ := x; exact ⟨hf, us, d, q, VRs.less k p⟩
  | dictS kvs ep => obtain ⟨hf, us, d, q, p⟩ := x; exact ⟨hf, us, d, q, VRs.less k p⟩
  | dictT kvs ep => obtain ⟨hf, us, ⟨o, es, ho, h1, h2, h3, h4, h5⟩, q, p⟩ := x; exact ⟨hf, us, ⟨o, es, ho, h1, h2, h3, fun y hy => ⟨fun z => (h4 y hy).1 (k _ z), (h4 y hy).2⟩, h5⟩, q, VRs.less k p⟩
  | inst C d => exact x
  | attrs kvs => obtain ⟨hf, m, hn, r⟩ := x; exact ⟨hf, m, hn, fun y => ⟨fun v q => let ⟨u, h1, h2⟩ := (r y).1 v q; ⟨u, h1, VR.less k h2⟩, (r y).2⟩⟩
  | exc C => exact x
theorem Rel.less (k : ∀ a, g.hid a → H a) {σ : AH} (R : Rel (g.wh H) h σ) : Rel g h σ :=
  ⟨fun a ha => R.hid a (k a ha), R.base, fun a ao e => ⟨(R.own a ao e).1, OR.less k (R.own a ao e).2⟩⟩
end
end
section
open PySem
/-- a block's environment: its names are of the kinds that its scope says (a free name may stand as a cell) -/
structure EnvOk (sc : Scope) (env : Env) : Prop where
  kinds : ∀ x k, (x, k) ∈ sc.names → env.kindOf x = some k ∨ (k = .free ∧ env.kindOf x = some .cell)
  plain : ∀ x k, (x, k) ∈ sc.names → (x == ("__debug__" : Str)) = false ∧ (x == ("__classdict__" : Str)) = false
  kind : env.scope.kind = .function
  globals : env.globals = mainGlobals
  builtins : env.builtins = builtinsNs
/-- the block's names bear the abstract locals -/
structure LR (g : Gr) (h : Heap) (σ : AH) (env : Env) (ℓ : Loc) : Prop where
  ns : ∃ m, h.Ns env.locals m ∧ ∀ n v, ℓ n = some v → env.kindOf (Str.ofString n) = some .local → ∃ u, m (Str.ofString n) = some u ∧ VR g h v u
  cell : ∀ x c, env.cells.lookup x = some c → ∃ o u, h.get? c = some o ∧ o.data = .cell u
  cells : ∀ n v, ℓ n = some v → (env.kindOf (Str.ofString n) = some .cell ∨ env.kindOf (Str.ofString n) = some .free) → ∃ c u, env.cells.lookup (Str.ofString n) = some c ∧ h.IsCell c (some u) ∧ VR g h v u
  off : σ env.locals = none ∧ g.b0.get? env.locals = none
  offc : ∀ x c, env.cells.lookup x = some c → σ c = none ∧ c ≠ env.locals ∧ g.b0.get? c = none
  apart : ∀ x y c, env.cells.lookup x = some c → env.cells.lookup y = some c → x = y
  has : ∀ x, env.kindOf x = some .cell ∨ env.kindOf x = some .free → ∃ c, env.cells.lookup x = some c
/-- a frame's names: a table that nobody owns -/
noncomputable def OffFr (h : Heap) (σ : AH) (f : Addr) : Prop := σ f = none ∧ ∃ o es n, h.get? f = some o ∧ o.data = .dict es n
/-- the frames on the stack stand (wanted where something is raised) -/
noncomputable def FrOk (g : Gr) (A : Around) (env : Env) (h : Heap) (σ : AH) : Prop :=
  ∃ e0 outer, A.frames = some (e0 :: outer) ∧ e0.frame = env.frame ∧ h.FunFrames g.b0 (e0 :: outer) ∧ (∀ e ∈ e0 :: outer, ∀ f, e.frame = some f → OffFr h σ f) ∧
    e0.scope.isGenerator = false ∧ e0.scope.isCoroutine = false ∧ e0.builtins = builtinsNs ∧ e0.globals = mainGlobals
/-- what holds of the ground -/
structure GOk (g : Gr) : Prop where
  nolimit : g.b0.NoLimit
  seer : g.b0.NoSeer
  tree : g.prog.given.tree = none
structure Room (A : Around) (r : Nat) (c : Bool) : Prop where
  depth : A.depth + 2 * r + 110 < recursionLimit
  units : A.units + 20 * r + 100 < cLine
  calm : c = true → A.handled = none
theorem Room.le {A : Around} {r r' : Nat} {c : Bool} (x : Room A r c) (h : r' ≤ r) : Room A r' c :=
  ⟨by have := x.depth; omega, by have := x.units; omega, x.calm⟩
theorem Room.deeper {A : Around} {r : Nat} {c : Bool} (x : Room A (r + 1) c) (env : Env) : Room (A.deeper env) r c :=
  ⟨by have := x.depth; show A.depth + 1 + 2 * r + 110 < _; omega, by have := x.units; show A.units + 3 + 20 * r + 100 < _; omega, x.calm⟩
theorem Room.room {A : Around} {r : Nat} {c : Bool} (x : Room A r c) : A.depth < recursionLimit := by have := x.depth; omega
theorem Room.cline {A : Around} {r : Nat} {c : Bool} (x : Room A r c) : A.units + 50 < cLine := by have := x.units; omega
structure Cx (g : Gr) (sc : Scope) (r : Nat) (c : Bool) (A : Around) (env : Env) (h : Heap) (σ : AH) (ℓ : Loc) : Prop where
  gok : GOk g
  ok : EnvOk sc env
  loc : LR g h σ env ℓ
  fr : FrOk g A env h σ
  room : Room A r c
  rel : Rel g h σ
/-- the parts of the state that no step turns -/
noncomputable def Same (s s' : Shared) : Prop := s'.gens = s.gens ∧ s'.os = s.os ∧ s'.drawn = s.drawn
theorem Same.refl {s : Shared} : Same s s := ⟨rfl, rfl, rfl⟩
theorem Same.trans {s s' s'' : Shared} (x : Same s s') (y : Same s' s'') : Same s s'' := ⟨y.1.trans x.1, y.2.1.trans x.2.1, y.2.2.trans x.2.2⟩
theorem ns_upTo {h h' : Heap} {a : Addr} {m : Str → Option Value} (n : h.Ns a m) (k : ∀ o, h.get? a = some o → UpTo h' a o) : h'.Ns a m := by
  obtain ⟨o, es, ep, ho, hd, r⟩ := n
  obtain ⟨sl, e⟩ := (k o ho).sl
  exact ⟨_, es, ep, e, hd, r⟩
theorem cell_upTo {h h' : Heap} {a : Addr} {v : Option Value} (n : h.IsCell a v) (k : ∀ o, h.get? a = some o → UpTo h' a o) : h'.IsCell a v := by
  obtain ⟨o, ho, hd⟩ := n
  obtain ⟨sl, e⟩ := (k o ho).sl
  exact ⟨_, e, hd⟩
theorem LR.step {g : Gr} {h h' : Heap} {σ σ' : AH} {env : Env} {ℓ : Loc} (L : LR g h σ env ℓ) (R : Rel g h σ) (x : Ext No h σ h' σ') : LR g h' σ' env ℓ := by
  have kv : ∀ {v : V} {u : Value}, VR g h v u → VR g h' v u := x.vr R noSeq_no
  obtain ⟨m, hn, hm⟩ := L.ns
  have hl : ∀ o, h.get? env.locals = some o → UpTo h' env.locals o := fun o e => x.keep _ o e L.off.1 id
  refine ⟨⟨m, ns_upTo hn hl, fun y v a b => let ⟨u, e, f⟩ := hm y v a b; ⟨u, e, kv f⟩⟩, fun y c e => ?_, fun y v a k => ?_, ⟨?_, L.off.2⟩, fun y c e => ⟨?_, (L.offc y c e).2⟩, L.apart, L.has⟩
  · obtain ⟨o, u, ho, hd⟩ := L.cell y c e
    obtain ⟨sl, ho'⟩ := (x.keep _ o ho (L.offc y c e).1 id).sl
    exact ⟨_, u, ho', hd⟩
  · obtain ⟨c, u, e, ho, hv⟩ := L.cells y v a k
    exact ⟨c, u, e, cell_upTo ho fun o z => x.keep _ o z (L.offc _ c e).1 id, kv hv⟩
  · obtain ⟨o, es, ep, ho, _⟩ := hn; exact x.off ho L.off.1
  · obtain ⟨o, u, ho, hd⟩ := L.cell y c e
    exact x.off ho (L.offc y c e).1
theorem frames_step {g : Gr} {W : Addr → Prop} {h h' : Heap} {σ σ' : AH} (hk : ∀ a o es n, h.get? a = some o → o.data = .dict es n → σ a = none → σ' a = none ∧ ∃ o' es' n', h'.get? a = some o' ∧ o'.data = .dict es' n') : ∀ l : List Env, h.FunFrames g.b0 l → (∀ e ∈ l, ∀ f, e.frame = some f → OffFr h σ f) → h'.FunFrames g.b0 l ∧ ∀ e ∈ l, ∀ f, e.frame = some f → OffFr h' σ' f
  | [], _, _ => ⟨trivial, fun _ z => nomatch z⟩
  | e :: r, ⟨hm, ⟨L, _, hfL, hb, _, _⟩, hr⟩, hoff => by
    obtain ⟨i1, i2⟩ := frames_step (g := g) (W := W) hk r hr fun e' he' => hoff e' (.tail _ he')
    obtain ⟨hs, o2, es, n, ho2, hd2⟩ := hoff e (.head _) L hfL
    obtain ⟨hs', o', es', n', ho', hd'⟩ := hk L o2 es n ho2 hd2 hs
    refine ⟨⟨hm, ⟨L, o', hfL, hb, ho', fun vs q => by rw [hd'] at q; cases q⟩, i1⟩, fun e' he' f hf' => ?_⟩
    cases he' with
    | head => rw [hfL] at hf'; cases hf'; exact ⟨hs', o', es', n', ho', hd'⟩
    | tail _ q => exact i2 e' q f hf'
theorem Ext.dicts {W : Addr → Prop} {h h' : Heap} {σ σ' : AH} (x : Ext W h σ h' σ') (hw : ∀ a o es n, W a → h.get? a = some o → o.data = .dict es n → ∃ o' es' n', h'.get? a = some o' ∧ o'.data = .dict es' n') (a : Addr) (o : Obj) (es : Array DictEntry) (n : Nat) (ho : h.get? a = some o) (hd : o.data = .dict es n) (hs : σ a = none) : σ' a = none ∧ ∃ o' es' n', h'.get? a = some o' ∧ o'.data = .dict es' n' := by
  refine ⟨x.off ho hs, ?_⟩
  by_cases w : W a
  · exact hw a o es n w ho hd
  · obtain ⟨sl, e'⟩ := (x.keep a o ho hs w).sl; exact ⟨_, es, n, e', hd⟩
theorem FrOk.step {g : Gr} {A : Around} {env : Env} {W : Addr → Prop} {h h' : Heap} {σ σ' : AH} (F : FrOk g A env h σ) (x : Ext W h σ h' σ') (hw : ∀ a o es n, W a → h.get? a = some o → o.data = .dict es n → ∃ o' es' n', h'.get? a = some o' ∧ o'.data = .dict es' n') : FrOk g A env h' σ' := by
  obtain ⟨e0, outer, hA, hf, ff, off, rest⟩ := F
  obtain ⟨k1, k2⟩ := frames_step (W := W) (x.dicts hw) _ ff off
  exact ⟨e0, outer, hA, hf, k1, k2, rest⟩
theorem Cx.step {g : Gr} {sc : Scope} {r : Nat} {c : Bool} {A : Around} {env : Env} {h h' : Heap} {σ σ' : AH} {ℓ : Loc} (X : Cx g sc r c A env h σ ℓ) (R : Rel g h' σ') (x : Ext No h σ h' σ') : Cx g sc r c A env h' σ' ℓ :=
  ⟨X.gok, X.ok, X.loc.step X.rel x, X.fr.step x (fun _ _ _ _ n => n.elim), X.room, R⟩
/-- a traceback hangs on the exception -/
inductive TbAt (g : Gr) (h0 h : Heap) (σ : AH) (a : Addr) (vs : Array Value) : Prop
  | mk (T : Addr) (o : Obj) (ts : Array Value) (et : vs[1]? = some (.ref T)) (ne : T ≠ a) (t0 : h0.get? T = none) (tb : g.b0.get? T = none) (ts0 : σ T = none) (ho : h.get? T = some o) (hd : o.data = .fields ts) (hs : 3 < ts.size) : TbAt g h0 h σ a vs
/-- an exception of class C is under way, made behind h0; noted at a frame (nt), or perhaps not yet -/
inductive XAt (g : Gr) (nt : Bool) (h0 h : Heap) (e : Value) (C : Addr) (σ : AH) : Prop
  | mk (a : Addr) (o : Obj) (vs : Array Value) (ea : e = .ref a) (x0 : h0.get? a = none) (xb : g.b0.get? a = none) (xs : σ a = none) (xo : h.get? a = some o) (xc : o.cls = .ref C) (xn : o.dict = none) (xd : o.data = .fields vs) (xz : 1 < vs.size)
    (xt : (nt = false ∧ vs[1]? = some .none) ∨ TbAt g h0 h σ a vs) : XAt g nt h0 h e C σ
section
variable {g : Gr} {nt : Bool} {h0 h h1 : Heap} {e : Value} {C : Addr} {σ σ' : AH}
theorem XAt.back (x : XAt g nt h0 h e C σ) (k : ∀ b o, h1.get? b = some o → ∃ o', h0.get? b = some o') : XAt g nt h1 h e C σ := by
  have n : ∀ b, h0.get? b = none → h1.get? b = none := fun b q => by
    cases z : h1.get? b with
    | none => rfl
    | some o => obtain ⟨o', z'⟩ := k b o z; rw [q] at z'; cases z'
  obtain ⟨a, o, vs, ea, x0, xb, xs, xo, xc, xn, xd, xz, xt⟩ := x
  refine ⟨a, o, vs, ea, n a x0, xb, xs, xo, xc, xn, xd, xz, xt.imp id fun ⟨T, o, ts, et, ne, t0, tb, ts0, ho, hd, hs⟩ => ⟨T, o, ts, et, ne, n T t0, tb, ts0, ho, hd, hs⟩⟩
theorem XAt.forget (x : XAt g nt h0 h e C σ) (k : ∀ a o, σ' a = some o → σ a = some o) : XAt g nt h0 h e C σ' := by
  have n : ∀ b, σ b = none → σ' b = none := fun b q => by
    cases z : σ' b with
    | none => rfl
    | some o => rw [k b o z] at q; cases q
  obtain ⟨a, o, vs, ea, x0, xb, xs, xo, xc, xn, xd, xz, xt⟩ := x
  refine ⟨a, o, vs, ea, x0, xb, n a xs, xo, xc, xn, xd, xz, xt.imp id fun ⟨T, o, ts, et, ne, t0, tb, ts0, ho, hd, hs⟩ => ⟨T, o, ts, et, ne, t0, tb, n T ts0, ho, hd, hs⟩⟩
theorem XAt.weak (x : XAt g nt h0 h e C σ) : XAt g false h0 h e C σ := by
  obtain ⟨a, o, vs, ea, x0, xb, xs, xo, xc, xn, xd, xz, xt⟩ := x
  exact ⟨a, o, vs, ea, x0, xb, xs, xo, xc, xn, xd, xz, xt.imp (fun z => ⟨rfl, z.2⟩) id⟩
theorem XAt.unwh {H : Addr → Prop} (x : XAt (g.wh H) nt h0 h e C σ) : XAt g nt h0 h e C σ := by
  obtain ⟨a, o, vs, ea, x0, xb, xs, xo, xc, xn, xd, xz, xt⟩ := x
  exact ⟨a, o, vs, ea, x0, xb, xs, xo, xc, xn, xd, xz, xt.imp id fun ⟨T, o, ts, et, ne, t0, tb, ts0, ho, hd, hs⟩ => ⟨T, o, ts, et, ne, t0, tb, ts0, ho, hd, hs⟩⟩
end
inductive PostX (g : Gr) (A : Around) (s : Shared) (σ : AH) (E : Addr → AH → Prop) (e : Value) (s' : Shared) : Prop
  | mk (C : Addr) (σ' : AH) (h1 : XAt g false s.heap s'.heap e C σ') (h2 : Rel g s'.heap σ') (h3 : Ext No s.heap σ s'.heap σ') (h4 : Same s s') (h5 : E C σ') : PostX g A s σ E e s'
/-- what is behind the evaluation of a thing: R tells how the model's result bears the abstract one -/
inductive Post {α β : Type} (g : Gr) (R : Heap → β → α → Prop) (s : Shared) (σ : AH) (Q : β → AH → Prop) (v : α) (s' : Shared) : Prop
  | mk (x : β) (σ' : AH) (h1 : R s'.heap x v) (h2 : Rel g s'.heap σ') (h3 : Ext No s.heap σ s'.heap σ') (h4 : Same s s') (h5 : Q x σ') : Post g R s σ Q v s'
theorem Post.elim {α β : Type} {g : Gr} {R : Heap → β → α → Prop} {s : Shared} {σ : AH} {Q : β → AH → Prop} {v : α} {s' : Shared} {P : Prop} (p : Post g R s σ Q v s') (k : ∀ x σ', R s'.heap x v → Rel g s'.heap σ' → Ext No s.heap σ s'.heap σ' → Same s s' → Q x σ' → P) : P :=
  let ⟨x, σ', h1, h2, h3, h4, h5⟩ := p; k x σ' h1 h2 h3 h4 h5
noncomputable abbrev PostE (g : Gr) := Post g (fun h => VR g h)
noncomputable abbrev PostB (g : Gr) := Post g (fun _ (x : Bool) (v : Bool) => x = v)
noncomputable abbrev PostL (g : Gr) := Post g (fun h => VRs g h)
noncomputable abbrev TE := Loc → AH → (V → AH → Prop) → (Addr → AH → Prop) → Prop
noncomputable abbrev TB := Loc → AH → (Bool → AH → Prop) → (Addr → AH → Prop) → Prop
noncomputable abbrev TL := Loc → AH → (List V → AH → Prop) → (Addr → AH → Prop) → Prop
section
variable {α β : Type} {g : Gr} {R : Heap → β → α → Prop} {A : Around} {s s₁ : Shared} {σ σ₁ : AH} {Q : β → AH → Prop} {E : Addr → AH → Prop}
theorem Post.back (x : Ext No s.heap σ s₁.heap σ₁) (y : Same s s₁) {v : α} {s' : Shared} (p : Post g R s₁ σ₁ Q v s') : Post g R s σ Q v s' :=
  let ⟨z, σ', h1, h2, h3, h4, h5⟩ := p; ⟨z, σ', h1, h2, x.trans h3, y.trans h4, h5⟩
theorem PostX.back (x : Ext No s.heap σ s₁.heap σ₁) (y : Same s s₁) {v : Value} {s' : Shared} (p : PostX g A s₁ σ₁ E v s') : PostX g A s σ E v s' :=
  let ⟨z, σ', h1, h2, h3, h4, h5⟩ := p; ⟨z, σ', h1.back x.pres, h2, x.trans h3, y.trans h4, h5⟩
theorem wp_back {M : Model} {t : Sem α} (x : Ext No s.heap σ s₁.heap σ₁) (y : Same s s₁) (h : wpAny M A t (Post g R s₁ σ₁ Q) (PostX g A s₁ σ₁ E) s₁) : wpAny M A t (Post g R s σ Q) (PostX g A s σ E) s₁ :=
  wpAny_mono h (fun _ _ p => p.back x y) fun _ _ p => p.back x y
/-- the state is the one at hand -/
theorem Post.here {x : β} {v : α} (h1 : R s.heap x v) (h2 : Rel g s.heap σ) (h3 : Q x σ) : Post g R s σ Q v s := ⟨x, σ, h1, h2, .refl, .refl, h3⟩
/-- only a token was drawn, or things were made that nobody owns -/
theorem Post.keeps {x : β} {v : α} {s' : Shared} (k : ∀ a o, s.heap.get? a = some o → s'.heap.get? a = some o) (y : Same s s') (h1 : R s'.heap x v) (h2 : Rel g s.heap σ) (h3 : Q x σ) : Post g R s σ Q v s' :=
  ⟨x, σ, h1, h2.keeps k, .keeps k, y, h3⟩
end
section
variable (g : Gr) (sc : Scope) (r : Nat) (c : Bool)
structure SndE (e : Expr) (t : TE) : Prop where
  run : ∀ A env s ℓ σ Q E, Cx g sc r c A env s.heap σ ℓ → t ℓ σ Q E → wpAny (model g.prog g.w) A (eval e env) (PostE g s σ Q) (PostX g A s σ E) s
structure SndB (e : Expr) (t : TB) : Prop where
  run : ∀ A env s ℓ σ Q E, Cx g sc r c A env s.heap σ ℓ → t ℓ σ Q E → wpAny (model g.prog g.w) A (isTrue e env (eval e env)) (PostB g s σ Q) (PostX g A s σ E) s
structure SndL (es : List Expr) (t : TL) : Prop where
  run : ∀ A env pos s ℓ σ Q E, Cx g sc r c A env s.heap σ ℓ → t ℓ σ Q E → wpAny (model g.prog g.w) A (spliced (backTo pos (starEach es env))) (PostL g s σ Q) (PostX g A s σ E) s
end
section
variable {g : Gr} {sc : Scope} {r : Nat} {c : Bool} {α β γ δ : Type} {R : Heap → β → α → Prop} {R' : Heap → δ → γ → Prop} {A : Around} {env : Env} {s : Shared} {ℓ : Loc} {σ : AH} {Q : β → AH → Prop} {Q' : δ → AH → Prop} {E : Addr → AH → Prop}
/-- one thing, then what hangs on it -/
theorem Cx.then {m : Sem γ} {f : γ → Sem α} (X : Cx g sc r c A env s.heap σ ℓ) (h : wpAny (model g.prog g.w) A m (Post g R' s σ Q') (PostX g A s σ E) s)
    (k : ∀ v x s₁ σ₁, R' s₁.heap x v → Cx g sc r c A env s₁.heap σ₁ ℓ → Ext No s.heap σ s₁.heap σ₁ → Q' x σ₁ → wpAny (model g.prog g.w) A (f v) (Post g R s₁ σ₁ Q) (PostX g A s₁ σ₁ E) s₁) :
    wpAny (model g.prog g.w) A m (fun v s₁ => wpAny (model g.prog g.w) A (f v) (Post g R s σ Q) (PostX g A s σ E) s₁) (PostX g A s σ E) s :=
  wpAny_mono h (fun v s₁ p => let ⟨x, σ₁, h1, h2, h3, h4, h5⟩ := p; wp_back h3 h4 (k v x s₁ σ₁ h1 (X.step h2 h3) h3 h5)) fun _ _ p => p
end
section
variable {g : Gr} {H : Addr → Prop} {h h' : Heap} {σ : AH} {env : Env} {ℓ : Loc}
theorem LR.less (k : ∀ a, g.hid a → H a) (L : LR (g.wh H) h σ env ℓ) : LR g h σ env ℓ := by
  obtain ⟨m, hn, hm⟩ := L.ns
  exact ⟨⟨m, hn, fun y v a b => let ⟨u, e, f⟩ := hm y v a b; ⟨u, e, VR.less k f⟩⟩, L.cell, fun y v a kk => let ⟨c, u, e, hc, hv⟩ := L.cells y v a kk; ⟨c, u, e, hc, VR.less k hv⟩, L.off, L.offc, L.apart, L.has⟩
theorem GOk.wh (G : GOk g) : GOk (g.wh H) := ⟨G.nolimit, G.seer, G.tree⟩
end
end
section
open PySem PyProof.Rows
variable {g : Gr} {sc : Scope} {r : Nat} {c : Bool}
/-! ## constants and names -/
noncomputable def tConst (v : V) : TE := fun _ σ Q _ => Q v σ
noncomputable def tName (i : String) : TE := fun ℓ σ Q _ => match ℓ i with | some v => Q v σ | none => False
theorem sndE_int {i : Int} {k : Nat} {pos : Pos} : SndE g sc r c (.Constant (.int i) k pos) (tConst (.int i)) := .mk fun A env s ℓ σ Q E X h =>
  wpAny_Constant_int (.keeps (s' := { s with toks := s.toks + 1 }) (fun _ _ e => e) ⟨rfl, rfl, rfl⟩ (VR_int.mpr ⟨_, rfl⟩) X.rel h)
theorem sndE_str {x : Str} {k : Nat} {pos : Pos} (hx : Fits x.length) : SndE g sc r c (.Constant (.str x) k pos) (tConst (.str x)) := .mk fun A env s ℓ σ Q E X h =>
  wpAny_Constant_str (.keeps (s' := { s with toks := s.toks + 1 }) (fun _ _ e => e) ⟨rfl, rfl, rfl⟩ (VR_str.mpr ⟨hx, _, rfl⟩) X.rel h)
theorem sndE_none {k : Nat} {pos : Pos} : SndE g sc r c (.Constant .none k pos) (tConst .none) := .mk fun A env s ℓ σ Q E X h =>
  wpAny_Constant_none (.here (VR_none.mpr rfl) X.rel h)
theorem sndE_bool {b : Bool} {k : Nat} {pos : Pos} : SndE g sc r c (.Constant (.bool b) k pos) (tConst (.bool b)) := .mk fun A env s ℓ σ Q E X h =>
  wpAny_Constant_bool (.here (VR_bool.mpr rfl) X.rel h)
noncomputable def isVar (k : NameKind) : Bool := k == .local || k == .cell || k == .free
theorem sndE_name {n : String} {pos : Pos} {k : NameKind} (hm : (Str.ofString n, k) ∈ sc.names) (hk : isVar k = true) : SndE g sc r c (.Name (Str.ofString n) pos) (tName n) := .mk fun A env s ℓ σ Q E X h => by
  unfold tName at h
  split at h
  · rename_i v hv
    have hp := X.ok.plain _ _ hm
    have loc : env.kindOf (Str.ofString n) = some .local → wpAny (model g.prog g.w) A (loadName env (Str.ofString n)) (PostE g s σ Q) (PostX g A s σ E) s := fun q => by
      obtain ⟨m, hn, hm⟩ := X.loc.ns
      obtain ⟨u, e, hu⟩ := hm n v hv q
      exact wpAny_loadName_local X.ok.kind q hn e (.here hu X.rel h)
    have cel : env.kindOf (Str.ofString n) = some .cell → wpAny (model g.prog g.w) A (loadName env (Str.ofString n)) (PostE g s σ Q) (PostX g A s σ E) s := fun q => by
      obtain ⟨cc, u, e, ho, hu⟩ := X.loc.cells n v hv (.inl q)
      exact wpAny_loadName_cell X.ok.kind q e ho (.here hu X.rel h)
    have fre : env.kindOf (Str.ofString n) = some .free → wpAny (model g.prog g.w) A (loadName env (Str.ofString n)) (PostE g s σ Q) (PostX g A s σ E) s := fun q => by
      obtain ⟨cc, u, e, ho, hu⟩ := X.loc.cells n v hv (.inr q)
      exact wpAny_loadName_free X.ok.kind q e ho (.here hu X.rel h) hp.2
    refine wpAny_Name ?_ hp.1
    rcases X.ok.kinds _ _ hm with q | ⟨_, q⟩
    · cases k <;> first | exact loc q | exact cel q | exact fre q | cases hk
    · exact cel q
  · exact h.elim
/-! ## lists of expressions -/
noncomputable def tNil : TL := fun _ σ Q _ => Q [] σ
noncomputable def tCons (t : TE) (ts : TL) : TL := fun ℓ σ Q E => t ℓ σ (fun v σ₁ => ts ℓ σ₁ (fun vs σ₂ => Q (v :: vs) σ₂) E) E
noncomputable def isStar : Expr → Bool
  | .Starred .. => true
  | _ => false
theorem starEach_cons {e : Expr} {es : List Expr} (env : Env) (h : isStar e = false) : starEach (e :: es) env = (false, eval e env) :: starEach es env := by
  cases e <;> first | rfl | cases h
theorem sndL_nil : SndL g sc r c [] tNil := .mk fun A env pos s ℓ σ Q E X h => wpAny_items_nil (.here VRs_nil X.rel h)
theorem sndL_cons {e : Expr} {es : List Expr} {t : TE} {ts : TL} (h1 : SndE g sc r c e t) (h2 : SndL g sc r c es ts) (hs : isStar e = false := by rfl) :
    SndL g sc r c (e :: es) (tCons t ts) := .mk fun A env pos s ℓ σ Q E X h => by
  refine wpAny_items_cons ?_ (starEach_cons env hs)
  refine wpAny_mono (h1.run A env s ℓ σ _ E X h) (fun v s₁ p => ?_) fun _ _ p => p
  refine Post.elim p fun x σ₁ hv hR hx hs1 hq => ?_
  refine wpAny_mono (h2.run A env pos s₁ ℓ σ₁ _ E (X.step hR hx) hq) (fun vs s₂ p => ?_) fun _ _ p => p.back hx hs1
  refine Post.elim p fun xs σ₂ hvs hR2 hx2 hs2 hq2 => ?_
  exact ⟨x :: xs, σ₂, VRs_cons (hx2.vr hR noSeq_no hv) hvs, hR2, hx.trans hx2, hs1.trans hs2, hq2⟩
/-! ## displays -/
noncomputable def tList (ts : TL) : TE := fun ℓ σ Q E => ts ℓ σ (fun vs σ₁ => Fits vs.length ∧ ∀ a, σ₁ a = none → Q (.ref a) (σ₁.set a (.list vs))) E
noncomputable def tTuple (ts : TL) : TE := fun ℓ σ Q E => ts ℓ σ (fun vs σ₁ => Fits vs.length ∧ Q (.tup vs) σ₁) E
/-- a new list, owned -/
theorem post_newList {s s₁ : Shared} {σ σ₁ : AH} {Q : V → AH → Prop} {vs : List Value} {xs : List V} {n : Nat} (hx : Ext No s.heap σ s₁.heap σ₁) (hs : Same s s₁) (hR : Rel g s₁.heap σ₁) (hv : VRs g s₁.heap xs vs) (hft : Fits xs.length) (hq : ∀ a, σ₁ a = none → Q (.ref a) (σ₁.set a (.list xs))) {s' : Shared}
    (e : s' = { s₁ with heap := s₁.heap.push { cls := .type "list", data := .seq vs.toArray n }, toks := s'.toks }) : PostE g s σ Q (.ref s₁.heap.objs.size) s' := by
  rw [e]
  have hk := push_keeps s₁.heap { cls := .type "list", data := .seq vs.toArray n }
  have hf := size_fresh s₁.heap
  refine ⟨.ref _, _, VR_ref.mpr rfl, hR.alloc hk hf ?_, hx.trans (.alloc hk hf), hs.trans ⟨rfl, rfl, rfl⟩, hq _ (hR.fresh hf)⟩
  exact ⟨hft, vs.toArray, n, Heap.get?_push_size _ rfl, VRs.mono (fun a o _ _ _ e _ _ => .of (hk a o e)) hv⟩
/-- a new tuple -/
theorem post_newTuple {s s₁ : Shared} {σ σ₁ : AH} {Q : V → AH → Prop} {vs : List Value} {xs : List V} {n : Nat} (hx : Ext No s.heap σ s₁.heap σ₁) (hs : Same s s₁) (hR : Rel g s₁.heap σ₁) (hv : VRs g s₁.heap xs vs) (hft : Fits xs.length) (hq : Q (.tup xs) σ₁) {s' : Shared}
    (e : s' = { s₁ with heap := s₁.heap.push { cls := .type "tuple", data := .seq vs.toArray n }, toks := s'.toks }) : PostE g s σ Q (.ref s₁.heap.objs.size) s' := by
  rw [e]
  have hk := push_keeps s₁.heap { cls := .type "tuple", data := .seq vs.toArray n }
  refine ⟨.tup xs, σ₁, VR_tup.mpr ⟨hft, _, _, vs.toArray, n, rfl, fun nh => (by obtain ⟨o, e⟩ := hR.hid _ nh; rw [size_fresh] at e; cases e), Heap.get?_push_size _ rfl, rfl, rfl, VRs.mono (fun a o _ _ _ e _ _ => .of (hk a o e)) hv⟩, hR.keeps hk, hx.trans (.keeps hk), hs.trans ⟨rfl, rfl, rfl⟩, hq⟩
theorem sndE_list {es : List Expr} {ts : TL} {pos : Pos} (h1 : SndL g sc r c es ts) : SndE g sc r c (.List es pos) (tList ts) := .mk fun A env s ℓ σ Q E X h => by
  refine wpAny_List (wpAny_mono (h1.run A env pos s ℓ σ _ E X h) (fun vs s₁ p => ?_) fun _ _ p => p)
  obtain ⟨xs, σ₁, hv, hR, hx, hs, hf, hq⟩ := p
  exact ⟨(VRs_length hv ▸ hf).line, post_newList hx hs hR hv hf hq rfl⟩
theorem sndE_tuple {es : List Expr} {ts : TL} {k : Nat} {pos : Pos} (h1 : SndL g sc r c es ts) : SndE g sc r c (.Tuple es k pos) (tTuple ts) := .mk fun A env s ℓ σ Q E X h => by
  refine wpAny_Tuple (wpAny_mono (h1.run A env pos s ℓ σ _ E X h) (fun vs s₁ p => ?_) fun _ _ p => p)
  obtain ⟨xs, σ₁, hv, hR, hx, hs, hf, hq⟩ := p
  exact ⟨(VRs_length hv ▸ hf).line, post_newTuple hx hs hR hv hf hq rfl⟩
end
section
open PySem PyProof.Rows
variable {g : Gr} {sc : Scope} {r : Nat} {c : Bool}
/-! ## data: what a value reads as -/
mutual
noncomputable def DataOf (σ : AH) : PyData → V → Prop
  | .none, v => v = .none
  | .bool b, v => v = .bool b
  | .int i, v => v = .int i
  | .str x, v => v = .str x
  | .list ds, v => ∃ a xs, v = .ref a ∧ σ a = some (.list xs) ∧ DataOfs σ ds xs
  | .tuple ds, v => ∃ xs, v = .tup xs ∧ DataOfs σ ds xs
  | .dict _, _ => False
noncomputable def DataOfs (σ : AH) : List PyData → List V → Prop
  | [], xs => xs = []
  | d :: ds, xs => ∃ x r, xs = x :: r ∧ DataOf σ d x ∧ DataOfs σ ds r
end
mutual
theorem reads_of {h : Heap} {σ : AH} (R : Rel g h σ) : ∀ {d : PyData} {x : V} {v : Value}, DataOf σ d x → VR g h x v → ∃ as, Reads h v d as
  | .none, x, v, hd, hv => by unfold DataOf at hd; subst hd; rw [VR_none] at hv; subst hv; exact ⟨_, .none⟩
  | .bool b, x, v, hd, hv => by unfold DataOf at hd; subst hd; rw [VR_bool] at hv; subst hv; exact ⟨_, .bool b⟩
  | .int i, x, v, hd, hv => by unfold DataOf at hd; subst hd; rw [VR_int] at hv; obtain ⟨t, rfl⟩ := hv; exact ⟨_, .int i t⟩
  | .str i, x, v, hd, hv => by unfold DataOf at hd; subst hd; rw [VR_str] at hv; obtain ⟨_, t, rfl⟩ := hv; exact ⟨_, .str i t⟩
  | .list ds, x, v, hd, hv => by
    unfold DataOf at hd; obtain ⟨a, xs, rfl, e, hds⟩ := hd
    rw [VR_ref] at hv; subst hv
    obtain ⟨_, _, vs, n, ho, hvs⟩ := R.own a _ e
    obtain ⟨as, q⟩ := readsAll_of R hds hvs
    exact ⟨_, .list ho rfl rfl q⟩
  | .tuple ds, x, v, hd, hv => by
    unfold DataOf at hd; obtain ⟨xs, rfl, hds⟩ := hd
    rw [VR_tup] at hv; obtain ⟨_, a, o, vs, n, rfl, nh, ho, hc, hdt, hvs⟩ := hv
    obtain ⟨as, q⟩ := readsAll_of R hds hvs
    exact ⟨_, .tuple ho hc hdt q⟩
  | .dict _, x, v, hd, hv => by unfold DataOf at hd; exact hd.elim
theorem readsAll_of {h : Heap} {σ : AH} (R : Rel g h σ) : ∀ {ds : List PyData} {xs : List V} {vs : List Value}, DataOfs σ ds xs → VRs g h xs vs → ∃ as, ReadsAll h vs ds as
  | [], xs, vs, hd, hv => by unfold DataOfs at hd; subst hd; rw [VRs_nil_inv hv]; exact ⟨_, .nil⟩
  | d :: ds, xs, vs, hd, hv => by
    unfold DataOfs at hd; obtain ⟨x, r, rfl, h1, h2⟩ := hd
    obtain ⟨v, w, rfl, h3, h4⟩ := VRs_cons_inv hv
    obtain ⟨as, p⟩ := reads_of R h1 h3
    obtain ⟨bs, q⟩ := readsAll_of R h2 h4
    exact ⟨_, .cons p q⟩
end
/-- the data that the model's equality walks over -/
noncomputable def Lay (d : PyData) : Prop := d.canLay0 = true ∧ d.depth ≤ 20
/-! ## truth -/
noncomputable def truthV : V → AH → Option Bool
  | .none, _ => some false
  | .bool b, _ => some b
  | .int i, _ => some (i != 0)
  | .str x, _ => some ((x.length : Int) != 0)
  | .tup xs, _ => some (!xs.isEmpty)
  | .frz xs, _ => some (!xs.isEmpty)
  | .ref a, σ => match σ a with
    | some (.list xs) => some (!xs.isEmpty)
    | some (.dictI kvs _) => some (!kvs.isEmpty)
    | _ => none
theorem isEmpty_of_length {α β : Type} {xs : List α} {ys : Array β} (h : xs.length = ys.size) : (!ys.isEmpty) = !xs.isEmpty := by
  cases xs with
  | nil => simp at h; have : ys = #[] := by simpa using h.symm
           subst this; rfl
  | cons x xs => have : ys.size ≠ 0 := by simp at h; omega
                 have h2 : ys.isEmpty = false := by unfold Array.isEmpty; exact decide_eq_false this
                 rw [h2]; rfl
theorem sysMod_ne {h : Heap} {σ : AH} (G : GOk g) (R : Rel g h σ) {a : Addr} {ao : AO} (e : σ a = some ao) : (a == sysModules) = false := by
  obtain ⟨mm, ⟨o, es, ep, ho, _⟩, _⟩ := G.seer.mods
  cases q : a == sysModules with
  | false => rfl
  | true =>
    have := (R.own a ao e).1
    rw [show a = sysModules from beq_iff_eq.mp q, ho] at this; cases this
theorem truth_ok {A : Around} {E : Value → Shared → Prop} {s : Shared} {σ : AH} {x : V} {v : Value} {b : Bool} {Q : Bool → Shared → Prop} (G : GOk g) (R : Rel g s.heap σ) (hv : VR g s.heap x v) (ht : truthV x σ = some b)
    (hq : ∀ tk, Q b { s with toks := tk }) : wpAny (model g.prog g.w) A (truthy v) Q E s := by
  cases x with
  | none => rw [VR_none] at hv; subst hv; cases ht; exact truthy_none (hq s.toks)
  | bool b' => rw [VR_bool] at hv; subst hv; cases ht; exact wpAny_truthy_bool (hq s.toks)
  | int i => rw [VR_int] at hv; obtain ⟨t, rfl⟩ := hv; cases ht; exact PySem.P.truthy_int (hq s.toks)
  | str y => rw [VR_str] at hv; obtain ⟨hf, t, rfl⟩ := hv; cases ht; exact PySem.P.truthy_str (by have := hf.fit; omega) (hq _)
  | tup xs =>
    rw [VR_tup] at hv; obtain ⟨hf, a, o, vs, n, rfl, nh, ho, hc, hd, hvs⟩ := hv
    have hl : xs.length = vs.size := by rw [VRs_length hvs]; simp
    cases ht
    exact truthy_tuple ⟨o, ho, hc, n, hd⟩ (by rw [← hl]; exact hf.fit) (by rw [isEmpty_of_length hl]; exact hq _)
  | frz xs =>
    rw [VR_frz] at hv; obtain ⟨hf, a, o, vs, n, rfl, ho, hc, hd, hvs⟩ := hv
    have hl : xs.length = vs.size := by rw [VRs_length hvs]; simp
    cases ht
    exact wpAny_truthy_list ⟨o, R.base _ _ ho, hc, n, hd⟩ (by rw [← hl]; exact hf.fit) (by rw [isEmpty_of_length hl]; exact hq _)
  | ref a =>
    rw [VR_ref] at hv; subst hv
    simp only [truthV] at ht
    split at ht
    · rename_i xs e
      obtain ⟨_, hf, vs, n, ho, hvs⟩ := R.own a _ e
      have hl : xs.length = vs.size := by rw [VRs_length hvs]; simp
      cases ht
      exact wpAny_truthy_list ⟨_, ho, rfl, n, rfl⟩ (by rw [← hl]; exact hf.fit) (by rw [isEmpty_of_length hl]; exact hq _)
    · rename_i kvs ep e
      obtain ⟨_, hf, us, hd, hk, hvs⟩ := R.own a _ e
      have hl : us.length = kvs.length := by have := congrArg List.length hk; simpa using this
      cases ht
      refine wpAny_truthy_dict (sysMod_ne G R e) hd.dictOf (by rw [hl]; exact hf.fit) ?_
      have : us.isEmpty = kvs.isEmpty := by cases us <;> cases kvs <;> simp at hl ⊢
      rw [this]; exact hq _
    · cases ht
/-- a test by a value's truth -/
noncomputable def tTruth (t : TE) : TB := fun ℓ σ Q E => t ℓ σ (fun v σ₁ => match truthV v σ₁ with | some b => Q b σ₁ | none => False) E
theorem sndB_value {e : Expr} {t : TE} (h1 : SndE g sc r c e t) (he : ∀ env whole, isTrue e env whole = (do let v ← whole; standAt e.pos; holding [v] (truthy v))) : SndB g sc r c e (tTruth t) := .mk fun A env s ℓ σ Q E X h => by
  refine wpAny_isTrue_value (X.then (h1.run A env s ℓ σ _ E X h) fun v x s₁ σ₁ hv X₁ hx hq => ?_) (he env _)
  split at hq
  · rename_i b hb; exact truth_ok X.gok X₁.rel hv hb fun tk => .keeps (fun _ _ e => e) ⟨rfl, rfl, rfl⟩ rfl X₁.rel hq
  · exact hq.elim
noncomputable def tNotB (t : TB) : TB := fun ℓ σ Q E => t ℓ σ (fun b σ₁ => Q (!b) σ₁) E
theorem sndB_not {e : Expr} {t : TB} {pos : Pos} (h1 : SndB g sc r c e t) : SndB g sc r c (.UnaryOp .Not e pos) (tNotB t) := .mk fun A env s ℓ σ Q E X h =>
  wpAny_isTrue_Not (wpAny_mono (h1.run A env s ℓ σ _ E X h) (fun b s₁ p => let ⟨x, σ₁, h1, h2, h3, h4, h5⟩ := p; ⟨!x, σ₁, by rw [h1], h2, h3, h4, h5⟩) fun _ _ p => p)
/-- and, or: tests one behind the other -/
structure SndBs (g : Gr) (sc : Scope) (r : Nat) (c : Bool) (op : BoolOp) (es : List Expr) (t : TB) : Prop where
  run : ∀ A env s ℓ σ Q E, Cx g sc r c A env s.heap σ ℓ → t ℓ σ Q E → wpAny (model g.prog g.w) A (allTrue op es env) (PostB g s σ Q) (PostX g A s σ E) s
noncomputable def tAndB (t ts : TB) : TB := fun ℓ σ Q E => t ℓ σ (fun b σ₁ => match b with | true => ts ℓ σ₁ Q E | false => Q false σ₁) E
noncomputable def tOrB (t ts : TB) : TB := fun ℓ σ Q E => t ℓ σ (fun b σ₁ => match b with | true => Q true σ₁ | false => ts ℓ σ₁ Q E) E
noncomputable def tConstB (b : Bool) : TB := fun _ σ Q _ => Q b σ
theorem sndBs_and_nil : SndBs g sc r c .And [] (tConstB true) := .mk fun A env s ℓ σ Q E X h => wpAny_allTrue_And_nil (.here rfl X.rel h)
theorem sndBs_or_nil : SndBs g sc r c .Or [] (tConstB false) := .mk fun A env s ℓ σ Q E X h => wpAny_allTrue_Or_nil (.here rfl X.rel h)
theorem sndBs_and {e : Expr} {es : List Expr} {t ts : TB} (h1 : SndB g sc r c e t) (h2 : SndBs g sc r c .And es ts) : SndBs g sc r c .And (e :: es) (tAndB t ts) := .mk fun A env s ℓ σ Q E X h => by
  refine wpAny_allTrue_And_cons (wpAny_mono (h1.run A env s ℓ σ _ E X h) (fun b s₁ p => ?_) fun _ _ p => p)
  obtain ⟨x, σ₁, rfl, hR, hx, hs, hq⟩ := p
  cases x with
  | true => exact wp_back hx hs (h2.run A env s₁ ℓ σ₁ Q E (X.step hR hx) hq)
  | false => exact ⟨false, σ₁, rfl, hR, hx, hs, hq⟩
theorem sndBs_or {e : Expr} {es : List Expr} {t ts : TB} (h1 : SndB g sc r c e t) (h2 : SndBs g sc r c .Or es ts) : SndBs g sc r c .Or (e :: es) (tOrB t ts) := .mk fun A env s ℓ σ Q E X h => by
  refine wpAny_allTrue_Or_cons (wpAny_mono (h1.run A env s ℓ σ _ E X h) (fun b s₁ p => ?_) fun _ _ p => p)
  obtain ⟨x, σ₁, rfl, hR, hx, hs, hq⟩ := p
  cases x with
  | false => exact wp_back hx hs (h2.run A env s₁ ℓ σ₁ Q E (X.step hR hx) hq)
  | true => exact ⟨true, σ₁, rfl, hR, hx, hs, hq⟩
theorem sndB_boolop {op : BoolOp} {es : List Expr} {t : TB} {pos : Pos} (h1 : SndBs g sc r c op es t) : SndB g sc r c (.BoolOp op es pos) t := .mk fun A env s ℓ σ Q E X h =>
  wpAny_isTrue_BoolOp (h1.run A env s ℓ σ Q E X h)
/-! ## comparisons -/
noncomputable def isNoneV : V → Bool
  | .none => true
  | _ => false
noncomputable def eqD (a b : V) (σ : AH) (Q : Bool → Prop) : Prop := match a, b with
  | .int i, .int j => Q (i == j)
  | a, b => ∃ da db, DataOf σ da a ∧ DataOf σ db b ∧ Lay da ∧ Lay db ∧ Q (PyData.eqv da db)
noncomputable def inD (x c : V) (σ : AH) (Q : Bool → Prop) : Prop := match c with
  | .tup xs => ∃ ds d, DataOfs σ ds xs ∧ DataOf σ d x ∧ Lay (.tuple ds) ∧ Lay d ∧ Q (ds.any fun y => PyData.eqv y d)
  | .ref a => match σ a with
    | some (.list xs) => ∃ ds d, DataOfs σ ds xs ∧ DataOf σ d x ∧ Lay (.list ds) ∧ Lay d ∧ Q (ds.any fun y => PyData.eqv y d)
    | some (.dictI kvs _) => match x with | .int k => Q (kvs.any fun kv => kv.1 == k) | _ => False
    | some (.dictT kvs _) => ∃ ks : List Int, x = .tup (ks.map V.int) ∧ Q (kvs.any fun kv => kv.1 == ks)
    | _ => False
  | _ => False
noncomputable def cmpV (op : CmpOp) (a b : V) (σ : AH) (Q : Bool → Prop) : Prop := match op with
  | .Lt => match a, b with | .int i, .int j => Q (decide (i < j)) | _, _ => False
  | .LtE => match a, b with | .int i, .int j => Q (decide (i ≤ j)) | _, _ => False
  | .Gt => match a, b with | .int i, .int j => Q (decide (j < i)) | _, _ => False
  | .GtE => match a, b with | .int i, .int j => Q (decide (j ≤ i)) | _, _ => False
  | .Eq => eqD a b σ Q
  | .NotEq => eqD a b σ fun r => Q (!r)
  | .Is => match b with | .none => Q (isNoneV a) | .bool true => (match a with | .bool x => Q x | _ => False) | _ => False
  | .IsNot => match b with | .none => Q (!isNoneV a) | _ => False
  | .In => inD a b σ Q
  | .NotIn => inD a b σ fun r => Q (!r)
end
section
open PySem PyProof.Rows
variable {g : Gr} {sc : Scope} {r : Nat} {c : Bool}
theorem isNone_of {h : Heap} {a : V} {u : Value} (hv : VR g h a u) : (u == .none) = isNoneV a := by
  cases a with
  | none => rw [VR_none] at hv; subst hv; rfl
  | bool b => rw [VR_bool] at hv; subst hv; rfl
  | int i => rw [VR_int] at hv; obtain ⟨t, rfl⟩ := hv; rfl
  | str x => rw [VR_str] at hv; obtain ⟨_, t, rfl⟩ := hv; rfl
  | ref a => rw [VR_ref] at hv; subst hv; rfl
  | tup xs => rw [VR_tup] at hv; obtain ⟨_, a, _, _, _, rfl, _⟩ := hv; rfl
  | frz xs => rw [VR_frz] at hv; obtain ⟨_, a, _, _, _, rfl, _⟩ := hv; rfl
theorem valueAt_isSome {us : List (Int × Value)} {kvs : List (Int × V)} (hk : us.map (·.1) = kvs.map (·.1)) (k : Int) : (valueAt us k).isSome = kvs.any fun kv => kv.1 == k := by
  induction us generalizing kvs with
  | nil => cases kvs with
    | nil => rfl
    | cons _ _ => simp at hk
  | cons u us ih => cases kvs with
    | nil => simp at hk
    | cons kv kvs =>
      simp only [List.map_cons, List.cons.injEq] at hk
      have := ih hk.2
      unfold valueAt at this ⊢
      rw [List.find?_cons, List.any_cons, ← hk.1]
      by_cases e : u.1 = k
      · simp [e]
      · have e' : (u.1 == k) = false := by simpa using e
        simp only [e, decide_false, e', Bool.false_or]; exact this
theorem atKey_isSome {us : List (List Int × Addr × Value)} {kvs : List (List Int × V)} (hk : us.map (·.1) = kvs.map (·.1)) (k : List Int) : (atKey us k).isSome = kvs.any fun kv => kv.1 == k := by
  induction us generalizing kvs with
  | nil => cases kvs with
    | nil => rfl
    | cons _ _ => simp at hk
  | cons u us ih => cases kvs with
    | nil => simp at hk
    | cons kv kvs =>
      simp only [List.map_cons, List.cons.injEq] at hk
      have := ih hk.2
      unfold atKey at this ⊢
      rw [List.find?_cons, List.any_cons, ← hk.1]
      by_cases e : u.1 = k
      · simp [e]
      · have e' : (u.1 == k) = false := by simpa using e
        simp only [e, decide_false, e', Bool.false_or]; exact this
theorem itemsAre_ints {h : Heap} : ∀ {ks : List Int} {vs : List Value}, VRs g h (ks.map V.int) vs → ItemsAre (intKind g.prog g.w) ks vs
  | [], vs, a => by rw [VRs_nil_inv a]; exact .nil
  | k :: ks, vs, a => by
    obtain ⟨v, r, rfl, hv, b⟩ := VRs_cons_inv a
    rw [VR_int] at hv; obtain ⟨t, rfl⟩ := hv
    exact .cons (intKind_is _ _ k t) (itemsAre_ints b)
theorem tupleKey_of {h : Heap} {ks : List Int} {v : Value} (hv : VR g h (.tup (ks.map V.int)) v) : ∃ a, v = .ref a ∧ ¬ g.hid a ∧ IsTupleKey (intKind g.prog g.w) h ks a := by
  rw [VR_tup] at hv; obtain ⟨_, a, o, vs, n, rfl, nh, ho, hc, hd, hvs⟩ := hv
  exact ⟨a, rfl, nh, o, vs, n, ho, hc, hd, itemsAre_ints hvs⟩
theorem DictAtT.ofH {h : Heap} {d : Addr} {xs : List (List Int × Addr × Value)} {ep : Nat} (x : DictAtT g h d xs ep) : h.DictOfH (tupleKind (intKind g.prog g.w)) d xs := let ⟨o, es, h1, h2, h3, h4, h5, h6⟩ := x; ⟨o, es, ep, h1, h2, h3, h4, fun y hy => (h5 y hy).2, h6⟩
section
variable {A : Around} {env : Env} {E : Value → Shared → Prop} {s : Shared} {σ : AH} {ℓ : Loc}
/-- what a comparison leaves: a bool, and nothing changed -/
inductive Told (s : Shared) (Q : Bool → Prop) (v : Value) (s' : Shared) : Prop
  | mk (b : Bool) (tk : Nat) (e : v = .bool b) (f : s' = { s with toks := tk }) (q : Q b) : Told s Q v s'
theorem eq_ok {a b : V} {u v : Value} {Q : Bool → Prop} (X : Cx g sc r c A env s.heap σ ℓ) (ha : VR g s.heap a u) (hb : VR g s.heap b v) (h : eqD a b σ Q) : wpAny (model g.prog g.w) A (compareOp .Eq u v) (Told s Q) E s := by
  have hu := X.room.cline
  have gen : (∃ da db, DataOf σ da a ∧ DataOf σ db b ∧ Lay da ∧ Lay db ∧ Q (PyData.eqv da db)) → wpAny (model g.prog g.w) A (compareOp .Eq u v) (Told s Q) E s := by
    rintro ⟨da, db, h1, h2, h3, h4, h5⟩
    obtain ⟨as, ra⟩ := reads_of X.rel h1 ha
    obtain ⟨bs, rb⟩ := reads_of X.rel h2 hb
    have := h3.2
    exact SeqAt.compareEq_reads ra rb h3.1 h4.1 (by omega) ⟨_, s.toks, rfl, rfl, h5⟩
  unfold eqD at h
  split at h
  · rw [VR_int] at ha hb; obtain ⟨t, rfl⟩ := ha; obtain ⟨t', rfl⟩ := hb
    exact PySem.P.eq_int ⟨_, s.toks, rfl, rfl, h⟩
  · exact gen h
theorem ne_ok {a b : V} {u v : Value} {Q : Bool → Prop} (X : Cx g sc r c A env s.heap σ ℓ) (ha : VR g s.heap a u) (hb : VR g s.heap b v) (h : eqD a b σ fun r => Q (!r)) : wpAny (model g.prog g.w) A (compareOp .NotEq u v) (Told s Q) E s := by
  have hu := X.room.cline
  have gen : (∃ da db, DataOf σ da a ∧ DataOf σ db b ∧ Lay da ∧ Lay db ∧ Q (!PyData.eqv da db)) → wpAny (model g.prog g.w) A (compareOp .NotEq u v) (Told s Q) E s := by
    rintro ⟨da, db, h1, h2, h3, h4, h5⟩
    obtain ⟨as, ra⟩ := reads_of X.rel h1 ha
    obtain ⟨bs, rb⟩ := reads_of X.rel h2 hb
    have := h3.2
    exact SeqAt.compareNe_reads ra rb h3.1 h4.1 (by omega) ⟨_, s.toks, rfl, rfl, h5⟩
  unfold eqD at h
  split at h
  · rw [VR_int] at ha hb; obtain ⟨t, rfl⟩ := ha; obtain ⟨t', rfl⟩ := hb
    exact PySem.P.ne_int ⟨_, s.toks, rfl, rfl, h⟩
  · exact gen h
theorem lay_list {ds : List PyData} (h : Lay (.list ds)) : PyData.canLayAll0 ds = true ∧ PyData.depthAll ds ≤ 20 := by
  refine ⟨h.1, ?_⟩
  have := h.2
  unfold PyData.depth at this
  omega
theorem lay_tuple {ds : List PyData} (h : Lay (.tuple ds)) : PyData.canLayAll0 ds = true ∧ PyData.depthAll ds ≤ 20 := by
  refine ⟨h.1, ?_⟩
  have := h.2
  unfold PyData.depth at this
  omega
theorem in_ok {a b : V} {u v : Value} {Q : Bool → Prop} (X : Cx g sc r c A env s.heap σ ℓ) (ha : VR g s.heap a u) (hb : VR g s.heap b v) (h : inD a b σ Q) : wpAny (model g.prog g.w) A (compareOp .In u v) (Told s Q) E s := by
  have hu := X.room.cline
  unfold inD at h
  split at h
  · rename_i xs
    obtain ⟨ds, d, h1, h2, h3, h4, h5⟩ := h
    obtain ⟨bs, rb⟩ := reads_of (d := .tuple ds) X.rel (by unfold DataOf; exact ⟨xs, rfl, h1⟩) hb
    obtain ⟨as, ra⟩ := reads_of X.rel h2 ha
    obtain ⟨k1, k2⟩ := lay_tuple h3
    exact SeqAt.in_tuple_reads rb ra k1 h4.1 (by omega) ⟨_, s.toks, rfl, rfl, h5⟩
  · rename_i l
    split at h
    · rename_i xs e
      obtain ⟨ds, d, h1, h2, h3, h4, h5⟩ := h
      obtain ⟨bs, rb⟩ := reads_of (d := .list ds) X.rel (by unfold DataOf; exact ⟨l, xs, rfl, e, h1⟩) hb
      obtain ⟨as, ra⟩ := reads_of X.rel h2 ha
      obtain ⟨k1, k2⟩ := lay_list h3
      exact SeqAt.in_list_reads rb ra k1 h4.1 (by omega) ⟨_, s.toks, rfl, rfl, h5⟩
    · rename_i kvs ep e
      split at h
      · rename_i k
        rw [VR_int] at ha; obtain ⟨t, rfl⟩ := ha
        rw [VR_ref] at hb; subst hb
        obtain ⟨_, hf, us, hd, hk, hvs⟩ := X.rel.own l _ e
        exact wpAny_in_of (intKind_is _ _ k t) (sysMod_ne X.gok X.rel e) hd.dictOf.mapOf ⟨_, _, rfl, rfl, by rw [valueAt_isSome hk]; exact h⟩
      · exact h.elim
    · rename_i kvs ep e
      obtain ⟨ks, rfl, h⟩ := h
      obtain ⟨ka, rfl, _, hka⟩ := tupleKey_of ha
      rw [VR_ref] at hb; subst hb
      obtain ⟨_, hf, us, hd, hk, hvs⟩ := X.rel.own l _ e
      exact wpAny_in_heap (knd := tupleKind (intKind g.prog g.w)) (tupleKind_room_in1 (by omega)) hka (sysMod_ne X.gok X.rel e) hd.ofH ⟨_, _, rfl, rfl, by rw [atKey_isSome hk]; exact h⟩
    · exact h.elim
  · exact h.elim
theorem notIn_ok {a b : V} {u v : Value} {Q : Bool → Prop} (X : Cx g sc r c A env s.heap σ ℓ) (ha : VR g s.heap a u) (hb : VR g s.heap b v) (h : inD a b σ fun r => Q (!r)) : wpAny (model g.prog g.w) A (compareOp .NotIn u v) (Told s Q) E s := by
  have hu := X.room.cline
  unfold inD at h
  split at h
  · rename_i xs
    obtain ⟨ds, d, h1, h2, h3, h4, h5⟩ := h
    obtain ⟨bs, rb⟩ := reads_of (d := .tuple ds) X.rel (by unfold DataOf; exact ⟨xs, rfl, h1⟩) hb
    obtain ⟨as, ra⟩ := reads_of X.rel h2 ha
    obtain ⟨k1, k2⟩ := lay_tuple h3
    exact SeqAt.notIn_tuple_reads rb ra k1 h4.1 (by omega) ⟨_, s.toks, rfl, rfl, h5⟩
  · rename_i l
    split at h
    · rename_i xs e
      obtain ⟨ds, d, h1, h2, h3, h4, h5⟩ := h
      obtain ⟨bs, rb⟩ := reads_of (d := .list ds) X.rel (by unfold DataOf; exact ⟨l, xs, rfl, e, h1⟩) hb
      obtain ⟨as, ra⟩ := reads_of X.rel h2 ha
      obtain ⟨k1, k2⟩ := lay_list h3
      exact SeqAt.notIn_list_reads rb ra k1 h4.1 (by omega) ⟨_, s.toks, rfl, rfl, h5⟩
    · rename_i kvs ep e
      split at h
      · rename_i k
        rw [VR_int] at ha; obtain ⟨t, rfl⟩ := ha
        rw [VR_ref] at hb; subst hb
        obtain ⟨_, hf, us, hd, hk, hvs⟩ := X.rel.own l _ e
        refine wpAny_notIn_of (intKind_is _ _ k t) (sysMod_ne X.gok X.rel e) hd.dictOf.mapOf ⟨_, _, rfl, rfl, ?_⟩
        rw [valueAt_isSome hk]; exact h
      · exact h.elim
    · rename_i kvs ep e
      obtain ⟨ks, rfl, h⟩ := h
      obtain ⟨ka, rfl, _, hka⟩ := tupleKey_of ha
      rw [VR_ref] at hb; subst hb
      obtain ⟨_, hf, us, hd, hk, hvs⟩ := X.rel.own l _ e
      refine wpAny_notIn_heap (knd := tupleKind (intKind g.prog g.w)) (tupleKind_room_in1 (by omega)) hka (sysMod_ne X.gok X.rel e) hd.ofH ⟨_, _, rfl, rfl, ?_⟩
      rw [atKey_isSome hk]; exact h
    · exact h.elim
  · exact h.elim
theorem isSame_true (b : Bool) : isSame (.bool b) (.bool true) = pure b := by cases b <;> rfl
theorem cmp_ok {op : CmpOp} {a b : V} {u v : Value} {Q : Bool → Prop} (X : Cx g sc r c A env s.heap σ ℓ) (ha : VR g s.heap a u) (hb : VR g s.heap b v) (h : cmpV op a b σ Q) : wpAny (model g.prog g.w) A (compareOp op u v) (Told s Q) E s := by
  cases op with
  | Lt => simp only [cmpV] at h; split at h
          · rw [VR_int] at ha hb; obtain ⟨t, rfl⟩ := ha; obtain ⟨t', rfl⟩ := hb; exact PySem.P.lt_int ⟨_, s.toks, rfl, rfl, h⟩
          · exact h.elim
  | LtE => simp only [cmpV] at h; split at h
           · rw [VR_int] at ha hb; obtain ⟨t, rfl⟩ := ha; obtain ⟨t', rfl⟩ := hb; exact PySem.P.le_int ⟨_, s.toks, rfl, rfl, h⟩
           · exact h.elim
  | Gt => simp only [cmpV] at h; split at h
          · rw [VR_int] at ha hb; obtain ⟨t, rfl⟩ := ha; obtain ⟨t', rfl⟩ := hb; exact PySem.P.gt_int ⟨_, s.toks, rfl, rfl, h⟩
          · exact h.elim
  | GtE => simp only [cmpV] at h; split at h
           · rw [VR_int] at ha hb; obtain ⟨t, rfl⟩ := ha; obtain ⟨t', rfl⟩ := hb; exact PySem.P.ge_int ⟨_, s.toks, rfl, rfl, h⟩
           · exact h.elim
  | Eq => exact eq_ok X ha hb h
  | NotEq => exact ne_ok X ha hb h
  | Is =>
    simp only [cmpV] at h
    split at h
    · rw [VR_none] at hb; subst hb; exact is_none ⟨_, s.toks, rfl, rfl, by rw [isNone_of ha]; exact h⟩
    · rw [VR_bool] at hb; subst hb
      split at h
      · rw [VR_bool] at ha; subst ha
        show wpAny _ A (do return Value.bool (← isSame _ _)) _ E s
        rw [isSame_true]; exact wpAny_bind (wpAny_pure (wpAny_pure ⟨_, s.toks, rfl, rfl, h⟩))
      · exact h.elim
    · exact h.elim
  | IsNot =>
    simp only [cmpV] at h
    split at h
    · rw [VR_none] at hb; subst hb; exact isNot_none ⟨_, s.toks, rfl, rfl, by rw [isNone_of ha]; exact h⟩
    · exact h.elim
  | In => exact in_ok X ha hb h
  | NotIn => exact notIn_ok X ha hb h
end
noncomputable def tCmp (op : CmpOp) (t₁ t₂ : TE) : TE := fun ℓ σ Q E => t₁ ℓ σ (fun a σ₁ => t₂ ℓ σ₁ (fun b σ₂ => cmpV op a b σ₂ fun r => Q (.bool r) σ₂) E) E
noncomputable def tCmpB (op : CmpOp) (t₁ t₂ : TE) : TB := fun ℓ σ Q E => t₁ ℓ σ (fun a σ₁ => t₂ ℓ σ₁ (fun b σ₂ => cmpV op a b σ₂ fun r => Q r σ₂) E) E
noncomputable def tCmp2B (op op' : CmpOp) (t₁ t₂ t₃ : TE) : TB := fun ℓ σ Q E => t₁ ℓ σ (fun a σ₁ => t₂ ℓ σ₁ (fun b σ₂ => cmpV op a b σ₂ fun r => match r with | true => t₃ ℓ σ₂ (fun d σ₃ => cmpV op' b d σ₃ fun q => Q q σ₃) E | false => Q false σ₂) E) E
theorem sndE_cmp {op : CmpOp} {e₁ e₂ : Expr} {t₁ t₂ : TE} {pos : Pos} (h1 : SndE g sc r c e₁ t₁) (h2 : SndE g sc r c e₂ t₂) (hm : behindInMarks op e₂ = false) : SndE g sc r c (.Compare e₁ [op] [e₂] pos) (tCmp op t₁ t₂) := .mk fun A env s ℓ σ Q E X h => by
  refine wpAny_Compare1 (wpAny_mono (h1.run A env s ℓ σ _ E X h) (fun u s₁ p => ?_) fun _ _ p => p) hm
  refine Post.elim p fun a σ₁ hu hR hx hs hq => ?_
  have X₁ := X.step hR hx
  refine wpAny_mono (h2.run A env s₁ ℓ σ₁ _ E X₁ hq) (fun v s₂ p => ?_) fun _ _ p => p.back hx hs
  refine Post.elim p fun b σ₂ hv hR2 hx2 hs2 hq2 => ?_
  refine wpAny_mono (cmp_ok (E := fun _ _ => False) (X₁.step hR2 hx2) (hx2.vr hR noSeq_no hu) hv hq2) (fun w s₃ p => ?_) fun _ _ p => p.elim
  obtain ⟨bb, tk, rfl, rfl, hq3⟩ := p
  exact ⟨.bool bb, σ₂, VR_bool.mpr rfl, hR2, hx.trans hx2, hs.trans (hs2.trans ⟨rfl, rfl, rfl⟩), hq3⟩
theorem sndB_cmp {op : CmpOp} {e₁ e₂ : Expr} {t₁ t₂ : TE} {pos : Pos} (h1 : SndE g sc r c e₁ t₁) (h2 : SndE g sc r c e₂ t₂) (hm : behindInMarks op e₂ = false) : SndB g sc r c (.Compare e₁ [op] [e₂] pos) (tCmpB op t₁ t₂) := .mk fun A env s ℓ σ Q E X h => by
  refine wpAny_isTrue_Compare1 (wpAny_mono (h1.run A env s ℓ σ _ E X h) (fun u s₁ p => ?_) fun _ _ p => p) hm
  refine Post.elim p fun a σ₁ hu hR hx hs hq => ?_
  have X₁ := X.step hR hx
  refine wpAny_mono (h2.run A env s₁ ℓ σ₁ _ E X₁ hq) (fun v s₂ p => ?_) fun _ _ p => p.back hx hs
  refine Post.elim p fun b σ₂ hv hR2 hx2 hs2 hq2 => ?_
  refine wpAny_mono (cmp_ok (E := fun _ _ => False) (X₁.step hR2 hx2) (hx2.vr hR noSeq_no hu) hv hq2) (fun w s₃ p => ?_) fun _ _ p => p.elim
  obtain ⟨bb, tk, rfl, rfl, hq3⟩ := p
  exact wpAny_truthy_bool ⟨bb, σ₂, rfl, hR2, hx.trans hx2, hs.trans (hs2.trans ⟨rfl, rfl, rfl⟩), hq3⟩
theorem sndB_cmp2 {op op' : CmpOp} {e₁ e₂ e₃ : Expr} {t₁ t₂ t₃ : TE} {pos : Pos} (h1 : SndE g sc r c e₁ t₁) (h2 : SndE g sc r c e₂ t₂) (h3 : SndE g sc r c e₃ t₃) (hm : lastMarks [op, op'] [e₂, e₃] = false) :
    SndB g sc r c (.Compare e₁ [op, op'] [e₂, e₃] pos) (tCmp2B op op' t₁ t₂ t₃) := .mk fun A env s ℓ σ Q E X h => by
  refine isTrue_chain (wpAny_mono (h1.run A env s ℓ σ _ E X h) (fun u s₁ p => ?_) fun _ _ p => p) hm
  refine Post.elim p fun a σ₁ hu hR hx hs hq => ?_
  have X₁ := X.step hR hx
  refine test_link (wpAny_mono (h2.run A env s₁ ℓ σ₁ _ E X₁ hq) (fun v s₂ p => ?_) fun _ _ p => p.back hx hs)
  refine Post.elim p fun b σ₂ hv hR2 hx2 hs2 hq2 => ?_
  have X₂ := X₁.step hR2 hx2
  refine wpAny_mono (cmp_ok (E := fun _ _ => False) X₂ (hx2.vr hR noSeq_no hu) hv hq2) (fun w s₃ p => ?_) fun _ _ p => p.elim
  obtain ⟨bb, tk, rfl, rfl, hq3⟩ := p
  have hs' : Same s { s₂ with toks := tk } := hs.trans (hs2.trans ⟨rfl, rfl, rfl⟩)
  refine wpAny_truthy_bool ?_
  cases bb with
  | false => exact ⟨false, σ₂, rfl, hR2, hx.trans hx2, hs', hq3⟩
  | true =>
    refine test_last (wpAny_mono (h3.run A env { s₂ with toks := tk } ℓ σ₂ _ E X₂ hq3) (fun y s₄ p => ?_) fun _ _ p => PostX.back (s₁ := { s₂ with toks := tk }) (hx.trans hx2) hs' p)
    refine Post.elim p fun d σ₃ hy hR3 hx3 hs3 hq4 => ?_
    refine wpAny_mono (cmp_ok (E := fun _ _ => False) (X₂.step hR3 hx3) (hx3.vr hR2 noSeq_no hv) hy hq4) (fun w s₅ p => ?_) fun _ _ p => p.elim
    obtain ⟨bb, tk', rfl, rfl, hq5⟩ := p
    exact wpAny_truthy_bool ⟨bb, σ₃, rfl, hR3, (hx.trans hx2).trans hx3, hs'.trans (hs3.trans ⟨rfl, rfl, rfl⟩), hq5⟩
end
section
open PySem PyProof.Rows
variable {g : Gr} {sc : Scope} {r : Nat} {c : Bool}
/-! ## operators -/
noncomputable def binV (op : Operator) (a b : V) (σ : AH) (Q : V → AH → Prop) : Prop := match op with
  | .Add => match a, b with
    | .int i, .int j => Q (.int (i + j)) σ
    | .str x, .str y => Fits (x.length + y.length) ∧ Q (.str (x ++ y)) σ
    | .tup xs, .tup ys => Fits (xs.length + ys.length) ∧ Q (.tup (xs ++ ys)) σ
    | .ref l, .ref m => ∃ xs ys, σ l = some (.list xs) ∧ σ m = some (.list ys) ∧ Fits (xs.length + ys.length) ∧ ∀ a, σ a = none → Q (.ref a) (σ.set a (.list (xs ++ ys)))
    | _, _ => False
  | .Sub => match a, b with | .int i, .int j => Q (.int (i - j)) σ | _, _ => False
  | .Mult => match a, b with
    | .int i, .int j => IntMulOk i j ∧ Q (.int (i * j)) σ
    | _, _ => False
  | .FloorDiv => match a, b with | .int i, .int j => j ≠ 0 ∧ Q (.int (i.fdiv j)) σ | _, _ => False
  | .Mod => match a, b with | .int i, .int j => j ≠ 0 ∧ Q (.int (i.fmod j)) σ | _, _ => False
  | .Pow => match a, b with | .int i, .int j => (0 ≤ j ∧ j ≤ 1000000 ∧ i.natAbs < 2 ^ 64) ∧ Q (.int (i ^ j.toNat)) σ | _, _ => False
  | _ => False
section
variable {A : Around} {env : Env} {E : Value → Shared → Prop} {s : Shared} {σ : AH} {ℓ : Loc} {Q : V → AH → Prop}
theorem post_tok {x : V} {v : Value} {tk : Nat} (R : Rel g s.heap σ) (hv : VR g s.heap x v) (h : Q x σ) : PostE g s σ Q v { s with toks := tk } :=
  .keeps (fun _ _ e => e) ⟨rfl, rfl, rfl⟩ hv R h
theorem pylong_ok (X : Cx g sc r c A env s.heap σ ℓ) : PylongRoom (model g.prog g.w) A s := by
  obtain ⟨e0, outer, hA, hf, ff, off, h1, h2, h3, h4⟩ := X.fr
  refine PylongRoom.of (X.gok.nolimit.keeps X.rel.base) ?_ (SeerAt.of (X.gok.seer.keeps X.rel.base) X.gok.tree hA h1 h2 h3 h4)
  have := X.room.depth
  show A.depth + 100 < _
  omega
theorem bin_ok {op : Operator} {a b : V} {u v : Value} (X : Cx g sc r c A env s.heap σ ℓ) (ha : VR g s.heap a u) (hb : VR g s.heap b v) (h : binV op a b σ Q) : wpAny (model g.prog g.w) A (binaryOp op u v) (PostE g s σ Q) E s := by
  cases op with
  | Add =>
    simp only [binV] at h
    split at h
    · rw [VR_int] at ha hb; obtain ⟨t, rfl⟩ := ha; obtain ⟨t', rfl⟩ := hb
      exact PySem.P.add_int (post_tok X.rel (VR_int.mpr ⟨_, rfl⟩) h)
    · rw [VR_str] at ha hb; obtain ⟨hfa, t, rfl⟩ := ha; obtain ⟨hfb, t', rfl⟩ := hb
      exact PyProof.Rows.add_str (fun t' tk => post_tok X.rel (VR_str.mpr ⟨by rw [Str.length_append]; exact h.1, _, rfl⟩) h.2) h.1.line
    · rename_i xs ys
      rw [VR_tup] at ha hb
      obtain ⟨hfa, l, ⟨cls, dd, data, sl⟩, vs, n, rfl, nh, ho, hc, hd, hvs⟩ := ha
      obtain ⟨hfb, m, ⟨cls2, dd2, data2, sl2⟩, ws, n2, rfl, nh2, ho2, hc2, hd2, hws⟩ := hb
      simp only at hc hd hc2 hd2
      subst hc hd hc2 hd2
      have hl := VRs_length hvs
      have hl2 := VRs_length hws
      simp only [Array.length_toList] at hl hl2
      by_cases e1 : vs.isEmpty = true
      · have : xs = [] := by have : vs.size = 0 := by simpa using e1
                             cases xs with | nil => rfl | cons _ _ => simp at hl; omega
        subst this
        exact concat_meets ⟨_, ho, rfl⟩ ⟨_, ho2, rfl⟩ noFill_tuple_add seq_tuple_add PySem.F.slot_tuple_add PySem.F.entry_tuple_add (PySem.F.args_tuple_add_2 _ _) (tuple_addW0 l m vs ws n n2 dd dd2 sl sl2 e1)
          ⟨ho, ho2, post_tok X.rel (VR_tup.mpr ⟨hfb, m, _, ws, n2, rfl, nh2, ho2, rfl, rfl, hws⟩) h.2⟩
      · by_cases e2 : ws.isEmpty = true
        · have : ys = [] := by have : ws.size = 0 := by simpa using e2
                               cases ys with | nil => rfl | cons _ _ => simp at hl2; omega
          subst this
          refine concat_meets ⟨_, ho, rfl⟩ ⟨_, ho2, rfl⟩ noFill_tuple_add seq_tuple_add PySem.F.slot_tuple_add PySem.F.entry_tuple_add (PySem.F.args_tuple_add_2 _ _) (tuple_addW1 l m vs ws n n2 dd dd2 sl sl2 e1 e2)
            ⟨ho, ho2, post_tok X.rel (VR_tup.mpr ⟨hfa, l, _, vs, n, rfl, nh, ho, rfl, rfl, hvs⟩) ?_⟩
          rw [List.append_nil] at h; exact h.2
        · refine concat_meets ⟨_, ho, rfl⟩ ⟨_, ho2, rfl⟩ noFill_tuple_add seq_tuple_add PySem.F.slot_tuple_add PySem.F.entry_tuple_add (PySem.F.args_tuple_add_2 _ _) (tuple_addW2 l m vs ws n n2 dd dd2 sl sl2 e1 e2 (by rw [← hl, ← hl2]; exact h.1.line))
            ⟨ho, ho2, ?_⟩
          have e : vs ++ ws = (vs.toList ++ ws.toList).toArray := by simp
          rw [e]
          exact post_newTuple .refl .refl X.rel (VRs_append hvs hws) (by rw [List.length_append]; exact h.1) h.2 rfl
    · rename_i l m
      obtain ⟨xs, ys, e1, e2, hf, hq⟩ := h
      rw [VR_ref] at ha hb; subst ha hb
      obtain ⟨_, hfa, vs, n, ho, hvs⟩ := X.rel.own l _ e1
      obtain ⟨_, hfb, ws, n2, ho2, hws⟩ := X.rel.own m _ e2
      have hl := VRs_length hvs
      have hl2 := VRs_length hws
      simp only [Array.length_toList] at hl hl2
      refine concat_meets ⟨_, ho, rfl⟩ ⟨_, ho2, rfl⟩ noFill_list_add seq_list_add PySem.F.slot_list_add PySem.F.entry_list_add (PySem.F.args_list_add_2 _ _) (list_addW l m vs ws n n2 none none #[] #[] (by rw [← hl, ← hl2]; exact hf.line)) ⟨ho, ho2, ?_⟩
      have e : vs ++ ws = (vs.toList ++ ws.toList).toArray := by simp
      rw [e]
      exact post_newList .refl .refl X.rel (VRs_append hvs hws) (by rw [List.length_append]; exact hf) hq rfl
    · exact h.elim
  | Sub =>
    simp only [binV] at h; split at h
    · rw [VR_int] at ha hb; obtain ⟨t, rfl⟩ := ha; obtain ⟨t', rfl⟩ := hb
      exact PySem.P.sub_int (post_tok X.rel (VR_int.mpr ⟨_, rfl⟩) h)
    · exact h.elim
  | Mult =>
    simp only [binV] at h; split at h
    · rw [VR_int] at ha hb; obtain ⟨t, rfl⟩ := ha; obtain ⟨t', rfl⟩ := hb
      exact PySem.P.mul_int (post_tok X.rel (VR_int.mpr ⟨_, rfl⟩) h.2) h.1
    · exact h.elim
  | FloorDiv =>
    simp only [binV] at h; split at h
    · rw [VR_int] at ha hb; obtain ⟨t, rfl⟩ := ha; obtain ⟨t', rfl⟩ := hb
      exact floordiv_int h.1 (post_tok X.rel (VR_int.mpr ⟨_, rfl⟩) h.2) (.inr (pylong_ok X))
    · exact h.elim
  | Mod =>
    simp only [binV] at h; split at h
    · rw [VR_int] at ha hb; obtain ⟨t, rfl⟩ := ha; obtain ⟨t', rfl⟩ := hb
      exact mod_int' h.1 (post_tok X.rel (VR_int.mpr ⟨_, rfl⟩) h.2)
    · exact h.elim
  | Pow =>
    simp only [binV] at h; split at h
    · rw [VR_int] at ha hb; obtain ⟨t, rfl⟩ := ha; obtain ⟨t', rfl⟩ := hb
      exact pow_int_small h.1.1 h.1.2.1 h.1.2.2 (post_tok X.rel (VR_int.mpr ⟨_, rfl⟩) h.2)
    · exact h.elim
  | _ => exact h.elim
end
noncomputable def tBin (op : Operator) (t₁ t₂ : TE) : TE := fun ℓ σ Q E => t₁ ℓ σ (fun a σ₁ => t₂ ℓ σ₁ (fun b σ₂ => binV op a b σ₂ Q) E) E
theorem sndE_bin {op : Operator} {e₁ e₂ : Expr} {t₁ t₂ : TE} {pos : Pos} (h1 : SndE g sc r c e₁ t₁) (h2 : SndE g sc r c e₂ t₂) : SndE g sc r c (.BinOp e₁ op e₂ pos) (tBin op t₁ t₂) := .mk fun A env s ℓ σ Q E X h => by
  refine wpAny_BinOp (wpAny_mono (h1.run A env s ℓ σ _ E X h) (fun u s₁ p => ?_) fun _ _ p => p)
  refine Post.elim p fun a σ₁ hu hR hx hs hq => ?_
  have X₁ := X.step hR hx
  refine wpAny_mono (h2.run A env s₁ ℓ σ₁ _ E X₁ hq) (fun v s₂ p => ?_) fun _ _ p => p.back hx hs
  refine Post.elim p fun b σ₂ hv hR2 hx2 hs2 hq2 => ?_
  exact wp_back (hx.trans hx2) (hs.trans hs2) (bin_ok (X₁.step hR2 hx2) (hx2.vr hR noSeq_no hu) hv hq2)
/-- not, as a value -/
noncomputable def tNot (t : TE) : TE := fun ℓ σ Q E => t ℓ σ (fun v σ₁ => match truthV v σ₁ with | some b => Q (.bool (!b)) σ₁ | none => False) E
theorem sndE_not {e : Expr} {t : TE} {pos : Pos} (h1 : SndE g sc r c e t) : SndE g sc r c (.UnaryOp .Not e pos) (tNot t) := .mk fun A env s ℓ σ Q E X h => by
  refine wpAny_UnaryOp (X.then (h1.run A env s ℓ σ _ E X h) fun v x s₁ σ₁ hv X₁ hx hq => ?_)
  split at hq
  · rename_i b hb; exact not_value (truth_ok X.gok X₁.rel hv hb fun tk => post_tok X₁.rel (VR_bool.mpr rfl) hq)
  · exact hq.elim
/-- a if t else b -/
noncomputable def tIf (t : TB) (a b : TE) : TE := fun ℓ σ Q E => t ℓ σ (fun x σ₁ => match x with | true => a ℓ σ₁ Q E | false => b ℓ σ₁ Q E) E
theorem sndE_if {e a b : Expr} {t : TB} {ta tb : TE} {pos : Pos} (h1 : SndB g sc r c e t) (h2 : SndE g sc r c a ta) (h3 : SndE g sc r c b tb) : SndE g sc r c (.IfExp e a b pos) (tIf t ta tb) := .mk fun A env s ℓ σ Q E X h => by
  refine wpAny_IfExp (wpAny_mono (h1.run A env s ℓ σ _ E X h) (fun u s₁ p => ?_) fun _ _ p => p)
  obtain ⟨x, σ₁, rfl, hR, hx, hs, hq⟩ := p
  cases x with
  | true => exact wp_back hx hs (h2.run A env s₁ ℓ σ₁ Q E (X.step hR hx) hq)
  | false => exact wp_back hx hs (h3.run A env s₁ ℓ σ₁ Q E (X.step hR hx) hq)
/-- and, or as values -/
structure SndV (g : Gr) (sc : Scope) (r : Nat) (c : Bool) (op : BoolOp) (es : List Expr) (t : TE) : Prop where
  run : ∀ A env pos s ℓ σ Q E, Cx g sc r c A env s.heap σ ℓ → t ℓ σ Q E → wpAny (model g.prog g.w) A (boolOp pos op (evalEach es env)) (PostE g s σ Q) (PostX g A s σ E) s
noncomputable def tAnd (t ts : TE) : TE := fun ℓ σ Q E => t ℓ σ (fun v σ₁ => match truthV v σ₁ with | some true => ts ℓ σ₁ Q E | some false => Q v σ₁ | none => False) E
theorem sndV_one {op : BoolOp} {e : Expr} {t : TE} (h1 : SndE g sc r c e t) : SndV g sc r c op [e] t := .mk fun A env pos s ℓ σ Q E X h => h1.run A env s ℓ σ Q E X h
theorem sndV_and {e e' : Expr} {es : List Expr} {t ts : TE} (h1 : SndE g sc r c e t) (h2 : SndV g sc r c .And (e' :: es) ts) : SndV g sc r c .And (e :: e' :: es) (tAnd t ts) := .mk fun A env pos s ℓ σ Q E X h => by
  show wpAny _ A (do let v ← eval e env; standAt pos; let t ← holding [v] (truthy v); match BoolOp.And, t with | .And, false | .Or, true => pure v | _, _ => boolOp pos .And (evalEach (e' :: es) env)) _ _ s
  refine wpAny_bind (X.then (h1.run A env s ℓ σ _ E X h) fun v x s₁ σ₁ hv X₁ hx hq => ?_)
  refine wpAny_bind (wpAny_standAt (wpAny_bind (wpAny_holding ?_)))
  split at hq
  · rename_i hb; exact truth_ok X.gok X₁.rel hv hb fun tk => wp_back (s := s₁) (s₁ := { s₁ with toks := tk }) .refl ⟨rfl, rfl, rfl⟩ (h2.run A env pos _ ℓ σ₁ Q E X₁ hq)
  · rename_i hb; exact truth_ok X.gok X₁.rel hv hb fun tk => wpAny_pure (post_tok X₁.rel hv hq)
  · exact hq.elim
theorem sndE_boolop {op : BoolOp} {es : List Expr} {t : TE} {pos : Pos} (h1 : SndV g sc r c op es t) : SndE g sc r c (.BoolOp op es pos) t := .mk fun A env s ℓ σ Q E X h => h1.run A env pos s ℓ σ Q E X h
end
section
open PySem PyProof.Rows
variable {g : Gr} {sc : Scope} {r : Nat} {c : Bool}
/-! ## items -/
noncomputable def atV (xs : List V) (k : Int) : Option V := (seqIndex? k xs.length).bind (xs[·]?)
noncomputable def itemV (o i : V) (σ : AH) (Q : V → Prop) : Prop := match o with
  | .tup xs => match i with | .int k => (match atV xs k with | some x => Q x | none => False) | _ => False
  | .frz xs => match i with | .int k => (match atV xs k with | some x => Q x | none => False) | _ => False
  | .ref a => match σ a with
    | some (.list xs) => (match i with | .int k => (match atV xs k with | some x => Q x | none => False) | _ => False)
    | some (.dictI kvs _) => (match i with | .int k => (match kvs.lookup k with | some x => Q x | none => False) | _ => False)
    | some (.dictS kvs _) => (match i with | .str k => (match kvs.lookup k with | some x => Q x | none => False) | _ => False)
    | some (.dictT kvs _) => ∃ ks : List Int, i = .tup (ks.map V.int) ∧ (match kvs.lookup ks with | some x => Q x | none => False)
    | _ => False
  | _ => False
theorem seqIndex_some {k : Int} {n j : Nat} (h : seqIndex? k n = some j) : j < n ∧ ((0 ≤ k ∧ j = k.toNat) ∨ (k < 0 ∧ -(n : Int) ≤ k ∧ j = (k + n).toNat)) := by
  unfold seqIndex? at h
  dsimp only at h
  by_cases hk : k < 0
  · rw [if_pos hk] at h
    split at h
    · rename_i q
      simp only [Bool.and_eq_true, decide_eq_true_eq] at q
      cases h
      exact ⟨by omega, .inr ⟨hk, by omega, rfl⟩⟩
    · cases h
  · rw [if_neg hk] at h
    split at h
    · rename_i q
      simp only [Bool.and_eq_true, decide_eq_true_eq] at q
      cases h
      exact ⟨by omega, .inl ⟨by omega, rfl⟩⟩
    · cases h
theorem atV_some {xs : List V} {k : Int} {x : V} (h : atV xs k = some x) : ∃ j, seqIndex? k xs.length = some j ∧ xs[j]? = some x := by
  unfold atV at h
  exact Option.bind_eq_some_iff.mp h
theorem lookup_pairs {K : Type} [DecidableEq K] {g : Gr} {h : Heap} {kvs : List (K × V)} {us : List (K × Value)} (hk : us.map (·.1) = kvs.map (·.1)) (hv : VRs g h (kvs.map (·.2)) (us.map (·.2))) {k : K} {x : V} (e : kvs.lookup k = some x) :
    ∃ v, valueAt us k = some v ∧ VR g h x v := by
  induction kvs generalizing us with
  | nil => cases e
  | cons kv kvs ih =>
    cases us with
    | nil => simp at hk
    | cons u us =>
      simp only [List.map_cons, List.cons.injEq] at hk hv
      obtain ⟨v, r, e2, h1, h2⟩ := VRs_cons_inv hv
      cases e2
      rw [List.lookup_cons] at e
      unfold valueAt
      rw [List.find?_cons]
      by_cases q : k = kv.1
      · have : (k == kv.1) = true := by simpa using q
        rw [this] at e; cases e
        have : decide (u.1 = k) = true := by rw [hk.1, q]; simp
        rw [this]; exact ⟨_, rfl, h1⟩
      · have : (k == kv.1) = false := by simpa using q
        rw [this] at e
        have : decide (u.1 = k) = false := by rw [hk.1]; simpa using fun z => q z.symm
        rw [this]; exact ih hk.2 h2 e
theorem lookup_keys {g : Gr} {h : Heap} {kvs : List (List Int × V)} {us : List (List Int × Addr × Value)} (hk : us.map (·.1) = kvs.map (·.1)) (hv : VRs g h (kvs.map (·.2)) (us.map (·.2.2))) {k : List Int} {x : V} (e : kvs.lookup k = some x) :
    ∃ p, atKey us k = some p ∧ VR g h x p.2 := by
  induction kvs generalizing us with
  | nil => cases e
  | cons kv kvs ih =>
    cases us with
    | nil => simp at hk
    | cons u us =>
      simp only [List.map_cons, List.cons.injEq] at hk hv
      obtain ⟨v, r, e2, h1, h2⟩ := VRs_cons_inv hv
      cases e2
      rw [List.lookup_cons] at e
      unfold atKey
      rw [List.find?_cons]
      by_cases q : k = kv.1
      · have : (k == kv.1) = true := by simpa using q
        rw [this] at e; cases e
        have : decide (u.1 = k) = true := by rw [hk.1, q]; simp
        rw [this]; exact ⟨_, rfl, h1⟩
      · have : (k == kv.1) = false := by simpa using q
        rw [this] at e
        have : decide (u.1 = k) = false := by rw [hk.1]; simpa using fun z => q z.symm
        rw [this]; exact ih hk.2 h2 e
section
variable {A : Around} {env : Env} {E : Value → Shared → Prop} {s : Shared} {σ : AH} {ℓ : Loc}
theorem getList_ok {l : Addr} {o : Obj} {vs : Array Value} {n : Nat} {xs : List V} {k : Int} {t : Tok} {x : V} {P : Value → Shared → Prop} (ho : s.heap.get? l = some o) (hc : o.cls = .type "list") (hd : o.data = .seq vs n) (hf : Fits xs.length) (hvs : VRs g s.heap xs vs.toList)
    (e : atV xs k = some x) (hq : ∀ v, VR g s.heap x v → P v s) : wpAny (model g.prog g.w) A (getItem (.ref l) (.int k t)) P E s := by
  obtain ⟨j, e1, e2⟩ := atV_some e
  obtain ⟨v, e3, hv⟩ := VRs_get hvs e2
  have hl := VRs_length hvs
  simp only [Array.length_toList] at hl
  obtain ⟨hj, hk⟩ := seqIndex_some e1
  have := hf
  unfold Fits at this
  rcases hk with ⟨h0, rfl⟩ | ⟨h0, h1, rfl⟩
  · exact wpAny_getItem_list ⟨o, ho, hc, n, hd⟩ h0 (by omega) (by rw [← Array.getElem?_toList]; exact e3) (hq v hv)
  · refine wpAny_getItem_list_neg ⟨o, ho, hc, n, hd⟩ h0 (by rw [← hl]; exact h1) (by omega) ?_ (hq v hv)
    rw [← hl, ← Array.getElem?_toList]; exact e3
theorem typeIs_at {a : Addr} {o : Obj} {T : String} (ho : s.heap.get? a = some o) (hc : o.cls = .type T) : s.TypeIs (.ref a) T := ⟨o, ho, hc⟩
theorem item_ok {value slice : Expr} {o i : V} {u v : Value} {Q : V → Prop} {P : Value → Shared → Prop} (X : Cx g sc r c A env s.heap σ ℓ) (ho : VR g s.heap o u) (hi : VR g s.heap i v) (h : itemV o i σ Q)
    (hs : ∀ a b, subscripted slice false a b = operate [a, b] (getItem a b)) (hq : ∀ x w tk, Q x → VR g s.heap x w → P w { s with toks := tk }) : wpAny (model g.prog g.w) A (subscriptTail value slice u v) P E s := by
  have hu := X.room.cline
  unfold itemV at h
  split at h
  · rename_i xs
    split at h
    · rename_i k
      split at h
      · rename_i x e
        rw [VR_int] at hi; obtain ⟨t, rfl⟩ := hi
        rw [VR_tup] at ho; obtain ⟨hf, a, ob, vs, n, rfl, nh, hob, hc, hd, hvs⟩ := ho
        obtain ⟨j, e1, e2⟩ := atV_some e
        obtain ⟨w, e3, hw⟩ := VRs_get hvs e2
        have hl := VRs_length hvs
        simp only [Array.length_toList] at hl
        obtain ⟨hj, hk⟩ := seqIndex_some e1
        have := hf
        unfold Fits at this
        exact tail_any (typeIs_at hob hc) slot_tuple_getitem.lookup (getItem_tuple ⟨ob, hob, hc, n, hd⟩ (by omega) (by omega) (by rw [← hl]; exact e1) (by rw [← Array.getElem?_toList]; exact e3) (hq x w s.toks h hw)) (hs _ _)
      · exact h.elim
    · exact h.elim
  · rename_i xs
    split at h
    · rename_i k
      split at h
      · rename_i x e
        rw [VR_int] at hi; obtain ⟨t, rfl⟩ := hi
        rw [VR_frz] at ho; obtain ⟨hf, a, ob, vs, n, rfl, hob, hc, hd, hvs⟩ := ho
        exact tail_any (typeIs_at (X.rel.base _ _ hob) hc) slot_list_getitem.lookup (getList_ok (X.rel.base _ _ hob) hc hd hf hvs e fun w hw => hq x w s.toks h hw) (hs _ _)
      · exact h.elim
    · exact h.elim
  · rename_i a
    rw [VR_ref] at ho; subst ho
    split at h
    · rename_i xs ea
      obtain ⟨_, hf, vs, n, hob, hvs⟩ := X.rel.own a _ ea
      split at h
      · rename_i k
        split at h
        · rename_i x e
          rw [VR_int] at hi; obtain ⟨t, rfl⟩ := hi
          exact tail_any (typeIs_at hob rfl) slot_list_getitem.lookup (getList_ok hob rfl rfl hf hvs e fun w hw => hq x w s.toks h hw) (hs _ _)
        · exact h.elim
      · exact h.elim
    · rename_i kvs ep ea
      obtain ⟨_, hf, us, hd, hk, hvs⟩ := X.rel.own a _ ea
      split at h
      · rename_i k
        split at h
        · rename_i x e
          rw [VR_int] at hi; obtain ⟨t, rfl⟩ := hi
          obtain ⟨w, e2, hw⟩ := lookup_pairs hk hvs e
          exact tail_any hd.dictOf.typeIs slot_dict_getitem.lookup (wpAny_getItem_of (intKind_is _ _ k t) hd.dictOf.mapOf e2 (hq x w _ h hw)) (hs _ _)
        · exact h.elim
      · exact h.elim
    · rename_i kvs ep ea
      obtain ⟨_, hf, us, hd, hk, hvs⟩ := X.rel.own a _ ea
      split at h
      · rename_i k
        split at h
        · rename_i x e
          rw [VR_str] at hi; obtain ⟨_, t, rfl⟩ := hi
          obtain ⟨w, e2, hw⟩ := lookup_pairs hk hvs e
          exact tail_any hd.dictOf.typeIs slot_dict_getitem.lookup (wpAny_getItem_of (strKind_is _ _ k t) hd.dictOf.mapOf e2 (hq x w _ h hw)) (hs _ _)
        · exact h.elim
      · exact h.elim
    · rename_i kvs ep ea
      obtain ⟨_, hf, us, hd, hk, hvs⟩ := X.rel.own a _ ea
      obtain ⟨ks, rfl, h⟩ := h
      split at h
      · rename_i x e
        obtain ⟨ka, rfl, _, hka⟩ := tupleKey_of hi
        obtain ⟨p, e2, hw⟩ := lookup_keys hk hvs e
        exact tail_any hd.ofH.typeIs slot_dict_getitem.lookup (wpAny_getItem_heap (knd := tupleKind (intKind g.prog g.w)) (tupleKind_room_in1 (by omega)) hka hd.ofH e2 (hq x p.2 _ h hw)) (hs _ _)
      · exact h.elim
    · exact h.elim
  · exact h.elim
end
noncomputable def tItem (t₁ t₂ : TE) : TE := fun ℓ σ Q E => t₁ ℓ σ (fun a σ₁ => t₂ ℓ σ₁ (fun b σ₂ => itemV a b σ₂ fun x => Q x σ₂) E) E
theorem sndE_item {e₁ e₂ : Expr} {t₁ t₂ : TE} {pos : Pos} (h1 : SndE g sc r c e₁ t₁) (h2 : SndE g sc r c e₂ t₂) (hs : ∀ a b, subscripted e₂ false a b = operate [a, b] (getItem a b)) : SndE g sc r c (.Subscript e₁ e₂ pos) (tItem t₁ t₂) := .mk fun A env s ℓ σ Q E X h => by
  refine Subscript_ (wpAny_mono (h1.run A env s ℓ σ _ E X h) (fun u s₁ p => ?_) fun _ _ p => p)
  refine Post.elim p fun a σ₁ hu hR hx hs1 hq => ?_
  have X₁ := X.step hR hx
  refine wpAny_mono (h2.run A env s₁ ℓ σ₁ _ E X₁ hq) (fun v s₂ p => ?_) fun _ _ p => p.back hx hs1
  refine Post.elim p fun b σ₂ hv hR2 hx2 hs2 hq2 => ?_
  exact wp_back (hx.trans hx2) (hs1.trans hs2) (item_ok (X₁.step hR2 hx2) (hx2.vr hR noSeq_no hu) hv hq2 hs fun x w tk hx hw => post_tok hR2 hw hx)
/-! ## slices by bounds that are not negative -/
noncomputable def loN : Option Int → Nat
  | some a => a.toNat
  | none => 0
noncomputable def hiN (n : Nat) : Option Int → Nat
  | some b => min b.toNat n
  | none => n
noncomputable def takeV {α : Type} (xs : List α) : Option Int → List α
  | some b => xs.take b.toNat
  | none => xs
noncomputable def cutV {α : Type} (lo hi : Option Int) (xs : List α) : List α := (takeV xs hi).drop (loN lo)
noncomputable def Nonneg : Option Int → Prop
  | some a => 0 ≤ a
  | none => True
theorem cutV_length {α : Type} (lo hi : Option Int) (xs : List α) : (cutV lo hi xs).length ≤ xs.length := by
  unfold cutV
  rw [List.length_drop]
  cases hi with
  | none => exact Nat.sub_le _ _
  | some b => unfold takeV; rw [List.length_take]; omega
theorem VRs_cut {g : Gr} {h : Heap} {xs : List V} {vs : List Value} (lo hi : Option Int) (a : VRs g h xs vs) : VRs g h (cutV lo hi xs) (cutV lo hi vs) := by
  unfold cutV
  cases hi with
  | none => exact VRs_drop _ a
  | some b => exact VRs_drop _ (VRs_take _ a)
theorem run_eq_cut {α : Type} (xs : List α) (a b : Nat) : (xs.drop (min a xs.length)).take (min b xs.length - min a xs.length) = (xs.take b).drop a := by
  apply List.ext_getElem?
  intro i
  rw [List.getElem?_drop, List.getElem?_take, List.getElem?_take, List.getElem?_drop]
  by_cases h1 : a + i < b
  · rw [if_pos h1]
    by_cases h2 : a + i < xs.length
    · rw [if_pos (by omega)]; congr 1; omega
    · have e : xs[a + i]? = none := List.getElem?_eq_none (by omega)
      rw [e]
      split
      · exact List.getElem?_eq_none (by omega)
      · rfl
  · rw [if_neg h1]
    split
    · exact absurd ‹_› (by omega)
    · rfl
theorem hiN_take {α : Type} (xs : List α) (hi : Option Int) : takeV xs hi = xs.take (hiN xs.length hi) := by
  cases hi with
  | none => unfold takeV hiN; rw [List.take_length]
  | some b => unfold takeV hiN; rw [← List.take_take, List.take_length]
theorem hiN_le (n : Nat) (hi : Option Int) : hiN n hi ≤ n := by cases hi <;> simp only [hiN] <;> omega
theorem slicePick_cut (items : Array Value) {lo hi : Option Int} (h1 : Nonneg lo) (h2 : Nonneg hi) : (slicePick items lo hi none).toList = cutV lo hi items.toList := by
  have hn : items.toList.length = items.size := by simp
  have e : sliceBounds lo hi none items.size = (((min (loN lo) items.size : Nat) : Int), ((hiN items.size hi : Nat) : Int), 1) := by
    simp only [sliceBounds, Option.getD_none, show (1 : Int) > 0 by decide, if_true]
    congr 1
    · cases lo with
      | none => simp [loN]
      | some a => have : 0 ≤ a := h1
                  unfold loN; dsimp only; rw [if_neg (by omega)]; omega
    · congr 1
      cases hi with
      | none => rfl
      | some b => have : 0 ≤ b := h2
                  unfold hiN; dsimp only; rw [if_neg (by omega)]; omega
  unfold slicePick
  rw [e]
  simp only [sliceRange_one, pick_run]
  unfold cutV
  rw [hiN_take]
  have := run_eq_cut items.toList (loN lo) (hiN items.toList.length hi)
  rw [Nat.min_eq_left (hiN_le _ hi), hn] at this
  rw [hn]
  exact this
end
section
open PySem PyProof.Rows
variable {g : Gr} {sc : Scope} {r : Nat} {c : Bool}
section
variable {prog : Program} {w : World} {A : Around} {E : Value → Shared → Prop} {s : Shared}
theorem slicePart_part {v : Value} {k : Option Int} {Q : Option Int → Shared → Prop} (p : IsPart v k) (h : Q k s) : wpAny (model prog w) A (Builtin.Slice.slicePartIndex v) Q E s := by
  cases p with
  | none => exact slicePart_none h
  | int i t => exact slicePart_int h
theorem adjust_cut {lo hi : Option Int} (h1 : Nonneg lo) (h2 : Nonneg hi) (n : Nat) : Builtin.Slice.sliceAdjust lo hi 1 (n : Int) = (((min (loN lo) n : Nat) : Int), ((hiN n hi : Nat) : Int)) := by
  unfold Builtin.Slice.sliceAdjust
  have e : ¬ ((1 : Int) < 0) := by omega
  simp only [e, if_false]
  congr 1
  · cases lo with
    | none => simp [loN]
    | some a => have : 0 ≤ a := h1
                simp only [loN]; rw [if_neg (by omega)]; omega
  · cases hi with
    | none => rfl
    | some b => have : 0 ≤ b := h2
                simp only [hiN]; rw [if_neg (by omega)]; omega
theorem places_cut (a b : Nat) : Builtin.Slice.slicePlaces (a : Int) (b : Int) 1 = b - a := by
  unfold Builtin.Slice.slicePlaces
  have h1 : (1 : Int) > 0 := by omega
  simp only [h1, if_true, Int.ediv_one]
  split <;> omega
theorem sliceApplied_cut {sl : Addr} {vl vu : Value} {lo hi : Option Int} {n : Nat} {Q : Int × Int × Nat → Shared → Prop} (hs : s.heap.IsSliceOf sl vl vu .none) (p1 : IsPart vl lo) (p2 : IsPart vu hi) (h1 : Nonneg lo) (h2 : Nonneg hi)
    (h : Q (((min (loN lo) n : Nat) : Int), 1, hiN n hi - min (loN lo) n) s) : wpAny (model prog w) A (Builtin.Slice.sliceApplied (.ref sl) (pure (n : Int))) Q E s := by
  obtain ⟨os, hos, hcs, hds⟩ := id hs
  unfold Builtin.Slice.sliceApplied Builtin.Slice.sliceFields
  refine wpAny_bind (wpAny_bind (wpAny_field hos hds (x := vl) rfl (wpAny_bind (wpAny_field hos hds (x := vu) rfl (wpAny_bind (wpAny_field hos hds (x := .none) rfl (wpAny_pure ?_)))))))
  refine wpAny_bind (slicePart_none ?_)
  show wpAny _ _ (if ((1 : Int) == 0) = true then _ else _) _ _ s
  rw [if_neg (by decide)]
  refine wpAny_bind (slicePart_part p1 (wpAny_bind (slicePart_part p2 (wpAny_bind (wpAny_pure ?_)))))
  show wpAny _ _ (match Builtin.Slice.sliceAdjust lo hi 1 (n : Int) with | (lo, hi) => pure (lo, (1 : Int), Builtin.Slice.slicePlaces lo hi 1)) _ _ s
  rw [adjust_cut h1 h2]
  show wpAny _ _ (pure (((min (loN lo) n : Nat) : Int), (1 : Int), Builtin.Slice.slicePlaces ((min (loN lo) n : Nat) : Int) ((hiN n hi : Nat) : Int) 1)) _ _ s
  rw [places_cut]
  exact wpAny_pure h
theorem pick_cut (xs : Array Value) (lo hi : Option Int) : ((List.range (hiN xs.size hi - min (loN lo) xs.size)).filterMap fun (k : Nat) => xs[(((min (loN lo) xs.size : Nat) : Int) + (k : Int) * 1).toNat]?) = cutV lo hi xs.toList := by
  have hn : xs.toList.length = xs.size := by simp
  have e : (fun (k : Nat) => xs[(((min (loN lo) xs.size : Nat) : Int) + (k : Int) * 1).toNat]?) = fun k => xs[min (loN lo) xs.size + k]? := by
    funext k
    have : (((min (loN lo) xs.size : Nat) : Int) + (k : Int) * 1).toNat = min (loN lo) xs.size + k := by omega
    rw [this]
  rw [e]
  have := pick_run xs (min (loN lo) xs.size) (hiN xs.size hi - min (loN lo) xs.size)
  rw [List.filterMap_map] at this
  have e2 : ((fun x => xs[x]?) ∘ fun x => min (loN lo) xs.size + x) = fun k => xs[min (loN lo) xs.size + k]? := rfl
  rw [e2] at this
  rw [this]
  unfold cutV
  rw [hiN_take]
  have q := run_eq_cut xs.toList (loN lo) (hiN xs.toList.length hi)
  rw [Nat.min_eq_left (hiN_le _ hi), hn] at q
  rw [hn]; exact q
/-- a tuple is cut: the tuple itself, or a new one -/
theorem getItem_tuple_cut {t sl : Addr} {items : Array Value} {vl vu : Value} {lo hi : Option Int} {Q : Value → Shared → Prop} (ht : IsTup s.heap t items) (hs : s.heap.IsSliceOf sl vl vu .none) (p1 : IsPart vl lo) (p2 : IsPart vu hi) (h1 : Nonneg lo) (h2 : Nonneg hi)
    (hq1 : cutV lo hi items.toList = items.toList → Q (.ref t) s) (hq2 : Q (.ref s.heap.objs.size) { s with heap := s.heap.push { cls := .type "tuple", data := .seq (cutV lo hi items.toList).toArray } })
    (hsz : items.size ≤ sizeLine) : wpAny (model prog w) A (getItem (.ref t) (.ref sl)) Q E s := by
  have hdrop : sizeOk (.seq (cutV lo hi items.toList).toArray) := by
    show (cutV lo hi items.toList).toArray.size ≤ sizeLine
    have h3 := cutV_length lo hi items.toList
    have h4 : items.toList.length = items.size := by simp
    have h5 : (cutV lo hi items.toList).toArray.size = (cutV lo hi items.toList).length := List.size_toArray
    omega
  obtain ⟨os, hos, hcs, hds⟩ := id hs
  have hTs : s.TypeIs (.ref sl) "slice" := ⟨os, hos, hcs⟩
  unfold getItem
  try with_reducible refine wpAny_holding ?_
  refine wpAny_bind (wpAny_sequenceKey ht.typeIs (by decide) ?_)
  refine wpAny_bind (wpAny_callSpecial?_slot (name := Str.ofString "__getitem__") ht.typeIs slot_tuple_getitem
    (wpAny_call_entry slot_tuple_getitem ht.typeIs entry_tuple_getitem ?_ (args_tuple_getitem _ _)))
  show wpAny _ _ (Builtin.Tuple.tupleItemsOf (.ref t) >>= _) _ _ s
  refine wpAny_bind (tupleItemsOf_ ht ?_)
  refine wpAny_bind (wpAny_typeOf hTs ?_)
  rw [if_pos (by decide)]
  refine wpAny_bind (sliceApplied_cut hs p1 p2 h1 h2 ?_)
  show wpAny _ _ (if (((min (loN lo) items.size : Nat) : Int) == 0 && (1 : Int) == 1 && (hiN items.size hi - min (loN lo) items.size) == items.size) = true then _ else _) _ _ s
  split
  · rename_i q
    simp only [Bool.and_eq_true, beq_iff_eq] at q
    have e : cutV lo hi items.toList = items.toList := by
      rw [← pick_cut, q.2]
      have : min (loN lo) items.size = 0 := by omega
      rw [this]
      have e2 := pick_run items 0 items.size
      rw [List.filterMap_map] at e2
      have e3 : ((fun x => items[x]?) ∘ fun x => 0 + x) = fun (k : Nat) => items[(((0 : Nat) : Int) + (k : Int) * 1).toNat]? := by
        funext k
        show items[0 + k]? = _
        congr 1; omega
      rw [e3] at e2
      rw [e2, List.drop_zero]
      exact List.take_of_length_le (by simp)
    refine wpAny_bind (m := Builtin.Tuple.tupleIsExact (.ref t)) ?_
    unfold Builtin.Tuple.tupleIsExact
    refine wpAny_bind (wpAny_typeOf ht.typeIs (wpAny_pure ?_))
    rw [if_pos (by decide)]
    exact wpAny_bind (wpAny_rule (wpAny_pure ⟨_, rfl, wpAny_pure (hq1 e)⟩))
  · rw [pick_cut]
    exact wpAny_bind (m := Builtin.Tuple.tupleExact _) (wpAny_newObj_type (wpAny_pure ⟨_, rfl, wpAny_pure hq2⟩) hdrop)
end
/-- a bound that is left out, or given -/
structure SndO (g : Gr) (sc : Scope) (r : Nat) (c : Bool) (e : Option Expr) (t : TE) : Prop where
  run : ∀ A env s ℓ σ Q E, Cx g sc r c A env s.heap σ ℓ → t ℓ σ Q E → wpAny (model g.prog g.w) A (evalPart e env) (PostE g s σ Q) (PostX g A s σ E) s
theorem sndO_none : SndO g sc r c none (tConst .none) := .mk fun A env s ℓ σ Q E X h => wpAny_pure (.here (VR_none.mpr rfl) X.rel h)
theorem sndO_some {e : Expr} {t : TE} (h1 : SndE g sc r c e t) : SndO g sc r c (some e) t := .mk h1.run
noncomputable def boundV : V → Option (Option Int)
  | .none => some none
  | .int i => some (some i)
  | _ => none
theorem isPart_of {g : Gr} {h : Heap} {x : V} {v : Value} {k : Option Int} (hv : VR g h x v) (e : boundV x = some k) : IsPart v k := by
  cases x with
  | none => rw [VR_none] at hv; subst hv; cases e; exact .none
  | int i => rw [VR_int] at hv; obtain ⟨t, rfl⟩ := hv; cases e; exact .int i t
  | _ => cases e
noncomputable def sliceV (o : V) (lo hi : V) (σ : AH) (Q : V → AH → Prop) : Prop := match boundV lo, boundV hi with
  | some l, some h => Nonneg l ∧ Nonneg h ∧ (match o with
    | .tup xs => Q (.tup (cutV l h xs)) σ
    | .frz xs => ∀ a, σ a = none → Q (.ref a) (σ.set a (.list (cutV l h xs)))
    | .ref a => (match σ a with
      | some (.list xs) => ∀ a, σ a = none → Q (.ref a) (σ.set a (.list (cutV l h xs)))
      | _ => False)
    | _ => False)
  | _, _ => False
noncomputable def tSlice (t t₁ t₂ : TE) : TE := fun ℓ σ Q E => t ℓ σ (fun o σ₁ => t₁ ℓ σ₁ (fun lo σ₂ => t₂ ℓ σ₂ (fun hi σ₃ => sliceV o lo hi σ₃ Q) E) E) E
theorem sndE_slice {e : Expr} {lo hi : Option Expr} {t t₁ t₂ : TE} {p pos : Pos} (h0 : SndE g sc r c e t) (h1 : SndO g sc r c lo t₁) (h2 : SndO g sc r c hi t₂) : SndE g sc r c (.Subscript e (.Slice lo hi none p) pos) (tSlice t t₁ t₂) := .mk fun A env s ℓ σ Q E X h => by
  refine Subscript_ (wpAny_mono (h0.run A env s ℓ σ _ E X h) (fun u s₁ q => ?_) fun _ _ q => q)
  obtain ⟨o, σ₁, hu, hR, hx, hs1, hq⟩ := q
  have X₁ := X.step hR hx
  refine wpAny_Slice (wpAny_mono (h1.run A env s₁ ℓ σ₁ _ E X₁ hq) (fun vl s₂ q => ?_) fun _ _ q => q.back hx hs1)
  obtain ⟨lo', σ₂, hl, hR2, hx2, hs2, hq2⟩ := q
  have X₂ := X₁.step hR2 hx2
  have hx02 := hx.trans hx2
  have hs02 := hs1.trans hs2
  refine wpAny_mono (h2.run A env s₂ ℓ σ₂ _ E X₂ hq2) (fun vu s₃ q => ?_) fun _ _ q => q.back hx02 hs02
  obtain ⟨hi', σ₃, hh, hR3, hx3, hs3, hq3⟩ := q
  have X₃ := X₂.step hR3 hx3
  have hx03 := hx02.trans hx3
  have hs03 := hs02.trans hs3
  rw [evalPart_none]
  refine wpAny_pure ?_
  have hu3 : VR g s₃.heap o u := hx3.vr hR2 noSeq_no (hx2.vr hR noSeq_no hu)
  have hl3 := hx3.vr hR2 noSeq_no hl
  unfold sliceV at hq3
  split at hq3
  · rename_i l hb e1 e2
    obtain ⟨n1, n2, hq3⟩ := hq3
    have p1 := isPart_of hl3 e1
    have p2 := isPart_of hh e2
    have hk := push_keeps s₃.heap { cls := .type "slice", data := .fields #[vl, vu, .none] }
    have sub : ∀ a b, subscripted (.Slice lo hi none p) false a b = operate [b, a] (getItem a b) := fun _ _ => rfl
    have hR4 := hR3.keeps hk
    have hx04 : Ext No s.heap σ (s₃.heap.push { cls := .type "slice", data := .fields #[vl, vu, .none] }) σ₃ := hx03.trans (.keeps hk)
    have hs04 : Same s { s₃ with heap := s₃.heap.push { cls := .type "slice", data := .fields #[vl, vu, .none] } } := hs03.trans ⟨rfl, rfl, rfl⟩
    have cutL : ∀ (a : Addr) (ob : Obj) (vs : Array Value) (n : Nat) (xs : List V), s₃.heap.get? a = some ob → ob.cls = .type "list" → ob.data = .seq vs n → Fits xs.length → VRs g s₃.heap xs vs.toList →
        (∀ a, σ₃ a = none → Q (.ref a) (σ₃.set a (.list (cutV l hb xs)))) →
        wpAny (model g.prog g.w) A (subscriptTail e (.Slice lo hi none p) (.ref a) (.ref s₃.heap.objs.size)) (PostE g s σ Q) (PostX g A s σ E) { s₃ with heap := s₃.heap.push { cls := .type "slice", data := .fields #[vl, vu, .none] } } := by
      intro a ob vs n xs hob hc hd hf hvs hQ
      have hlen := VRs_length hvs
      simp only [Array.length_toList] at hlen
      refine tail_any (typeIs_at (s := { s₃ with heap := s₃.heap.push { cls := .type "slice", data := .fields #[vl, vu, .none] } }) (hk _ _ hob) hc) slot_list_getitem.lookup ?_ (sub _ _)
      refine wpAny_getItem_list_slice (s := { s₃ with heap := s₃.heap.push { cls := .type "slice", data := .fields #[vl, vu, .none] } }) ⟨ob, hk _ _ hob, hc, n, hd⟩ (Heap.IsSliceOf.new ..) p1 p2 .none (by simp) ?_ (by rw [← hlen]; exact hf.line)
      refine post_newList (vs := (slicePick vs l hb none).toList) (n := 0) (s₁ := { s₃ with heap := s₃.heap.push { cls := .type "slice", data := .fields #[vl, vu, .none] } }) hx04 hs04 hR4 ?_ (hf.le (cutV_length ..)) hQ rfl
      rw [slicePick_cut vs n1 n2]
      exact VRs_cut _ _ (VRs.mono (fun a o _ _ _ e _ _ => .of (hk a o e)) hvs)
    split at hq3
    · rename_i xs
      rw [VR_tup] at hu3; obtain ⟨hf, a, ob, vs, n, rfl, nh, hob, hc, hd, hvs⟩ := hu3
      have hlen := VRs_length hvs
      simp only [Array.length_toList] at hlen
      have ht : IsTup (s₃.heap.push { cls := .type "slice", data := .fields #[vl, vu, .none] }) a vs := ⟨ob, hk _ _ hob, hc, n, hd⟩
      have hvs4 := VRs.mono (g := g) (h' := s₃.heap.push { cls := .type "slice", data := .fields #[vl, vu, .none] }) (fun a o _ _ _ e _ _ => .of (hk a o e)) hvs
      refine tail_any (typeIs_at (s := { s₃ with heap := s₃.heap.push { cls := .type "slice", data := .fields #[vl, vu, .none] } }) (hk _ _ hob) hc) slot_tuple_getitem.lookup ?_ (sub _ _)
      refine getItem_tuple_cut (s := { s₃ with heap := s₃.heap.push { cls := .type "slice", data := .fields #[vl, vu, .none] } }) ht (Heap.IsSliceOf.new ..) p1 p2 n1 n2 (fun ec => ?_) ?_ (by rw [← hlen]; exact hf.line)
      · have : cutV l hb xs = xs := by
          apply List.ext_getElem?
          have h1 := VRs_length (VRs_cut l hb hvs)
          rw [ec] at h1
          have h2 : (cutV l hb xs).length = xs.length := by rw [h1]; simp [hlen]
          intro i
          unfold cutV at h2 ⊢
          rw [List.length_drop] at h2
          have h4 : (takeV xs hb).length ≤ xs.length := by
            cases hb with
            | none => exact Nat.le_refl _
            | some b => simp only [takeV]; rw [List.length_take]; omega
          by_cases h5 : xs.length = 0
          · have : xs = [] := List.length_eq_zero_iff.mp h5
            subst this
            cases hb <;> simp [takeV]
          · have h6 : loN l = 0 := by omega
            rw [h6, List.drop_zero]
            cases hb with
            | none => rfl
            | some b =>
              simp only [takeV] at h2 h4 ⊢
              rw [h6, List.length_take] at h2
              rw [List.take_of_length_le (by omega)]
        rw [this] at hq3
        exact ⟨.tup xs, σ₃, VR_tup.mpr ⟨hf, a, ob, vs, n, rfl, nh, hk _ _ hob, hc, hd, hvs4⟩, hR4, hx04, hs04, hq3⟩
      · exact post_newTuple (s₁ := { s₃ with heap := s₃.heap.push { cls := .type "slice", data := .fields #[vl, vu, .none] } }) (n := 0) hx04 hs04 hR4 (VRs_cut l hb hvs4) (hf.le (cutV_length ..)) hq3 rfl
    · rename_i xs
      rw [VR_frz] at hu3; obtain ⟨hf, a, ob, vs, n, rfl, hob, hc, hd, hvs⟩ := hu3
      exact cutL a ob vs n xs (hR3.base _ _ hob) hc hd hf hvs hq3
    · rename_i a
      rw [VR_ref] at hu3; subst hu3
      split at hq3
      · rename_i xs ea
        obtain ⟨_, hf, vs, n, hob, hvs⟩ := hR3.own a _ ea
        exact cutL a _ vs n xs hob rfl rfl hf hvs hq3
      · exact hq3.elim
    · exact hq3.elim
  · exact hq3.elim
end
section
open PySem PyProof.Rows
variable {g : Gr} {sc : Scope} {r : Nat} {c : Bool}
theorem ofString_inj {a b : String} (h : Str.ofString a = Str.ofString b) : a = b := by
  rw [Str.ofString_eq_toList, Str.ofString_eq_toList] at h
  have h1 : (a.toList.map Char.toNat).toArray = (b.toList.map Char.toNat).toArray := Str.mk.inj h
  have h2 : a.toList.map Char.toNat = b.toList.map Char.toNat := by simpa using h1
  have h3 : a.toList = b.toList := by
    have inj : ∀ (x y : List Char), x.map Char.toNat = y.map Char.toNat → x = y := by
      intro x
      induction x with
      | nil => intro y e; cases y with | nil => rfl | cons _ _ => simp at e
      | cons c x ih =>
        intro y e
        cases y with
        | nil => simp at e
        | cons d y =>
          simp only [List.map_cons, List.cons.injEq] at e
          have : c = d := Char.toNat_inj.mp e.1
          rw [this, ih y e.2]
    exact inj _ _ h2
  exact String.toList_inj.mp h3
/-! ## statements -/
inductive Fl where
  | next
  | brk
  | cont
  | ret (v : V)
noncomputable def FRel (g : Gr) (h : Heap) : Fl → Flow → Prop
  | .next, f => f = .next
  | .brk, f => f = .brk
  | .cont, f => f = .cont
  | .ret v, f => ∃ u, f = .ret u ∧ VR g h v u
noncomputable abbrev TS := Loc → AH → (Fl → Loc → AH → Prop) → (Addr → Loc → AH → Prop) → Prop
/-- what a block may write: its own names -/
noncomputable def Own (env : Env) : Addr → Prop := fun a => a = env.locals ∨ ∃ x, env.cells.lookup x = some a
inductive PostS (g : Gr) (env : Env) (s : Shared) (σ : AH) (Q : Fl → Loc → AH → Prop) (f : Flow) (s' : Shared) : Prop
  | mk (f' : Fl) (ℓ' : Loc) (σ' : AH) (h0 : FRel g s'.heap f' f) (h1 : LR g s'.heap σ' env ℓ') (h2 : Rel g s'.heap σ') (h3 : Ext (Own env) s.heap σ s'.heap σ') (h4 : Same s s') (h5 : Q f' ℓ' σ') : PostS g env s σ Q f s'
inductive PostXB (g : Gr) (nt : Bool) (A : Around) (env : Env) (s : Shared) (σ : AH) (E : Addr → Loc → AH → Prop) (e : Value) (s' : Shared) : Prop
  | mk (C : Addr) (ℓ' : Loc) (σ' : AH) (h1 : XAt g nt s.heap s'.heap e C σ') (h2 : LR g s'.heap σ' env ℓ') (h3 : Rel g s'.heap σ') (h4 : Ext (Own env) s.heap σ s'.heap σ') (h5 : Same s s') (h6 : E C ℓ' σ') : PostXB g nt A env s σ E e s'
noncomputable abbrev PostXS (g : Gr) := PostXB g false
section
variable (g : Gr) (sc : Scope) (r : Nat) (c : Bool)
structure SndS (st : Stmt) (t : TS) : Prop where
  run : ∀ A env s ℓ σ Q E, Cx g sc r c A env s.heap σ ℓ → t ℓ σ Q E → wpAny (model g.prog g.w) A (exec st env) (PostS g env s σ Q) (PostXS g A env s σ E) s
structure SndSs (st : List Stmt) (t : TS) : Prop where
  run : ∀ A env s ℓ σ Q E, Cx g sc r c A env s.heap σ ℓ → t ℓ σ Q E → wpAny (model g.prog g.w) A (execs st env) (PostS g env s σ Q) (PostXS g A env s σ E) s
end
section
variable {A : Around} {env : Env} {s s₁ : Shared} {σ σ₁ : AH} {ℓ ℓ₁ : Loc}
theorem LR.noSeq {h : Heap} (L : LR g h σ env ℓ) : NoSeq (Own env) h := by
  rintro a o (rfl | ⟨x, e⟩) ho vs n hd
  · obtain ⟨m, ⟨o', es, ep, ho', hd', _⟩, _⟩ := L.ns
    rw [ho] at ho'; cases ho'; rw [hd] at hd'; cases hd'
  · obtain ⟨o', u, ho', hd'⟩ := L.cell x a e
    rw [ho] at ho'; cases ho'; rw [hd] at hd'; cases hd'
theorem LR.noFields {h : Heap} (L : LR g h σ env ℓ) {a : Addr} (w : Own env a) : ∃ o, h.get? a = some o ∧ ∀ vs, o.data ≠ .fields vs := by
  rcases w with rfl | ⟨x, e⟩
  · obtain ⟨m, ⟨o', es, ep, ho', hd', _⟩, _⟩ := L.ns
    exact ⟨o', ho', fun vs q => by rw [q] at hd'; cases hd'⟩
  · obtain ⟨o', u, ho', hd'⟩ := L.cell x a e
    exact ⟨o', ho', fun vs q => by rw [q] at hd'; cases hd'⟩
/-- tables stay tables -/
theorem LR.dicts {h h' : Heap} (L : LR g h σ env ℓ) (L' : LR g h' σ₁ env ℓ₁) (a : Addr) (o : Obj) (es : Array DictEntry) (n : Nat) (w : Own env a) (ho : h.get? a = some o) (hd : o.data = .dict es n) : ∃ o' es' n', h'.get? a = some o' ∧ o'.data = .dict es' n' := by
  rcases w with rfl | ⟨x, e⟩
  · obtain ⟨m, ⟨o', es', ep, ho', hd', _⟩, _⟩ := L'.ns
    exact ⟨o', es', ep, ho', hd'⟩
  · obtain ⟨o', u, ho', hd'⟩ := L.cell x a e
    rw [ho] at ho'; cases ho'; rw [hd] at hd'; cases hd'
/-- the block goes on behind a statement -/
theorem Cx.stepS (X : Cx g sc r c A env s.heap σ ℓ) (L : LR g s₁.heap σ₁ env ℓ₁) (R : Rel g s₁.heap σ₁) (x : Ext (Own env) s.heap σ s₁.heap σ₁) : Cx g sc r c A env s₁.heap σ₁ ℓ₁ :=
  ⟨X.gok, X.ok, L, X.fr.step x (X.loc.dicts L), X.room, R⟩
theorem PostS.back {Q : Fl → Loc → AH → Prop} (x : Ext (Own env) s.heap σ s₁.heap σ₁) (y : Same s s₁) {f : Flow} {s' : Shared} (p : PostS g env s₁ σ₁ Q f s') : PostS g env s σ Q f s' :=
  let ⟨a, b, d, h1, h2, h3, h4, h5, h6⟩ := p; ⟨a, b, d, h1, h2, h3, x.trans h4, y.trans h5, h6⟩
theorem PostXS.back {E : Addr → Loc → AH → Prop} (x : Ext (Own env) s.heap σ s₁.heap σ₁) (y : Same s s₁) {f : Value} {s' : Shared} (p : PostXS g A env s₁ σ₁ E f s') : PostXS g A env s σ E f s' :=
  let ⟨a, b, d, h1, h2, h3, h4, h5, h6⟩ := p; ⟨a, b, d, h1.back x.pres, h2, h3, x.trans h4, y.trans h5, h6⟩
theorem ws_back {M : Model} {t : Sem Flow} {Q : Fl → Loc → AH → Prop} {E : Addr → Loc → AH → Prop} (x : Ext (Own env) s.heap σ s₁.heap σ₁) (y : Same s s₁) (h : wpAny M A t (PostS g env s₁ σ₁ Q) (PostXS g A env s₁ σ₁ E) s₁) : wpAny M A t (PostS g env s σ Q) (PostXS g A env s σ E) s₁ :=
  wpAny_mono h (fun _ _ p => p.back x y) fun _ _ p => p.back x y
theorem Ext.own {h h' : Heap} (x : Ext No h σ h' σ₁) : Ext (Own env) h σ h' σ₁ := x.weaken fun _ n => n.elim
/-- an exception of an expression is one of the statement -/
theorem PostX.toS {E : Addr → Loc → AH → Prop} (X : Cx g sc r c A env s.heap σ ℓ) {e : Value} {s' : Shared} (p : PostX g A s σ (fun C σ' => E C ℓ σ') e s') : PostXS g A env s σ E e s' :=
  let ⟨C, σ', h1, h2, h3, h4, h5⟩ := p; ⟨C, ℓ, σ', h1, X.loc.step X.rel h3, h2, h3.own, h4, h5⟩
/-- a name is bound -/
theorem store_ok {n : String} {k : NameKind} {x : V} {u : Value} {P : Unit → Shared → Prop} {E : Value → Shared → Prop} (X : Cx g sc r c A env s.heap σ ℓ) (hm : (Str.ofString n, k) ∈ sc.names) (hk : (k == .local || k == .cell) = true) (hv : VR g s.heap x u)
    (h : ∀ s' a, (k = .local → a = env.locals) → (k = .cell → env.cells.lookup (Str.ofString n) = some a) → Own env a → LR g s'.heap σ env (ℓ.set n x) → Rel g s'.heap σ → Ext (· = a) s.heap σ s'.heap σ → Same s s' → P () s') : wpAny (model g.prog g.w) A (storeName env (Str.ofString n) u) P E s := by
  have hcls : (env.scope.kind == .class || (env.scope.kind == .module && env.locals != env.globals)) = false := by rw [X.ok.kind]; rfl
  have kd : env.kindOf (Str.ofString n) = some k := by
    rcases X.ok.kinds _ _ hm with q | ⟨q, _⟩
    · exact q
    · subst q; cases hk
  have relOf : ∀ (a : Addr) (h' : Heap), Own env a → Heap.SameBut a s.heap h' → (∃ o, h'.get? a = some o) → Rel g h' σ := fun a h' w hs hp => by
    have hoff : σ a = none ∧ g.b0.get? a = none := by
      rcases w with rfl | ⟨y, e⟩
      · exact X.loc.off
      · exact ⟨(X.loc.offc y a e).1, (X.loc.offc y a e).2.2⟩
    have hne : ∀ b, b = a → σ b = none := fun b q => by rw [q]; exact hoff.1
    refine ⟨fun b hb => ?_, fun b o q => (hs.2 b fun z => ?_).trans (X.rel.base b o q), fun b bo q => ⟨(X.rel.own b bo q).1, OR_mono (fun d o vs m _ y t dd => .of ((hs.2 d fun z => ?_).trans y)) (fun o y => (hs.2 b fun z => ?_).trans y) (X.rel.own b bo q).2⟩⟩
    · by_cases z : b = a
      · rw [z]; exact hp
      · obtain ⟨o, q⟩ := X.rel.hid b hb; exact ⟨o, (hs.2 b z).trans q⟩
    · rw [z, hoff.2] at q; cases q
    · exact X.loc.noSeq d o (by rw [z]; exact w) y vs m dd
    · rw [z, hoff.1] at q; cases q
  have extOf : ∀ (a : Addr) (h' : Heap), Own env a → Heap.SameBut a s.heap h' → (∃ o, h'.get? a = some o) → Ext (· = a) s.heap σ h' σ := fun a h' w hs hp =>
    ⟨fun b o q _ nw => .of ((hs.2 b fun z => nw z).trans q), fun b o q => by
      by_cases z : b = a
      · rw [z]; exact hp
      · exact ⟨o, (hs.2 b z).trans q⟩, fun b q => .inl q⟩
  cases k with
  | «local» =>
    obtain ⟨m, hn, hmm⟩ := X.loc.ns
    refine wpAny_storeName_local kd hn (fun h' hn' hs' => ?_) hcls
    have w : Own env env.locals := .inl rfl
    have pr : ∃ o, h'.get? env.locals = some o := let ⟨o, _, _, e, _⟩ := hn'; ⟨o, e⟩
    have R' := relOf _ h' w hs' pr
    have x' := extOf _ h' w hs' pr
    have kv : ∀ {v : V} {u : Value}, VR g s.heap v u → VR g h' v u := x'.vr X.rel fun b o z => X.loc.noSeq b o (z ▸ w)
    refine h { s with heap := h', toks := s.toks + 1 } env.locals (fun _ => rfl) (fun z => nomatch z) w ⟨⟨_, hn', fun y v e kk => ?_⟩, fun y cc e => ?_, fun y v e kk => ?_, X.loc.off, X.loc.offc, X.loc.apart, X.loc.has⟩ R' x' ⟨rfl, rfl, rfl⟩
    · rw [Loc.set_at] at e
      split at e
      · rename_i z; subst z; cases e; exact ⟨u, by simp, kv hv⟩
      · rename_i z
        obtain ⟨u', e1, e2⟩ := hmm y v e kk
        exact ⟨u', by rw [if_neg fun q => z (ofString_inj q)]; exact e1, kv e2⟩
    · obtain ⟨o, u', ho, hd⟩ := X.loc.cell y cc e
      exact ⟨o, u', (hs'.2 cc (X.loc.offc y cc e).2.1).trans ho, hd⟩
    · rw [Loc.set_at] at e
      split at e
      · rename_i z; subst z; rw [kd] at kk; rcases kk with kk | kk <;> cases kk
      · obtain ⟨cc, u', e1, ho, hu⟩ := X.loc.cells y v e kk
        obtain ⟨o, e2, e3⟩ := ho
        exact ⟨cc, u', e1, ⟨o, (hs'.2 cc (X.loc.offc _ cc e1).2.1).trans e2, e3⟩, kv hu⟩
  | cell =>
    have : ∃ cc, env.cells.lookup (Str.ofString n) = some cc := X.loc.has _ (.inl kd)
    obtain ⟨cc, ec⟩ := this
    obtain ⟨o, v0, ho, hd⟩ := X.loc.cell _ cc ec
    refine wpAny_storeName_cell X.ok.kind kd ec ⟨o, ho, hd⟩ fun h' hc' hs' => ?_
    have w : Own env cc := .inr ⟨_, ec⟩
    have pr : ∃ o, h'.get? cc = some o := let ⟨o, e, _⟩ := hc'; ⟨o, e⟩
    have R' := relOf _ h' w hs' pr
    have x' := extOf _ h' w hs' pr
    have kv : ∀ {v : V} {u : Value}, VR g s.heap v u → VR g h' v u := x'.vr X.rel fun b o z => X.loc.noSeq b o (z ▸ w)
    have hnl : env.locals ≠ cc := fun q => (X.loc.offc _ cc ec).2.1 q.symm
    obtain ⟨m, hn, hmm⟩ := X.loc.ns
    refine h { s with heap := h' } cc (fun z => nomatch z) (fun _ => ec) w ⟨⟨m, hn.sameBut hs' hnl, fun y v e kk => ?_⟩, fun y cc' e => ?_, fun y v e kk => ?_, X.loc.off, X.loc.offc, X.loc.apart, X.loc.has⟩ R' x' ⟨rfl, rfl, rfl⟩
    · rw [Loc.set_at] at e
      split at e
      · rename_i z; subst z; rw [kd] at kk; cases kk
      · obtain ⟨u', e1, e2⟩ := hmm y v e kk
        exact ⟨u', e1, kv e2⟩
    · by_cases z : cc' = cc
      · obtain ⟨o', e1, e2⟩ := hc'; exact ⟨o', _, by rw [z]; exact e1, e2⟩
      · obtain ⟨o', u', ho', hd'⟩ := X.loc.cell y cc' e
        exact ⟨o', u', (hs'.2 cc' z).trans ho', hd'⟩
    · rw [Loc.set_at] at e
      split at e
      · rename_i z; subst z; cases e; exact ⟨cc, u, ec, hc', kv hv⟩
      · rename_i z
        obtain ⟨c2, u', e1, ho', hu⟩ := X.loc.cells y v e kk
        obtain ⟨o2, e2, e3⟩ := ho'
        have ne : c2 ≠ cc := fun q => z (ofString_inj (X.loc.apart _ _ cc (q ▸ e1) ec))
        exact ⟨c2, u', e1, ⟨o2, (hs'.2 c2 ne).trans e2, e3⟩, kv hu⟩
  | _ => cases hk
end
end
section
open PySem PyProof.Rows
variable {g : Gr} {sc : Scope} {r : Nat} {c : Bool}
/-- a step that touches the exception under way (and the frames' slots) alone -/
structure Touch (g : Gr) (h0 h h' : Heap) (σ : AH) : Prop where
  up : ∀ a o, h.get? a = some o → (h0.get? a ≠ none ∨ ∀ vs, o.data ≠ .fields vs) → UpTo h' a o
  pres : ∀ a o, h.get? a = some o → ∃ o', h'.get? a = some o'
  own : ∀ a o, h.get? a = some o → σ a ≠ none → h'.get? a = some o
  base : ∀ a o, g.b0.get? a = some o → h.get? a = some o → h'.get? a = some o
section
variable {h0 h h' h'' : Heap} {σ σ0 : AH} {env : Env} {ℓ : Loc} {A : Around}
theorem Touch.refl : Touch g h0 h h σ := ⟨fun _ _ e _ => .of e, fun _ o e => ⟨o, e⟩, fun _ _ e _ => e, fun _ _ _ e => e⟩
theorem Touch.trans (t : Touch g h0 h h' σ) (u : Touch g h0 h' h'' σ) : Touch g h0 h h'' σ := by
  refine ⟨fun a o e k => ?_, fun a o e => let ⟨o', e'⟩ := t.pres a o e; u.pres a o' e', fun a o e k => u.own a o (t.own a o e k) k, fun a o b e => u.base a o b (t.base a o b e)⟩
  obtain ⟨sl, e1⟩ := (t.up a o e k).sl
  refine (t.up a o e k).then fun o' e' => u.up a o' e' (k.imp id fun d vs q => ?_)
  rw [e1] at e'; cases e'; exact d vs q
theorem Touch.tups (t : Touch g h0 h h' σ) : TupsKept g h h' := fun a o vs n _ e _ d => t.up a o e (.inr fun us q => by rw [d] at q; cases q)
theorem Touch.rel (t : Touch g h0 h h' σ) (R : Rel g h σ) : Rel g h' σ :=
  ⟨fun a ha => let ⟨o, e⟩ := R.hid a ha; t.pres a o e, fun a o e => t.base a o e (R.base a o e), fun a ao e => ⟨(R.own a ao e).1, OR_mono t.tups (fun o e' => t.own a o e' (by rw [e]; simp)) (R.own a ao e).2⟩⟩
theorem Touch.ext (t : Touch g h0 h h' σ) {W : Addr → Prop} (x : Ext W h0 σ0 h σ) : Ext W h0 σ0 h' σ :=
  ⟨fun a o e n w => (x.keep a o e n w).then fun o' e' => t.up a o' e' (.inl (by rw [e]; simp)), fun a o e => let ⟨o', e'⟩ := x.pres a o e; t.pres a o' e', x.dom⟩
theorem Touch.ns (t : Touch g h0 h h' σ) {a : Addr} {m : Str → Option Value} (n : h.Ns a m) : h'.Ns a m := ns_upTo n fun o e => t.up _ o e (.inr fun vs q => by
  obtain ⟨o', es, ep, e', d', _⟩ := n; rw [e] at e'; cases e'; rw [q] at d'; cases d')
theorem Touch.loc (t : Touch g h0 h h' σ) (L : LR g h σ env ℓ) : LR g h' σ env ℓ := by
  have kv : ∀ {v : V} {u : Value}, VR g h v u → VR g h' v u := VR.mono t.tups
  obtain ⟨m, hn, hm⟩ := L.ns
  have hc : ∀ x c o, env.cells.lookup x = some c → h.get? c = some o → UpTo h' c o := fun x c o e eo => t.up c o eo (.inr fun vs q => by
    obtain ⟨o', u, e', d'⟩ := L.cell x c e; rw [eo] at e'; cases e'; rw [q] at d'; cases d')
  refine ⟨⟨m, t.ns hn, fun y v a b => let ⟨u, e, f⟩ := hm y v a b; ⟨u, e, kv f⟩⟩, fun y c e => ?_, fun y v a k => ?_, L.off, L.offc, L.apart, L.has⟩
  · obtain ⟨o, u, ho, hd⟩ := L.cell y c e
    obtain ⟨sl, ho'⟩ := (hc y c o e ho).sl
    exact ⟨_, u, ho', hd⟩
  · obtain ⟨c, u, e, ho, hv⟩ := L.cells y v a k
    exact ⟨c, u, e, cell_upTo ho fun o z => hc _ c o e z, kv hv⟩
theorem Touch.fr (t : Touch g h0 h h' σ) (F : FrOk g A env h σ) : FrOk g A env h' σ := by
  obtain ⟨e0, outer, hA, hf, ff, off, rest⟩ := F
  obtain ⟨k1, k2⟩ := frames_step (W := No) (h' := h') (σ' := σ) (fun a o es n e d q => by
    obtain ⟨sl, e1⟩ := (t.up a o e (.inr fun vs z => by rw [d] at z; cases z)).sl
    exact ⟨q, _, es, n, e1, d⟩) _ ff off
  exact ⟨e0, outer, hA, hf, k1, k2, rest⟩
end
theorem dict_map (f : Array Value → Array Value) (o : Obj) : (Obj.mapFields f o).dict = o.dict := by
  obtain ⟨c, d, dt, sl⟩ := o; cases dt <;> rfl
section
variable {M : Model} {A : Around} {env : Env} {s : Shared} {σ : AH} {h0 : Heap} {e : Value} {C : Addr} {Q : Unit → Shared → Prop} {E : Value → Shared → Prop}
/-- a field of the traceback is set -/
theorem tb_set {a T : Addr} {o oT : Obj} {vs ts : Array Value} (x0 : h0.get? a = none) (xb : g.b0.get? a = none) (xs : σ a = none) (xo : s.heap.get? a = some o) (xc : o.cls = .ref C) (xn : o.dict = none) (xd : o.data = .fields vs) (xz : 1 < vs.size)
    (et : vs[1]? = some (.ref T)) (ne : T ≠ a) (t0 : h0.get? T = none) (tb : g.b0.get? T = none) (ts0 : σ T = none) (ho : s.heap.get? T = some oT) (hd : oT.data = .fields ts) (hs : 3 < ts.size) {v : Value}
    (k : ∀ s', Touch g h0 s.heap s'.heap σ → XAt g true h0 s'.heap (.ref a) C σ → Same s s' → Q () s') : wpAny M A (setField (.ref T) 3 v) Q E s := by
  have other : ∀ b, b ≠ T → (s.heap.update T (Obj.mapFields (·.setIfInBounds 3 v))).get? b = s.heap.get? b := fun b hb => Heap.get?_update_other _ _ (Ne.symm hb)
  have hd' := Obj.data_mapFields hd (·.setIfInBounds 3 v)
  have self := Heap.get?_update_self (Obj.mapFields (·.setIfInBounds 3 v)) ho (Obj.isFreed_of_fields hd')
  refine wpAny_setField ho hd hs (k _ ⟨fun b o' e k => ?_, fun b o' e => ?_, fun b o' e k => ?_, fun b o' b0 e => ?_⟩ ?_ ⟨rfl, rfl, rfl⟩)
  · refine .of ((other b fun z => ?_).trans e)
    subst z
    rcases k with k | k
    · exact k t0
    · rw [ho] at e; cases e; exact k _ hd
  · by_cases z : b = T
    · subst z; exact ⟨_, self⟩
    · exact ⟨o', (other b z).trans e⟩
  · exact (other b fun z => k (z ▸ ts0)).trans e
  · exact (other b fun z => by rw [z, tb] at b0; cases b0).trans e
  · exact ⟨a, o, vs, rfl, x0, xb, xs, (other a (Ne.symm ne)).trans xo, xc, xn, xd, xz, .inr ⟨T, _, _, et, ne, t0, tb, ts0, self, hd', by simpa using hs⟩⟩
theorem flight_ok {fr : Option Addr} (x : XAt g true h0 s.heap e C σ) (k : ∀ s', Touch g h0 s.heap s'.heap σ → XAt g true h0 s'.heap e C σ → Same s s' → Q () s') : wpAny M A (setFlight e fr) Q E s := by
  obtain ⟨a, o, vs, rfl, x0, xb, xs, xo, xc, xn, xd, xz, xt⟩ := x
  rcases xt with ⟨z, _⟩ | ⟨T, oT, ts, et, ne, t0, tb, ts0, ho, hd, hs⟩
  · cases z
  unfold setFlight
  refine wpAny_bind (wpAny_field xo xd et ?_)
  rw [if_pos (show (Value.ref T != Value.none) = true from by simp)]
  exact tb_set x0 xb xs xo xc xn xd xz et ne t0 tb ts0 ho hd hs k
theorem came_ok {P : Value → Shared → Prop} (x : XAt g true h0 s.heap e C σ) (k : ∀ s', Touch g h0 s.heap s'.heap σ → XAt g true h0 s'.heap e C σ → Same s s' → P e s') : cameBackBy M A env P e s := by
  have y := x
  obtain ⟨a, o, vs, rfl, x0, xb, xs, xo, xc, xn, xd, xz, xt⟩ := x
  rcases xt with ⟨z, _⟩ | ⟨T, oT, ts, et, ne, t0, tb, ts0, ho, hd, hs⟩
  · cases z
  show wpAny M A (field (.ref a) 1 >>= _) _ _ _
  refine wpAny_bind (wpAny_field xo xd et ?_)
  rw [if_neg (by simp)]
  exact flight_ok y fun s' t x hs => k s' t x hs
theorem pass_ok {α : Type} {what : String} {cenv : Env} {Q : α → Shared → Prop} (x : XAt g true h0 s.heap e C σ) (k : ∀ s', Touch g h0 s.heap s'.heap σ → XAt g true h0 s'.heap e C σ → Same s s' → E e s') : wpAny M A (PySem.passOn what e cenv : Sem α) Q E s := by
  have y := x
  obtain ⟨a, o, vs, rfl, x0, xb, xs, xo, xc, xn, xd, xz, xt⟩ := x
  rcases xt with ⟨z, _⟩ | ⟨T, oT, ts, et, ne, t0, tb, ts0, ho, hd, hs⟩
  · cases z
  unfold PySem.passOn
  refine wpAny_bind (wpAny_field xo xd et ?_)
  rw [if_neg (by simp)]
  exact wpAny_bind (flight_ok y fun s' t x hs => wpAny_throw (k s' t x hs))
/-- an entry for the frame is laid -/
theorem entry_ok {nt : Bool} {L a : Addr} {head : Value} {had : Bool} (F : FrOk g A env s.heap σ) (hL : env.frame = some L) (R : Rel g s.heap σ) (hp : ∀ b o, h0.get? b = some o → ∃ o', s.heap.get? b = some o') (x : XAt g nt h0 s.heap (.ref a) C σ)
    (k : ∀ s', Touch g h0 s.heap s'.heap σ → XAt g true h0 s'.heap (.ref a) C σ → Same s s' → Q () s') :
    wpAny M A (do let fr ← PySem.frameOf env; let pl ← entryPlaceOf L had; let b ← EntryCells.newEntry head fr .none (rawInt L) .none pl; setField (.ref a) 1 b) Q E s := by
  obtain ⟨e0, outer, hA, hf0, ff, off, _⟩ := F
  obtain ⟨a', o, vs, ea, x0, xb, xs, xo, xc, xn, xd, xz, xt⟩ := x
  cases ea
  have hfL : e0.frame = some L := hf0.trans hL
  have hfo : PySem.frameOf env = PySem.frameOf e0 := by unfold PySem.frameOf; rw [hf0]
  have hS : ∀ b, b ∈ (e0 :: outer).filterMap (·.frame) → OffFr s.heap σ b := fun b hb => let ⟨e, he, hf⟩ := List.mem_filterMap.mp hb; off e he b hf
  have aS : a ∉ (e0 :: outer).filterMap (·.frame) := fun hb => by
    obtain ⟨_, o', es, n, e', d'⟩ := hS a hb
    rw [xo] at e'; cases e'; rw [xd] at d'; cases d'
  rw [hfo]
  refine wpAny_bind (wpAny_frameOf_fun hA ff hfL fun h₁ hs₁ => ?_)
  refine wpAny_bind (wpAny_entryPlaceOf fun pl hpl => ?_)
  unfold EntryCells.newEntry newFields
  refine wpAny_bind (wpAny_newObj_type ?_ (hpl.sizeOk5 _ _ _ _ _))
  have ha₁ : h₁.get? a = some o := (hs₁.2.1 a aS).trans xo
  dsimp only
  generalize hts : ([head, Value.ref L, .none, rawInt L, .none] ++ (if pl.isEmpty then List.replicate 6 Value.none else pl)).toArray = ts
  have htz : 3 < ts.size := by rw [← hts]; simp only [List.size_toArray, List.length_append, List.length_cons, List.length_nil]; omega
  have ha₂ := Heap.get?_push_of_some (h := h₁) { cls := .type "traceback", dict := none, data := .fields ts } ha₁
  refine wpAny_setField ha₂ xd xz ?_
  have hTa : h₁.objs.size ≠ a := Nat.ne_of_gt (Heap.lt_size ha₁)
  have hd₃ := Obj.data_mapFields xd (·.setIfInBounds 1 (Value.ref h₁.objs.size))
  have self := Heap.get?_update_self (Obj.mapFields (·.setIfInBounds 1 (Value.ref h₁.objs.size))) ha₂ (Obj.isFreed_of_fields hd₃)
  have keep : ∀ b o', b ≠ a → h₁.get? b = some o' → ((h₁.push { cls := .type "traceback", dict := none, data := .fields ts }).update a (Obj.mapFields (·.setIfInBounds 1 (Value.ref h₁.objs.size)))).get? b = some o' := fun b o' hb e => by
    rw [Heap.get?_update_other _ _ (Ne.symm hb)]; exact Heap.get?_push_of_some _ e
  have fresh : s.heap.get? h₁.objs.size = none := Heap.get?_none_of_le (by rw [hs₁.1]; exact Nat.le_refl _)
  have fb : g.b0.get? h₁.objs.size = none := by
    cases q : g.b0.get? h₁.objs.size with
    | none => rfl
    | some o => rw [R.base _ o q] at fresh; cases fresh
  have f0 : h0.get? h₁.objs.size = none := by
    cases q : h0.get? h₁.objs.size with
    | none => rfl
    | some o => obtain ⟨o', z⟩ := hp _ o q; rw [fresh] at z; cases z
  refine k _ ⟨fun b o' e kk => ?_, fun b o' e => ?_, fun b o' e kk => ?_, fun b o' b0 e => ?_⟩ ?_ ⟨rfl, rfl, rfl⟩
  · have hb : b ≠ a := fun z => by
      subst z
      rcases kk with kk | kk
      · exact kk x0
      · rw [xo] at e; cases e; exact kk _ xd
    by_cases z : b ∈ (e0 :: outer).filterMap (·.frame)
    · obtain ⟨_, o2, es, n, e2, d2⟩ := hS b z
      rw [e] at e2; cases e2
      obtain ⟨sl, e3⟩ := hs₁.2.2 b o' e
      exact .inr ⟨es, n, sl, d2, keep b _ hb e3⟩
    · exact .of (keep b o' hb ((hs₁.2.1 b z).trans e))
  · by_cases z : b = a
    · subst z; exact ⟨_, self⟩
    · obtain ⟨sl, e3⟩ := hs₁.2.2 b o' e
      exact ⟨_, keep b _ z e3⟩
  · exact keep b o' (fun z => kk (z ▸ xs)) ((hs₁.2.1 b fun z => kk (hS b z).1).trans e)
  · refine keep b o' (fun z => by rw [z, xb] at b0; cases b0) ((hs₁.2.1 b fun z => ?_).trans e)
    rw [(ff.mem z).1] at b0; cases b0
  · refine ⟨a, _, _, rfl, x0, xb, xs, self, (Obj.cls_mapFields _ _).trans xc, (dict_map _ _).trans xn, hd₃, by simpa using xz, .inr ⟨h₁.objs.size, { cls := .type "traceback", dict := none, data := .fields ts }, ts, by simp [xz], hTa, f0, fb, R.fresh fresh, ?_, rfl, htz⟩⟩
    rw [Heap.get?_update_other _ _ (Ne.symm hTa)]
    exact Heap.get?_push_size h₁ rfl
/-- an exception is noted at the frame -/
theorem note_ok {nt : Bool} (F : FrOk g A env s.heap σ) (R : Rel g s.heap σ) (hp : ∀ b o, h0.get? b = some o → ∃ o', s.heap.get? b = some o') (x : XAt g nt h0 s.heap e C σ)
    (k : ∀ s', Touch g h0 s.heap s'.heap σ → XAt g true h0 s'.heap e C σ → Same s s' → Q () s') : wpAny M A (noteFrame e env) Q E s := by
  have hL : ∃ L, env.frame = some L := by
    obtain ⟨e0, outer, hA, hf0, ⟨_, ⟨L, _, hfL, _⟩, _⟩, _⟩ := F
    exact ⟨L, hf0 ▸ hfL⟩
  obtain ⟨L, hL⟩ := hL
  have y := x
  obtain ⟨a, o, vs, rfl, x0, xb, xs, xo, xc, xn, xd, xz, xt⟩ := x
  unfold noteFrame
  simp only [hL]
  rcases xt with ⟨_, h1⟩ | ⟨T, oT, ts, et, ne, t0, tb, ts0, ho, hd, hs⟩
  · refine wpAny_bind (wpAny_field xo xd h1 ?_)
    rw [if_neg (by decide)]
    exact entry_ok F hL R hp y k
  · refine wpAny_bind (wpAny_field xo xd et ?_)
    rw [if_pos (show (Value.ref T != Value.none) = true from by simp)]
    refine wpAny_bind (wpAny_field ho hd (Array.getElem?_eq_getElem hs) ?_)
    by_cases hv : (ts[3] == rawInt L) = true
    · rw [if_pos hv]
      exact wpAny_pure (k _ .refl ⟨a, o, vs, rfl, x0, xb, xs, xo, xc, xn, xd, xz, .inr ⟨T, oT, ts, et, ne, t0, tb, ts0, ho, hd, hs⟩⟩ .refl)
    · rw [if_neg hv]
      refine wpAny_bind (tb_set x0 xb xs xo xc xn xd xz et ne t0 tb ts0 ho hd hs fun s' t x hs' => ?_)
      exact entry_ok (t.fr F) hL (t.rel R) (fun b o e => let ⟨o', e'⟩ := hp b o e; t.pres b o' e') x fun s'' t' x' hs'' => k s'' (t.trans t') x' (hs'.trans hs'')
end
end
section
open PySem PyProof.Rows
variable {g : Gr} {sc : Scope} {r : Nat} {c : Bool}
section
variable {A : Around} {env : Env} {s s₁ : Shared} {σ σ₁ : AH} {ℓ ℓ₁ : Loc} {Q : Fl → Loc → AH → Prop} {E : Addr → Loc → AH → Prop}
/-- an exception goes on: it is noted at the frame -/
theorem PostXB.noted {e : Value} {s' : Shared} (X : Cx g sc r c A env s.heap σ ℓ) (p : PostXS g A env s σ E e s') {P : Value → Shared → Prop} (k : ∀ e s', PostXB g true A env s σ E e s' → P e s') : notedBy (model g.prog g.w) A env P e s' :=
  let ⟨C, ℓ', σ', h1, h2, h3, h4, h5, h6⟩ := p
  note_ok (X.fr.step h4 (X.loc.dicts h2)) h3 h4.pres h1 fun s'' t x hs => k _ _ ⟨C, ℓ', σ', x, t.loc h2, t.rel h3, t.ext h4, h5.trans hs, h6⟩
theorem PostXB.came {e : Value} {s' : Shared} (p : PostXB g true A env s σ E e s') {P : Value → Shared → Prop} (k : ∀ e s', PostXS g A env s σ E e s' → P e s') : cameBackBy (model g.prog g.w) A env P e s' :=
  let ⟨C, ℓ', σ', h1, h2, h3, h4, h5, h6⟩ := p
  came_ok h1 fun s'' t x hs => k _ _ ⟨C, ℓ', σ', x.weak, t.loc h2, t.rel h3, t.ext h4, h5.trans hs, h6⟩
/-- nothing is done -/
theorem PostS.here {f : Fl} {u : Flow} (X : Cx g sc r c A env s.heap σ ℓ) (hf : FRel g s.heap f u) (h : Q f ℓ σ) : PostS g env s σ Q u s := ⟨f, ℓ, σ, hf, X.loc, X.rel, .refl, .refl, h⟩
end
/-! ## blocks -/
noncomputable def tNop : TS := fun ℓ σ Q _ => Q .next ℓ σ
noncomputable def tSeq (t ts : TS) : TS := fun ℓ σ Q E => t ℓ σ (fun f ℓ' σ' => match f with | .next => ts ℓ' σ' Q E | f => Q f ℓ' σ') E
theorem sndSs_nil : SndSs g sc r c [] tNop := .mk fun A env s ℓ σ Q E X h => wpAny_execs_nil (.here (f := .next) X rfl h)
theorem sndSs_cons {st : Stmt} {rest : List Stmt} {t ts : TS} (h1 : SndS g sc r c st t) (h2 : SndSs g sc r c rest ts) : SndSs g sc r c (st :: rest) (tSeq t ts) := .mk fun A env s ℓ σ Q E X h => by
  refine wpAny_execs_cons (wpAny_mono (h1.run A env s ℓ σ _ E X h) (fun f s₁ p => ?_) fun _ _ p => p)
  obtain ⟨f', ℓ', σ', hf, hL, hR, hx, hs, hq⟩ := p
  cases f' with
  | next => cases hf; exact ws_back hx hs (h2.run A env s₁ ℓ' σ' Q E (X.stepS hL hR hx) hq)
  | brk => cases hf; exact ⟨.brk, ℓ', σ', rfl, hL, hR, hx, hs, hq⟩
  | cont => cases hf; exact ⟨.cont, ℓ', σ', rfl, hL, hR, hx, hs, hq⟩
  | ret v => obtain ⟨u, rfl, hv⟩ := hf; exact ⟨.ret v, ℓ', σ', ⟨u, rfl, hv⟩, hL, hR, hx, hs, hq⟩
noncomputable def tRet (t : TE) : TS := fun ℓ σ Q E => t ℓ σ (fun v σ' => Q (.ret v) ℓ σ') fun C σ' => E C ℓ σ'
theorem sndS_return {e : Expr} {t : TE} {pos : Pos} (h1 : SndE g sc r c e t) : SndS g sc r c (.Return (some e) pos) (tRet t) := .mk fun A env s ℓ σ Q E X h => by
  refine wpAny_Return_some (wpAny_mono (h1.run A env s ℓ σ _ _ X h) (fun v s₁ p => ?_) fun _ _ p => p.toS X)
  refine Post.elim p fun x σ₁ hv hR hx hs hq => ?_
  exact ⟨.ret x, ℓ, σ₁, ⟨v, rfl, hv⟩, X.loc.step X.rel hx, hR, hx.own, hs, hq⟩
noncomputable def tDo (t : TE) : TS := fun ℓ σ Q E => t ℓ σ (fun _ σ' => Q .next ℓ σ') fun C σ' => E C ℓ σ'
theorem EnvOk.notInteractive {env : Env} (k : EnvOk sc env) : interactive env = false := by
  unfold interactive; simp [k.kind]
theorem sndS_expr {e : Expr} {t : TE} {pos : Pos} (h1 : SndE g sc r c e t) (hs : ∀ env, swapsWith e none pos.line env = pure false) : SndS g sc r c (.Expr e pos) (tDo t) := .mk fun A env s ℓ σ Q E X h => by
  refine wpAny_Expr_any (wpAny_mono (h1.run A env s ℓ σ _ _ X h) (fun v s₁ p => ?_) fun _ _ p => p.toS X) X.ok.notInteractive (hs env)
  refine Post.elim p fun x σ₁ hv hR hx hs hq => ?_
  exact ⟨.next, ℓ, σ₁, rfl, X.loc.step X.rel hx, hR, hx.own, hs, hq⟩
noncomputable def tIfS (t : TB) (a b : TS) : TS := fun ℓ σ Q E => t ℓ σ (fun x σ' => match x with | true => a ℓ σ' Q E | false => b ℓ σ' Q E) fun C σ' => E C ℓ σ'
theorem sndS_if {e : Expr} {t : TB} {body orelse : List Stmt} {a b : TS} {pos : Pos} (h1 : SndB g sc r c e t) (h2 : SndSs g sc r c body a) (h3 : SndSs g sc r c orelse b) : SndS g sc r c (.If e body orelse pos) (tIfS t a b) := .mk fun A env s ℓ σ Q E X h => by
  refine wpAny_If (wpAny_mono (h1.run A env s ℓ σ _ _ X h) (fun v s₁ p => ?_) fun _ _ p => p.toS X)
  obtain ⟨x, σ₁, rfl, hR, hx, hs, hq⟩ := p
  cases x with
  | true => exact ws_back hx.own hs (h2.run A env s₁ ℓ σ₁ Q E (X.step hR hx) hq)
  | false => exact ws_back hx.own hs (h3.run A env s₁ ℓ σ₁ Q E (X.step hR hx) hq)
/-! ## binding -/
noncomputable def tAssign (n : String) (t : TE) : TS := fun ℓ σ Q E => t ℓ σ (fun v σ' => Q .next (ℓ.set n v) σ') fun C σ' => E C ℓ σ'
theorem sndS_assign {n : String} {k : NameKind} {p' pos : Pos} {e : Expr} {t : TE} (hm : (Str.ofString n, k) ∈ sc.names) (hk : (k == .local || k == .cell) = true) (h1 : SndE g sc r c e t)
    (hs : ∀ env, swapsWith e (some (.Name (Str.ofString n) p')) pos.line env = pure false) : SndS g sc r c (.Assign [.Name (Str.ofString n) p'] e pos) (tAssign n t) := .mk fun A env s ℓ σ Q E X h => by
  refine wpAny_Assign_Name (wpAny_mono (h1.run A env s ℓ σ _ _ X h) (fun v s₁ p => ?_) fun _ _ p => p.toS X) (hs env)
  refine Post.elim p fun x σ₁ hv hR hx hs hq => ?_
  exact store_ok (X.step hR hx) hm hk hv fun s' a _ _ w hL hR' hx' hs' => ⟨.next, _, σ₁, rfl, hL, hR', hx.own.trans (hx'.weaken fun b z => z ▸ w), hs.trans hs', hq⟩
/-! ## targets -/
inductive Tgt where
  | name (n : String)
  | tup (ns : List String)
noncomputable def Loc.setAll (ℓ : Loc) : List String → List V → Loc
  | n :: ns, v :: vs => (ℓ.set n v).setAll ns vs
  | _, _ => ℓ
/-- what a target takes apart -/
noncomputable def partsV (v : V) (σ : AH) : Option (List V) := match v with
  | .tup vs => some vs
  | .frz vs => some vs
  | .ref a => match σ a with | some (.list vs) => some vs | _ => none
  | _ => none
noncomputable def bindV (t : Tgt) (v : V) (ℓ : Loc) (σ : AH) (P : Loc → Prop) : Prop := match t with
  | .name n => P (ℓ.set n v)
  | .tup ns => match partsV v σ with | some vs => vs.length = ns.length ∧ P (ℓ.setAll ns vs) | none => False
/-- the names of a tuple target -/
inductive NamesAre (sc : Scope) : List Expr → List String → Prop
  | nil : NamesAre sc [] []
  | cons {n : String} {k : NameKind} {pos : Pos} {es : List Expr} {ns : List String} (hm : (Str.ofString n, k) ∈ sc.names) (hk : (k == .local || k == .cell) = true) (h : NamesAre sc es ns) : NamesAre sc (.Name (Str.ofString n) pos :: es) (n :: ns)
/-- the target's form in the program -/
inductive TgtIs (sc : Scope) : Expr → Tgt → Prop
  | name {n : String} {k : NameKind} {pos : Pos} (hm : (Str.ofString n, k) ∈ sc.names) (hk : (k == .local || k == .cell) = true) : TgtIs sc (.Name (Str.ofString n) pos) (.name n)
  | tup {es : List Expr} {ns : List String} {k : Nat} {pos : Pos} (h : NamesAre sc es ns) : TgtIs sc (.Tuple es k pos) (.tup ns)
section
variable {A : Around} {env : Env} {s : Shared} {σ : AH} {ℓ : Loc} {E : Value → Shared → Prop}
/-- names were bound -/
inductive Bound (g : Gr) (W : Addr → Prop) (env : Env) (s : Shared) (σ : AH) (P : Loc → Prop) (s' : Shared) : Prop
  | mk (ℓ' : Loc) (h1 : LR g s'.heap σ env ℓ') (h2 : Rel g s'.heap σ) (h3 : Ext W s.heap σ s'.heap σ) (h4 : Same s s') (h5 : P ℓ') : Bound g W env s σ P s'
/-- where the names of a scope are kept -/
noncomputable def Writes (W : Addr → Prop) (sc : Scope) (env : Env) : Prop := (∀ a, W a → Own env a) ∧ ∀ n k a, (Str.ofString n, k) ∈ sc.names → (k = .local → a = env.locals) → (k = .cell → env.cells.lookup (Str.ofString n) = some a) → (k == .local || k == .cell) = true → W a
theorem writes_own {env : Env} : Writes (Own env) sc env := ⟨fun _ w => w, fun n k a hm h1 h2 hk => by
  cases k <;> first | exact .inl (h1 rfl) | exact .inr ⟨_, h2 rfl⟩ | cases hk⟩
theorem NamesAre.length {es : List Expr} {ns : List String} (h : NamesAre sc es ns) (env : Env) : (assignEach es env).length = ns.length := by
  induction h with
  | nil => rfl
  | cons hm hk h ih => show (_ :: assignEach _ env).length = _; simp [ih]
theorem NamesAre.noStar {es : List Expr} {ns : List String} (h : NamesAre sc es ns) (env : Env) : (assignEach es env).findIdx? (·.1) = none := by
  induction h with
  | nil => rfl
  | @cons n k pos es ns hm hk h ih => show ((false, assign (.Name (Str.ofString n) pos) env) :: assignEach es env).findIdx? (·.1) = none; simp [List.findIdx?_cons, ih]
theorem inOrder_ok {W : Addr → Prop} (hW : Writes W sc env) {P : Loc → Prop} {es : List Expr} {ns : List String} (hn : NamesAre sc es ns) : ∀ {s : Shared} {ℓ : Loc} {xs : List V} {us : List Value}, Cx g sc r c A env s.heap σ ℓ → VRs g s.heap xs us → xs.length = ns.length → P (ℓ.setAll ns xs) →
    wpAny (model g.prog g.w) A (assignInOrder ((assignEach es env).map (·.2)) us) (fun _ s' => Bound g W env s σ P s') E s := by
  induction hn with
  | nil =>
    intro s ℓ xs us X hv hl h
    have : xs = [] := List.length_eq_zero_iff.mp hl
    subst this
    rw [VRs_nil_inv hv]
    exact wpAny_pure ⟨ℓ, X.loc, X.rel, .refl, .refl, h⟩
  | @cons n k pos es ns hm hk hn ih =>
    intro s ℓ xs us X hv hl h
    cases xs with
    | nil => simp at hl
    | cons x xs =>
      obtain ⟨u, us, rfl, hx, hxs⟩ := VRs_cons_inv hv
      show wpAny _ A (do holding us (assign (.Name (Str.ofString n) pos) env u); assignInOrder ((assignEach es env).map (·.2)) us) _ E s
      refine wpAny_bind (wpAny_holding (wpAny_assign_Name (store_ok X hm hk hx fun s' a q1 q2 w hL hR hx' hs' => ?_)))
      replace hx' := hx'.weaken (W' := W) fun b z => z ▸ hW.2 n k a hm q1 q2 hk
      have hx'' := hx'.weaken (W' := Own env) hW.1
      refine wpAny_mono (ih (X.stepS hL hR hx'') (hx''.vrs X.rel X.loc.noSeq hxs) (by simpa using hl) h) (fun _ s'' p => ?_) fun _ _ p => p
      obtain ⟨ℓ', h1, h2, h3, h4, h5⟩ := p
      exact ⟨ℓ', h1, h2, hx'.trans h3, hs'.trans h4, h5⟩
theorem draw_list {it l : Addr} {items : Array Value} (hne : l ≠ it) : ∀ (n i : Nat) (s : Shared) (Q : List Value → Shared → Prop), s.heap.IsListIter it l i → s.heap.IsList l items → i + n ≤ items.size →
    (∀ h', h'.IsListIter it l (i + n) → Heap.SameBut it s.heap h' → Q ((items.toList.drop i).take n) { s with heap := h' }) → wpAny (model g.prog g.w) A (draw (.ref it) n) Q E s
  | 0, i, s, Q, hit, _, _, hQ => by
    show wpAny _ _ (pure []) Q E s
    exact wpAny_pure (by simpa using hQ s.heap hit (Heap.SameBut.refl ..))
  | n + 1, i, s, Q, hit, ht, hle, hQ => by
    have hlt : i < items.size := by omega
    show wpAny _ _ (pyNext (.ref it) >>= _) Q E s
    refine wpAny_bind (wpAny_pyNext_list_item hit ht (x := items[i]) (by simp [hlt]) fun h₁ hit₁ hs₁ => ?_)
    refine wpAny_bind (wpAny_holding (draw_list hne n (i + 1) _ _ hit₁ (ht.extBut hs₁.extBut hne) (by omega) fun h₂ hit₂ hs₂ => wpAny_pure ?_))
    have hd : items.toList.drop i = items[i] :: items.toList.drop (i + 1) := by simp [List.drop_eq_getElem_cons, hlt]
    have := hQ h₂ (by rw [show i + (n + 1) = i + 1 + n by omega]; exact hit₂) (hs₁.trans hs₂)
    rw [hd, List.take_succ_cons] at this
    exact this
theorem unpackItems_list {t : Addr} {items : Array Value} {Q : List Value → Shared → Prop} (hh : A.handled = none) (ht : s.heap.IsList t items)
    (hQ : ∀ h', Heap.ExtBut s.heap.objs.size s.heap h' → Q items.toList { s with heap := h' }) : wpAny (model g.prog g.w) A (unpackItems (.ref t) items.size none) Q E s := by
  have hlt : t ≠ s.heap.objs.size := by obtain ⟨o, ho, _⟩ := ht; exact Nat.ne_of_lt (Heap.lt_size ho)
  unfold unpackItems
  refine wpAny_bind ?_
  · unfold notIterableAtAll
    refine wpAny_bind (wpAny_specialOf ht.typeIs slot_list_iter.lookup ?_)
    refine wpAny_pure ?_
    simp only [Bool.false_eq_true, if_false]
    refine wpAny_bind (wpAny_holding (wpAny_pyIter_list ht ?_))
    refine wpAny_bind (wpAny_holding (draw_list hlt items.size 0 _ _ ⟨_, Heap.get?_push_size _ rfl, rfl, rfl⟩ (ht.push _) (by omega) fun h₁ hit₁ hs₁ => ?_))
    have hall : List.take items.size (List.drop 0 items.toList) = items.toList := by
      rw [List.drop_zero]; exact List.take_of_length_le (by simp)
    rw [hall]
    rw [if_neg (by simp)]
    have ht₁ : h₁.IsList t items := (ht.push _).extBut hs₁.extBut hlt
    refine wpAny_bind (wpAny_holding (wpAny_pyNext_list_end hh hit₁ ht₁ (by simp) fun h₂ he₂ => ?_))
    simp only [Option.isSome_none, Bool.false_eq_true, if_false]
    refine wpAny_pure (hQ h₂ fun b o hb e => he₂ b o hb (hs₁.extBut b o hb (Heap.get?_push_of_some _ e)))
theorem extBut_keeps {h h' : Heap} (k : Heap.ExtBut h.objs.size h h') : ∀ a o, h.get? a = some o → h'.get? a = some o := fun a o e => k a o (Nat.ne_of_lt (Heap.lt_size e)) e
/-- the parts of a value -/
theorem parts_ok {v : V} {u : Value} {xs : List V} {n : Nat} {Q : List Value → Shared → Prop} (X : Cx g sc r c A env s.heap σ ℓ) (hh : A.handled = none) (hv : VR g s.heap v u) (hp : partsV v σ = some xs) (hn : xs.length = n)
    (h : ∀ us h', (∀ a o, s.heap.get? a = some o → h'.get? a = some o) → VRs g h' xs us → Q us { s with heap := h' }) : wpAny (model g.prog g.w) A (unpackItems u n none) Q E s := by
  have key : ∀ (a : Addr) (o : Obj) (vs : Array Value) (m : Nat), s.heap.get? a = some o → (o.cls = .type "tuple" ∨ o.cls = .type "list") → o.data = .seq vs m → VRs g s.heap xs vs.toList → wpAny (model g.prog g.w) A (unpackItems (.ref a) n none) Q E s := fun a o vs m ho hc hd hvs => by
    have hz : n = vs.size := by rw [← hn, VRs_length hvs]; simp
    subst hz
    have fin : ∀ h', Heap.ExtBut s.heap.objs.size s.heap h' → Q vs.toList { s with heap := h' } := fun h' k => h _ h' (extBut_keeps k) (VRs.mono (fun b o _ _ _ e _ _ => .of (extBut_keeps k b o e)) hvs)
    rcases hc with hc | hc
    · exact wpAny_unpackItems_tuple hh ⟨o, ho, hc, m, hd⟩ fin
    · exact unpackItems_list hh ⟨o, ho, hc, m, hd⟩ fin
  cases v with
  | tup vs =>
    obtain ⟨_, a, o, us, m, rfl, _, ho, hc, hd, hvs⟩ := VR_tup.mp hv
    cases hp; exact key a o us m ho (.inl hc) hd hvs
  | frz vs =>
    obtain ⟨_, a, o, us, m, rfl, ho, hc, hd, hvs⟩ := VR_frz.mp hv
    cases hp; exact key a o us m (X.rel.base a o ho) (.inr hc) hd hvs
  | ref a =>
    rw [VR_ref.mp hv]
    simp only [partsV] at hp
    split at hp
    · rename_i vs e
      cases hp
      obtain ⟨_, us, m, ho, hvs⟩ := (X.rel.own a _ e).2
      exact key a _ us m ho (.inr rfl) rfl hvs
    · cases hp
  | _ => cases hp
theorem assign_ok {W : Addr → Prop} (hW : Writes W sc env) {e : Expr} {t : Tgt} {x : V} {u : Value} {P : Loc → Prop} (X : Cx g sc r true A env s.heap σ ℓ) (ht : TgtIs sc e t) (hv : VR g s.heap x u) (hb : bindV t x ℓ σ P) :
    wpAny (model g.prog g.w) A (assign e env u) (fun _ s' => Bound g W env s σ P s') E s := by
  cases ht with
  | name hm hk => exact wpAny_assign_Name (store_ok X hm hk hv fun s' a q1 q2 _ h1 h2 h3 h4 => ⟨_, h1, h2, h3.weaken fun b z => z ▸ hW.2 _ _ a hm q1 q2 hk, h4, hb⟩)
  | @tup es ns k pos hn =>
    simp only [bindV] at hb
    split at hb
    · rename_i xs hp
      rw [arm_assign_Tuple]
      refine wpAny_bind (wpAny_standAt ?_)
      unfold unpack
      rw [hn.length env, hn.noStar env]
      refine wpAny_bind (wpAny_holding (parts_ok X (X.room.calm rfl) hv hp hb.1 fun us h' hk hvs => ?_))
      have X' : Cx g sc r true A env h' σ ℓ := X.step (X.rel.keeps hk) (.keeps hk)
      refine wpAny_mono (inOrder_ok hW (s := { s with heap := h' }) hn X' hvs hb.1 hb.2) (fun _ s' p => ?_) fun _ _ p => p
      obtain ⟨ℓ', h1, h2, h3, h4, h5⟩ := p
      exact ⟨ℓ', h1, h2, Ext.trans (.keeps hk) h3, Same.trans ⟨rfl, rfl, rfl⟩ h4, h5⟩
    · exact hb.elim
end
end
section
open PySem PyProof.Rows
variable {g : Gr} {sc : Scope} {r : Nat} {c : Bool}
/-- what a step of an iterator keeps: all but its own objects -/
noncomputable def KeptBut (fp : Addr → Prop) (h h' : Heap) : Prop := ∀ b o, ¬ fp b → h.get? b = some o → h'.get? b = some o
/-- the iterator I, made of the objects fp, walks through items while inv holds -/
structure Iters (g : Gr) (items : List V) (inv : AH → Prop) (I : Addr) (fp : Addr → Prop) (St : Nat → Heap → Prop) (tup : Bool) : Prop where
  stab : ∀ k h h', St k h → TupsKept g h h' → (∀ a o, fp a → h.get? a = some o → h'.get? a = some o) → St k h'
  flds : ∀ k h a, St k h → fp a → ∃ o, h.get? a = some o ∧ ((g.hid a ∧ ∃ vs n, o.data = .seq vs n) ∨ ∃ vs, o.data = .fields vs)
  self : ∀ k A E s (Q : Value → Shared → Prop), St k s.heap → Q (.ref I) s → wpAny (model g.prog g.w) A (pyIter (.ref I)) Q E s
  item : ∀ k x A E s σ target (Q : Value → Shared → Prop), items[k]? = some x → St k s.heap → Rel g s.heap σ → inv σ → (∀ a, fp a → σ a = none) → (tup = true → ∃ es m p, target = .Tuple es m p) →
    (∀ v s', KeptBut fp s.heap s'.heap → Same s s' → St (k + 1) s'.heap → VR g s'.heap x v → Q v s') →
    wpAny (model g.prog g.w) A (pyNext (.ref I)) (fun r s₁ => match r with | none => False | some v => wpAny (model g.prog g.w) A (letOwnedTupleGo target (.ref I) v) (fun _ => Q v) E s₁) E s
  last : ∀ k A E s σ (Q : Option Value → Shared → Prop), items.length ≤ k → A.handled = none → St k s.heap → Rel g s.heap σ → inv σ → (∀ a, fp a → σ a = none) →
    (∀ s', KeptBut fp s.heap s'.heap → Same s s' → Q none s') → wpAny (model g.prog g.w) A (pyNext (.ref I)) Q E s
/-- an iterator has been made -/
inductive PostI (g : Gr) (s : Shared) (σ : AH) (Q : List V → (AH → Prop) → Bool → AH → Prop) (it : Value) (s' : Shared) : Prop
  | mk (items : List V) (inv : AH → Prop) (I : Addr) (fp : Addr → Prop) (St : Nat → Heap → Prop) (tup : Bool) (σ' : AH) (h0 : it = .ref I) (h1 : Iters g items inv I fp St tup) (h2 : St 0 s'.heap) (h3 : Rel g s'.heap σ') (h4 : Ext No s.heap σ s'.heap σ') (h5 : Same s s') (h6 : ∀ a, fp a → s.heap.get? a = none ∧ σ' a = none) (h7 : Fits items.length) (h8 : Q items inv tup σ') : PostI g s σ Q it s'
noncomputable abbrev TI := Loc → AH → (List V → (AH → Prop) → Bool → AH → Prop) → (Addr → AH → Prop) → Prop
structure SndI (g : Gr) (sc : Scope) (r : Nat) (c : Bool) (e : Expr) (t : TI) : Prop where
  run : ∀ A env s ℓ σ Q E, Cx g sc r c A env s.heap σ ℓ → t ℓ σ Q E →
  wpAny (model g.prog g.w) A (eval e env) (fun x s₁ => wpAny (model g.prog g.w) A (pyIter x) (PostI g s σ Q) (PostX g A s σ E) s₁) (PostX g A s σ E) s
theorem letGo_plain {A : Around} {E : Value → Shared → Prop} {s : Shared} {target : Expr} {I : Addr} {o : Obj} {T : String} {vs : Array Value} {v : Value} {Q : Unit → Shared → Prop} (ho : s.heap.get? I = some o) (hc : o.cls = .type T) (hd : o.data = .fields vs)
    (hT : (["enumerate", "zip", "dict_itemiterator", "dict_reverseitemiterator", "odict_iterator", "itertools.zip_longest", "itertools.pairwise"].contains T) = false) (h : Q () s) :
    wpAny (model g.prog g.w) A (letOwnedTupleGo target (.ref I) v) Q E s := by
  have key : ∀ (a : Addr), wpAny (model g.prog g.w) A (load I >>= fun o => (match o.cls, o.data with
      | .type n, .fields vs =>
        if ["enumerate", "zip", "dict_itemiterator", "dict_reverseitemiterator", "odict_iterator", "itertools.zip_longest", "itertools.pairwise"].contains n && vs[0]? == some (rawInt a) then (do
          rule "for.unpacks-the-owned-tuple"
          updateField I 0 .none) else pure ()
      | _, _ => pure ())) Q E s := fun a => by
    refine wpAny_bind (wpAny_load ho ?_)
    rw [hc, hd]
    show wpAny _ A (if (_ && _) = true then _ else _) Q E s
    rw [if_neg (by rw [hT, Bool.false_and]; exact Bool.false_ne_true)]
    exact wpAny_pure h
  unfold letOwnedTupleGo
  split
  · cases v <;> first | exact key _ | exact wpAny_pure h
  · cases v <;> first | exact key _ | exact wpAny_pure h
  · exact wpAny_pure h
theorem VRs_getA {g : Gr} {h : Heap} {xs : List V} {vs : Array Value} (a : VRs g h xs vs.toList) {i : Nat} {x : V} (e : xs[i]? = some x) : ∃ v, vs[i]? = some v ∧ VR g h x v := by
  obtain ⟨v, h1, h2⟩ := VRs_get a e; exact ⟨v, by simpa using h1, h2⟩
theorem VRs_noneA {g : Gr} {h : Heap} {xs : List V} {vs : Array Value} (a : VRs g h xs vs.toList) {i : Nat} (e : xs.length ≤ i) : vs[i]? = none := by
  have := VRs_length a; simp at this ⊢; omega
theorem tupsKept_one {I : Addr} {h h' : Heap} {o : Obj} {vs : Array Value} (ho : h.get? I = some o) (hd : o.data = .fields vs) (k : ∀ b o, b ≠ I → h.get? b = some o → h'.get? b = some o) : TupsKept g h h' := fun a o' xs n _ e _ d => by
  refine .of (k a o' (fun z => ?_) e)
  subst z; rw [ho] at e; cases e; rw [hd] at d; cases d
/-- a list is walked through; it must stand at each turn -/
theorem iters_list (a I : Addr) (xs : List V) : Iters g xs (fun σ => σ a = some (.list xs)) I (· = I) (fun k h => h.IsListIter I a k) false where
  stab := fun k h h' st _ kp => st.at fun o e => kp I o rfl e
  flds := fun k h b st e => by subst e; obtain ⟨o, ho, _, hd⟩ := st; exact ⟨o, ho, .inr ⟨_, hd⟩⟩
  self := fun k A E s Q st h => wpAny_pyIter_listiter st h
  item := fun k x A E s σ target Q hx st R iv off _ h => by
    obtain ⟨hf, vs, n, ho, hv⟩ := (R.own a _ iv).2
    obtain ⟨v, e, hxv⟩ := VRs_getA hv hx
    obtain ⟨oI, hoI, hcI, hdI⟩ := id st
    refine wpAny_pyNext_list_item st ⟨_, ho, rfl, n, rfl⟩ e fun h' st' sb => ?_
    obtain ⟨o', ho', hc', hd'⟩ := id st'
    refine letGo_plain ho' hc' hd' (by decide) (h v _ (fun b o nb e => sb.extBut b o nb e) ⟨rfl, rfl, rfl⟩ st' (VR.mono (tupsKept_one hoI hdI sb.extBut) hxv))
  last := fun k A E s σ Q hk hh st R iv off h => by
    obtain ⟨hf, vs, n, ho, hv⟩ := (R.own a _ iv).2
    exact wpAny_pyNext_list_end hh st ⟨_, ho, rfl, n, rfl⟩ (VRs_noneA hv hk) fun h' eb => h { s with heap := h' } (fun b o nb e => eb b o nb e) ⟨rfl, rfl, rfl⟩
/-- a tuple is walked through -/
theorem iters_tuple (t I : Addr) (xs : List V) : Iters g xs (fun _ => True) I (· = I) (fun k h => h.IsTupleIter I t k ∧ VR g h (.tup xs) (.ref t)) false where
  stab := fun k h h' st tk kp => ⟨st.1.at fun o e => kp I o rfl e, VR.mono tk st.2⟩
  flds := fun k h b st e => by subst e; obtain ⟨⟨o, ho, _, hd⟩, _⟩ := st; exact ⟨o, ho, .inr ⟨_, hd⟩⟩
  self := fun k A E s Q st h => wpAny_pyIter_tupleiter st.1 h
  item := fun k x A E s σ target Q hx st R iv off _ h => by
    obtain ⟨hf, t', o, vs, n, et, _, ho, hc, hd, hv⟩ := VR_tup.mp st.2
    cases et
    obtain ⟨v, e, hxv⟩ := VRs_getA hv hx
    obtain ⟨oI, hoI, hcI, hdI⟩ := id st.1
    refine wpAny_pyNext_tuple_item st.1 ⟨_, ho, hc, n, hd⟩ e fun h' st' sb => ?_
    obtain ⟨o', ho', hc', hd'⟩ := id st'
    have tk : TupsKept g s.heap h' := tupsKept_one hoI hdI sb.extBut
    exact letGo_plain ho' hc' hd' (by decide) (h v _ (fun b o nb e => sb.extBut b o nb e) ⟨rfl, rfl, rfl⟩ ⟨st', VR.mono tk st.2⟩ (VR.mono tk hxv))
  last := fun k A E s σ Q hk hh st R iv off h => by
    obtain ⟨hf, t', o, vs, n, et, _, ho, hc, hd, hv⟩ := VR_tup.mp st.2
    cases et
    exact wpAny_pyNext_tuple_end hh st.1 ⟨_, ho, hc, n, hd⟩ (VRs_noneA hv hk) fun h' eb => h { s with heap := h' } (fun b o nb e => eb b o nb e) ⟨rfl, rfl, rfl⟩
/-- the items of a range -/
noncomputable def rangeV (lo : Int) (n : Nat) : List V := (List.range n).map fun (i : Nat) => .int (lo + (i : Int))
theorem iters_range (I : Addr) (lo : Int) (n : Nat) : Iters g (rangeV lo n) (fun _ => True) I (· = I) (fun k h => IsRangeIter h I (lo + (k : Int)) ((n : Int) - k) 1) false where
  stab := fun k h h' st _ kp => kp I _ rfl st
  flds := fun k h b st e => by subst e; exact ⟨_, st, .inr ⟨_, rfl⟩⟩
  self := fun k A E s Q st h => wpAny_pyIter_rangeiter st h
  item := fun k x A E s σ target Q hx st R iv off _ h => by
    have hk : k < n := by
      rcases Nat.lt_or_ge k n with q | q
      · exact q
      · rw [List.getElem?_eq_none (by simp [rangeV]; exact q)] at hx; cases hx
    have hx' : x = .int (lo + (k : Int)) := by simp [rangeV, hk] at hx; exact hx.symm
    subst hx'
    refine wpAny_pyNext_range_item st (by omega) fun h' st' sb => ?_
    have st'' : IsRangeIter h' I (lo + ((k + 1 : Nat) : Int)) ((n : Int) - ((k + 1 : Nat) : Int)) 1 := by
      have e1 : lo + ((k + 1 : Nat) : Int) = lo + (k : Int) + 1 := by push_cast; omega
      have e2 : (n : Int) - ((k + 1 : Nat) : Int) = (n : Int) - k - 1 := by push_cast; omega
      rw [e1, e2]; exact st'
    exact letGo_plain st' rfl rfl (by decide) (h _ _ (fun b o nb e => sb.extBut b o nb e) ⟨rfl, rfl, rfl⟩ st'' (VR_int.mpr ⟨_, rfl⟩))
  last := fun k A E s σ Q hk hh st R iv off h => by
    have : n ≤ k := by simpa [rangeV] using hk
    exact wpAny_pyNext_range_end hh st (by omega) fun h' eb => h { s with heap := h' } (fun b o nb e => eb b o nb e) ⟨rfl, rfl, rfl⟩
end
section
open PySem PyProof.Rows
variable {g : Gr} {sc : Scope} {r : Nat} {c : Bool}
/-- a loop over items, each bound to the target -/
noncomputable def loopT (t : Tgt) (inv : AH → Prop) (tb : TS) : List V → TS
  | [], ℓ, σ, Q, _ => inv σ ∧ Q .next ℓ σ
  | x :: xs, ℓ, σ, Q, E => inv σ ∧ bindV t x ℓ σ fun ℓ₁ => tb ℓ₁ σ (fun f ℓ₂ σ₂ => match f with
    | .next => loopT t inv tb xs ℓ₂ σ₂ Q E
    | .cont => loopT t inv tb xs ℓ₂ σ₂ Q E
    | .brk => Q .next ℓ₂ σ₂
    | .ret v => Q (.ret v) ℓ₂ σ₂) E
noncomputable def Tgt.isTup : Tgt → Bool
  | .name _ => false
  | .tup _ => true
noncomputable def tFor (t : Tgt) (ti : TI) (tb : TS) : TS := fun ℓ σ Q E => ti ℓ σ (fun items inv tup σ₁ => (tup = true → t.isTup = true) ∧ loopT t inv tb items ℓ σ₁ Q E) fun C σ' => E C ℓ σ'
section
variable {A : Around} {env : Env} {s s₁ : Shared} {σ σ₁ : AH} {ℓ ℓ₁ : Loc} {h h' : Heap}
/-- what the loop's iterator did -/
structure Walked (g : Gr) (fp : Addr → Prop) (h : Heap) (σ : AH) : Prop where
  off : ∀ a, fp a → σ a = none
  flds : ∀ a, fp a → ∃ o, h.get? a = some o ∧ ((g.hid a ∧ ∃ vs n, o.data = .seq vs n) ∨ ∃ vs, o.data = .fields vs)
  base : ∀ a, fp a → g.b0.get? a = none
theorem Walked.tups {fp : Addr → Prop} (w : Walked g fp h σ) (k : KeptBut fp h h') : TupsKept g h h' := fun a o vs n nh e _ d => by
  refine .of (k a o (fun q => ?_) e)
  obtain ⟨o', e', z⟩ := w.flds a q
  rw [e] at e'; cases e'
  rcases z with z | ⟨us, z⟩
  · exact nh z.1
  · rw [d] at z; cases z
theorem Walked.rel {fp : Addr → Prop} (w : Walked g fp h σ) (R : Rel g h σ) (k : KeptBut fp h h') (hh : ∀ a, g.hid a → fp a → ∃ o, h'.get? a = some o) : Rel g h' σ := by
  refine ⟨fun a ha => ?_, fun a o e => k a o (fun q => ?_) (R.base a o e), fun a ao e => ⟨(R.own a ao e).1, OR_mono (w.tups k) (fun o e' => k a o (fun q => ?_) e') (R.own a ao e).2⟩⟩
  · by_cases q : fp a
    · exact hh a ha q
    · obtain ⟨o, e⟩ := R.hid a ha; exact ⟨o, k a o q e⟩
  · rw [w.base a q] at e; cases e
  · rw [w.off a q] at e; cases e
theorem Walked.loc {fp : Addr → Prop} (w : Walked g fp h σ) (L : LR g h σ env ℓ) (k : KeptBut fp h h') (ho : ∀ a, fp a → ¬ Own env a) : LR g h' σ env ℓ := by
  have kv : ∀ {v : V} {u : Value}, VR g h v u → VR g h' v u := VR.mono (w.tups k)
  obtain ⟨m, hn, hm⟩ := L.ns
  refine ⟨⟨m, ns_upTo hn fun o e => .of (k _ o (fun q => ho _ q (.inl rfl)) e), fun y v a b => let ⟨u, e, f⟩ := hm y v a b; ⟨u, e, kv f⟩⟩, fun y c e => ?_, fun y v a kk => ?_, L.off, L.offc, L.apart, L.has⟩
  · obtain ⟨o, u, e1, e2⟩ := L.cell y c e
    exact ⟨o, u, k c o (fun q => ho _ q (.inr ⟨y, e⟩)) e1, e2⟩
  · obtain ⟨c, u, e, hc, hv⟩ := L.cells y v a kk
    exact ⟨c, u, e, cell_upTo hc fun o z => .of (k _ o (fun q => ho _ q (.inr ⟨_, e⟩)) z), kv hv⟩
theorem Own.present {a : Addr} (L : LR g h σ env ℓ) (w : Own env a) : ∃ o, h.get? a = some o := let ⟨o, e, _⟩ := L.noFields w; ⟨o, e⟩
/-- the iterator's objects stand behind a step of the block -/
theorem Walked.stand {fp : Addr → Prop} (w : Walked g fp h σ) (x : Ext (Own env) h σ h' σ₁) (ho : ∀ a, fp a → ¬ Own env a) : ∀ a o, fp a → h.get? a = some o → h'.get? a = some o := fun a o q e => by
  refine (x.keep a o e (w.off a q) (ho a q)).exact fun es n d => ?_
  obtain ⟨o', e', z⟩ := w.flds a q
  rw [e] at e'; cases e'
  rcases z with ⟨_, us, m, z⟩ | ⟨us, z⟩
  · rw [d] at z; cases z
  · rw [d] at z; cases z
/-- behind the last step: what was hidden for the walk is forgotten -/
theorem Walked.relLess {H : Addr → Prop} {fp : Addr → Prop} (w : Walked (g.wh H) fp h σ) (R : Rel (g.wh H) h σ) (k : KeptBut fp h h') (hH : ∀ a, g.hid a → H a) (hn : ∀ a, fp a → ¬ g.hid a) : Rel g h' σ := by
  refine ⟨fun a ha => ?_, fun a o e => k a o (fun q => ?_) (R.base a o e), fun a ao e => ⟨(R.own a ao e).1, OR.less hH (OR_mono (w.tups k) (fun o e' => k a o (fun q => ?_) e') (R.own a ao e).2)⟩⟩
  · obtain ⟨o, e⟩ := R.hid a (hH a ha); exact ⟨o, k a o (fun q => hn a q ha) e⟩
  · have z : g.b0.get? a = none := w.base a q
    rw [z] at e; cases e
  · rw [w.off a q] at e; cases e
end
theorem PostXB.less {A : Around} {env : Env} {s : Shared} {σ : AH} {H : Addr → Prop} (k : ∀ a, g.hid a → H a) {E : Addr → Loc → AH → Prop} {e : Value} {s' : Shared} (p : PostXS (g.wh H) A env s σ E e s') : PostXS g A env s σ E e s' :=
  let ⟨C, ℓ', σ', h1, h2, h3, h4, h5, h6⟩ := p; ⟨C, ℓ', σ', h1.unwh, h2.less k, h3.less k, h4, h5, h6⟩
/-- a loop; its own hidden tuples (H) are hidden in its block alone -/
theorem for_core {A : Around} {env : Env} {s s₂ : Shared} {ℓ : Loc} {σ σ₁ : AH} {H : Addr → Prop} {target : Expr} {body : List Stmt} {t : Tgt} {tb : TS} {items : List V} {inv : AH → Prop} {I : Addr} {fp : Addr → Prop} {St : Nat → Heap → Prop} {tup : Bool} {Q : Fl → Loc → AH → Prop} {E : Addr → Loc → AH → Prop}
    (hH : ∀ a, g.hid a → H a) (X : Cx g sc r true A env s.heap σ ℓ) (IT : Iters (g.wh H) items inv I fp St tup) (hst : St 0 s₂.heap) (hL0 : LR (g.wh H) s₂.heap σ₁ env ℓ) (hR : Rel (g.wh H) s₂.heap σ₁) (hx : Ext No s.heap σ s₂.heap σ₁) (hsm : Same s s₂)
    (hfp : ∀ a, fp a → s.heap.get? a = none ∧ σ₁ a = none) (htt : tup = true → t.isTup = true) (hl : loopT t inv tb items ℓ σ₁ Q E) (ht : TgtIs sc target t) (hb : SndSs (g.wh H) sc r true body tb) :
    codeAny (model g.prog g.w) A (.forLoop target (.ref I) body [] env) (fun r s' => match r with | .ok f => PostS g env s σ Q f s' | .error e => cameBackBy (model g.prog g.w) A env (PostXS g A env s σ E) e s') s₂ := by
  have hb0 : ∀ a, fp a → g.b0.get? a = none := fun a q => by
    cases e : g.b0.get? a with
    | none => rfl
    | some o => exact absurd (hfp a q).1 (by rw [X.rel.base a o e]; simp)
  have hown : ∀ a, fp a → ¬ Own env a := fun a q w => by
    obtain ⟨o, e⟩ := Own.present X.loc w
    rw [(hfp a q).1] at e; cases e
  have hhid : ∀ a, fp a → ¬ g.hid a := fun a q w => by
    obtain ⟨o, e⟩ := X.rel.hid a w
    rw [(hfp a q).1] at e; cases e
  have target_tup : tup = true → ∃ es m p, target = .Tuple es m p := fun q => by
    have := htt q
    cases ht with
    | name _ _ => cases this
    | tup _ => exact ⟨_, _, _, rfl⟩
  have X0 : Cx (g.wh H) sc r true A env s₂.heap σ₁ ℓ := ⟨X.gok.wh, X.ok, hL0, X.fr.step hx (fun _ _ _ _ n => n.elim), X.room, hR⟩
  refine codeAny_forLoop_any (fun n s' => ∃ k ℓ' σ', k ≤ items.length ∧ n = items.length - k ∧ St k s'.heap ∧ LR (g.wh H) s'.heap σ' env ℓ' ∧ Rel (g.wh H) s'.heap σ' ∧ Ext (Own env) s.heap σ s'.heap σ' ∧ Same s s' ∧ (∀ a, fp a → σ' a = none) ∧
    loopT t inv tb (items.drop k) ℓ' σ' Q E) ?_ items.length ⟨0, ℓ, σ₁, Nat.zero_le _, rfl, hst, hL0, hR, hx.own, hsm, fun a q => (hfp a q).2, by simpa using hl⟩
  rintro n s' ⟨k, ℓ', σ', hk, rfl, hst, hL, hR, hx, hsm, hoff, hl⟩
  have W : Walked (g.wh H) fp s'.heap σ' := ⟨hoff, fun a q => IT.flds k _ a hst q, hb0⟩
  have ext : ∀ {s'' : Shared}, KeptBut fp s'.heap s''.heap → Ext (Own env) s.heap σ s''.heap σ' := fun {s''} kb => by
    refine ⟨fun a o e n nw => ?_, fun a o e => ?_, hx.dom⟩
    · refine (hx.keep a o e n nw).then fun o' e' => .of (kb a o' (fun q => ?_) e')
      rw [(hfp a q).1] at e; cases e
    · obtain ⟨o', e'⟩ := hx.pres a o e
      refine ⟨o', kb a o' (fun q => ?_) e'⟩
      rw [(hfp a q).1] at e; cases e
  rcases Nat.lt_or_ge k items.length with hlt | hge
  · have hd : items.drop k = items[k] :: items.drop (k + 1) := List.drop_eq_getElem_cons hlt
    rw [hd] at hl
    obtain ⟨hinv, hbind⟩ := hl
    refine wpAny_mono (IT.item k items[k] A (fun e s' => False) s' σ' target (fun v s₁ => ∃ (kb : KeptBut fp s'.heap s₁.heap), Same s' s₁ ∧ St (k + 1) s₁.heap ∧ VR (g.wh H) s₁.heap items[k] v) (by simp [hlt]) hst hR hinv hoff target_tup
      fun v s₁ a b d e => ⟨a, b, d, e⟩) (fun rr s₁ p => ?_) fun _ _ p => p.elim
    cases rr with
    | none => exact p.elim
    | some v =>
      refine wpAny_mono p (fun _ s₂ p => ?_) fun _ _ p => p.elim
      obtain ⟨kb, hs2, hst2, hv⟩ := p
      have hL2 := W.loc hL kb hown
      have hR2 := W.rel hR kb fun a w q => let ⟨o, e, _⟩ := IT.flds _ _ a hst2 q; ⟨o, e⟩
      have hx2 := ext kb
      have X2 : Cx (g.wh H) sc r true A env s₂.heap σ' ℓ' := ⟨X.gok.wh, X.ok, hL2, X.fr.step hx2 (X.loc.dicts (hL2.less hH)), X.room, hR2⟩
      have W2 : Walked (g.wh H) fp s₂.heap σ' := ⟨hoff, fun a q => IT.flds _ _ a hst2 q, hb0⟩
      refine wpAny_mono (assign_ok (g := g.wh H) writes_own (E := fun _ _ => False) X2 ht hv hbind) (fun _ s₃ p => ?_) fun _ _ p => p.elim
      obtain ⟨ℓ₃, hL3, hR3, hx3, hs3, hbody⟩ := p
      have hst3 : St (k + 1) s₃.heap := IT.stab _ _ _ hst2 (hx3.tuples hR2 hL2.noSeq) (W2.stand hx3 hown)
      have X3 : Cx (g.wh H) sc r true A env s₃.heap σ' ℓ₃ := X2.stepS hL3 hR3 hx3
      have W3 : Walked (g.wh H) fp s₃.heap σ' := ⟨hoff, fun a q => IT.flds _ _ a hst3 q, hb0⟩
      have hx03 : Ext (Own env) s.heap σ s₃.heap σ' := hx2.trans hx3
      have hs03 : Same s s₃ := (hsm.trans hs2).trans hs3
      refine wpAny_mono (hb.run A env s₃ ℓ₃ σ' _ E X3 hbody) (fun f s₄ p => ?_) fun e s₄ p => ((p.less hH).back hx03 hs03).noted X fun e s' p => p.came fun e s' p => p
      obtain ⟨f', ℓ₄, σ₄, hf', hL4, hR4, hx4, hs4, hq⟩ := p
      have again : loopT t inv tb (items.drop (k + 1)) ℓ₄ σ₄ Q E → ∃ m, m < items.length - k ∧ ∃ k' ℓ' σ', k' ≤ items.length ∧ m = items.length - k' ∧ St k' s₄.heap ∧ LR (g.wh H) s₄.heap σ' env ℓ' ∧ Rel (g.wh H) s₄.heap σ' ∧ Ext (Own env) s.heap σ s₄.heap σ' ∧ Same s s₄ ∧ (∀ a, fp a → σ' a = none) ∧
          loopT t inv tb (items.drop k') ℓ' σ' Q E := fun hl => by
        refine ⟨items.length - (k + 1), by omega, k + 1, ℓ₄, σ₄, hlt, rfl, ?_, hL4, hR4, hx03.trans hx4, hs03.trans hs4, fun a q => ?_, hl⟩
        · exact IT.stab _ _ _ hst3 (hx4.tuples hR3 hL3.noSeq) (W3.stand hx4 hown)
        · obtain ⟨o, e, _⟩ := W3.flds a q
          exact hx4.off e (hoff a q)
      cases f' with
      | next => cases hf'; exact again hq
      | cont => cases hf'; exact again hq
      | brk => cases hf'; exact ⟨.next, ℓ₄, σ₄, rfl, hL4.less hH, hR4.less hH, hx03.trans hx4, hs03.trans hs4, hq⟩
      | ret v => obtain ⟨u, rfl, hu⟩ := hf'; exact ⟨.ret v, ℓ₄, σ₄, ⟨u, rfl, hu.less hH⟩, hL4.less hH, hR4.less hH, hx03.trans hx4, hs03.trans hs4, hq⟩
  · have hd : items.drop k = [] := List.drop_eq_nil_of_le hge
    rw [hd] at hl
    refine IT.last k A _ s' σ' _ hge (X.room.calm rfl) hst hR hl.1 hoff fun s'' kb hs'' => wpAny_execs_nil ?_
    exact ⟨.next, ℓ', σ', rfl, (W.loc hL kb hown).less hH, W.relLess hR kb hH hhid, ext kb, hsm.trans hs'', hl.2⟩
theorem sndS_for {target iter : Expr} {body : List Stmt} {pos : Pos} {t : Tgt} {ti : TI} {tb : TS} (hi : SndI g sc r true iter ti) (ht : TgtIs sc target t) (hb : SndSs g sc r true body tb)
    (hf : ∀ env x, foldedSetIterable iter env x = pure x) : SndS g sc r true (.For target iter body [] pos) (tFor t ti tb) := .mk fun A env s ℓ σ Q E X h => by
  refine wpAny_For (wpAny_mono (hi.run A env s ℓ σ _ _ X h) (fun x s₁ p => wpAny_mono p (fun it s₂ p => ?_) fun _ _ p => p.toS X) fun _ _ p => p.toS X) (hf env)
  obtain ⟨items, inv, I, fp, St, tup, σ₁, rfl, IT, hst, hR, hx, hsm, hfp, hft, htt, hl⟩ := p
  exact for_core (H := g.hid) (fun _ h => h) X IT hst (X.loc.step X.rel hx) hR hx hsm hfp htt hl ht hb
end
section
open PySem PyProof.Rows
variable {g : Gr} {sc csc : Scope} {r : Nat} {c : Bool}
/-! ## the block of a comprehension -/
noncomputable def Loc.bare (ℓ : Loc) : Loc := fun n => cond (n == ".0") none (ℓ n)
theorem Loc.bare_at {ℓ : Loc} {n : String} : ℓ.bare n = if n = ".0" then none else ℓ n := by
  unfold Loc.bare
  by_cases h : n = ".0"
  · rw [if_pos h, beq_iff_eq.mpr h]; rfl
  · rw [if_neg h, beq_eq_false_iff_ne.mpr h]; rfl
/-- what is asked of a comprehension's scope; checked by computation -/
noncomputable def namesApart : List (Str × NameKind) → Bool
  | [] => true
  | (x, _) :: rest => (rest.all fun y => y.1 != x) && namesApart rest
noncomputable def scopeOk (sc csc : Scope) : Bool :=
  csc.kind == .function && namesApart csc.names && (csc.names.all fun x => x.2 != .cell && x.1 != ("__debug__" : Str) && x.1 != ("__classdict__" : Str)) &&
  (csc.names.all fun x => x.2 != .free || sc.names.any fun y => y.1 == x.1 && (y.2 == .cell || y.2 == .free))
theorem lookup_of_apart : ∀ {names : List (Str × NameKind)} {x : Str} {k : NameKind}, namesApart names = true → (x, k) ∈ names → names.lookup x = some k
  | (y, j) :: rest, x, k, h, hm => by
    simp only [namesApart, Bool.and_eq_true] at h
    cases hm with
    | head => simp [List.lookup_cons]
    | tail _ hm =>
      have hne : (x == y) = false := by
        have := List.all_eq_true.mp h.1 _ hm
        simpa using this
      rw [List.lookup_cons, hne]
      exact lookup_of_apart h.2 hm
theorem mem_of_lookup : ∀ {names : List (Str × NameKind)} {x : Str} {k : NameKind}, names.lookup x = some k → (x, k) ∈ names
  | [], x, k, h => by simp at h
  | (y, j) :: rest, x, k, h => by
    rw [List.lookup_cons] at h
    split at h
    · rename_i e; cases h; rw [eq_of_beq e]; exact .head _
    · exact .tail _ (mem_of_lookup h)
theorem closureFor_ok {scope : Scope} {env : Env} (h : ∀ x ∈ scope.names, x.2 = .free → ∃ a, env.cells.lookup x.1 = some a) :
    ∃ cl, closureFor scope env = pure cl ∧ (∀ n a, cl.lookup n = some a → env.cells.lookup n = some a) ∧ ∀ n, (n, NameKind.free) ∈ scope.names → cl.lookup n = env.cells.lookup n := by
  have key : ∀ (names : List (Str × NameKind)) (cs : List (Str × Addr)), (∀ x ∈ names, x.2 = .free → ∃ a, env.cells.lookup x.1 = some a) → (∀ n a, cs.lookup n = some a → env.cells.lookup n = some a) →
      ∃ cl, (forIn names cs fun x cs => if (x.2 == NameKind.free) = true then (do let a ← cellOf env x.1; pure (ForInStep.yield ((x.1, a) :: cs))) else pure (ForInStep.yield cs) : Sem (List (Str × Addr))) = pure cl ∧
        (∀ n a, cl.lookup n = some a → env.cells.lookup n = some a) ∧ (∀ n, (n, NameKind.free) ∈ names ∨ cs.lookup n ≠ none → cl.lookup n = env.cells.lookup n) := by
    intro names
    induction names with
    | nil =>
      intro cs _ hcs
      refine ⟨cs, rfl, hcs, fun n q => ?_⟩
      rcases q with q | q
      · cases q
      · cases e : cs.lookup n with
        | none => exact absurd e q
        | some a => rw [hcs n a e]
    | cons x names ih =>
      intro cs hx hcs
      obtain ⟨n, k⟩ := x
      cases hk : k == NameKind.free with
      | true =>
        obtain ⟨a, ha⟩ := hx (n, k) (.head _) (eq_of_beq hk)
        have hcs' : ∀ m b, ((n, a) :: cs).lookup m = some b → env.cells.lookup m = some b := fun m b q => by
          rw [List.lookup_cons] at q
          split at q
          · rename_i e; cases q; rw [eq_of_beq e]; exact ha
          · exact hcs m b q
        obtain ⟨cl, h1, h2, h3⟩ := ih ((n, a) :: cs) (fun y hy => hx y (.tail _ hy)) hcs'
        refine ⟨cl, ?_, h2, fun m q => h3 m ?_⟩
        · rw [List.forIn_cons]
          simp only [hk, if_true]
          unfold cellOf
          rw [ha]
          exact h1
        · rcases q with q | q
          · cases q with
            | head => right; simp [List.lookup_cons]
            | tail _ q => exact .inl q
          · right
            rw [List.lookup_cons]
            split
            · simp
            · exact q
      | false =>
        obtain ⟨cl, h1, h2, h3⟩ := ih cs (fun y hy => hx y (.tail _ hy)) hcs
        refine ⟨cl, ?_, h2, fun m q => h3 m ?_⟩
        · rw [List.forIn_cons]
          simp only [hk, Bool.false_eq_true, if_false]
          exact h1
        · rcases q with q | q
          · cases q with
            | head => cases hk
            | tail _ q => exact .inl q
          · exact .inr q
  obtain ⟨cl, h1, h2, h3⟩ := key scope.names [] h (fun n a q => by simp at q)
  refine ⟨cl, ?_, h2, fun n q => h3 n (.inl q)⟩
  unfold closureFor
  have : (pure cl : Sem (List (Str × Addr))) = (pure cl >>= fun cs => pure cs) := rfl
  rw [this, ← h1]
theorem LR.forget {h : Heap} {σ : AH} {env : Env} {ℓ ℓ' : Loc} (L : LR g h σ env ℓ) (k : ∀ n v, ℓ' n = some v → ℓ n = some v) : LR g h σ env ℓ' := by
  obtain ⟨m, h1, h2⟩ := L.ns
  exact ⟨⟨m, h1, fun n v e kd => h2 n v (k n v e) kd⟩, L.cell, fun n v e kd => L.cells n v (k n v e) kd, L.off, L.offc, L.apart, L.has⟩
theorem Rel.claim {h : Heap} {σ : AH} {a : Addr} {ao : AO} (R : Rel g h σ) (hb : g.b0.get? a = none) (x : OR g h a ao) : Rel g h (σ.set a ao) := by
  refine ⟨R.hid, R.base, fun b bo e => ?_⟩
  unfold AH.set at e
  split at e
  · rename_i q; subst q; cases e; exact ⟨hb, x⟩
  · exact R.own b bo e
section
variable {A : Around} {env : Env} {s : Shared} {σ : AH} {ℓ : Loc} {h : Heap} {cl : List (Str × Addr)} {C : Addr}
theorem kindOf_comp (cl : List (Str × Addr)) (C : Addr) (env : Env) (x : Str) : (compEnvC csc cl C env).kindOf x = (csc.names.lookup x).map fun k => if (k == .free && env.scope.kind == .function && env.kindOf x == some .cell) then .cell else k := by
  show ((relabel csc env).names).lookup x = _
  unfold relabel
  simp only
  generalize csc.names = names
  induction names with
  | nil => rfl
  | cons y rest ih =>
    obtain ⟨n, k⟩ := y
    rw [List.map_cons, List.lookup_cons]
    by_cases hx : x = n
    · subst hx
      by_cases hc : (k == NameKind.free && env.scope.kind == .function && env.kindOf x == some .cell) = true
      · simp only [hc, if_true, List.lookup_cons, beq_self_eq_true, Option.map_some]
      · simp only [hc, if_false, List.lookup_cons, beq_self_eq_true, Option.map_some]
        simp
    · have hb : (x == n) = false := by simpa using hx
      by_cases hc : (k == NameKind.free && env.scope.kind == .function && env.kindOf n == some .cell) = true
      · simp only [hc, if_true, List.lookup_cons, hb]; exact ih
      · simp only [hc, if_false, List.lookup_cons, hb]; simp only [Bool.false_eq_true, if_false, List.lookup_cons, hb]; exact ih
theorem comp_env (X : Cx g sc r c A env h σ ℓ) (ok : scopeOk sc csc = true) : EnvOk csc (compEnvC csc cl C env) := by
  simp only [scopeOk, Bool.and_eq_true] at ok
  obtain ⟨⟨⟨ok1, ok2⟩, ok3⟩, ok4⟩ := ok
  refine ⟨fun x k hm => ?_, fun x k hm => ?_, by show (relabel csc env).kind = _; exact eq_of_beq ok1, X.ok.globals, X.ok.builtins⟩
  · rw [kindOf_comp, lookup_of_apart ok2 hm]
    simp only [Option.map_some]
    split
    · rename_i hc
      simp only [Bool.and_eq_true] at hc
      exact .inr ⟨eq_of_beq hc.1.1, rfl⟩
    · exact .inl rfl
  · have := List.all_eq_true.mp ok3 _ hm
    simp only [Bool.and_eq_true] at this
    exact ⟨by simpa using this.1.2, by simpa using this.2⟩
theorem comp_loc (X : Cx g sc r c A env h σ ℓ) (ok : scopeOk sc csc = true) (hcl : ∀ n a, cl.lookup n = some a → env.cells.lookup n = some a) (hcl' : ∀ n, (n, NameKind.free) ∈ csc.names → cl.lookup n = env.cells.lookup n)
    {m : Str → Option Value} (hn : h.Ns C m) (hC : σ C = none) (hCb : g.b0.get? C = none) (hCn : ∀ x a, env.cells.lookup x = some a → a ≠ C)
    {ℓ' : Loc} (hl : ∀ n v, ℓ' n = some v → csc.names.lookup (Str.ofString n) = some .local → ∃ u, m (Str.ofString n) = some u ∧ VR g h v u)
    (hf : ∀ n v, ℓ' n = some v → csc.names.lookup (Str.ofString n) = some .free → ℓ n = some v) : LR g h σ (compEnvC csc cl C env) ℓ' := by
  simp only [scopeOk, Bool.and_eq_true] at ok
  obtain ⟨⟨⟨ok1, ok2⟩, ok3⟩, ok4⟩ := ok
  -- the kind of a name in the comprehension's scope
  have kd : ∀ x k, (compEnvC csc cl C env).kindOf x = some k → (k = .local → csc.names.lookup x = some .local) ∧ (k = .cell ∨ k = .free → csc.names.lookup x = some .free) := fun x k e => by
    rw [kindOf_comp] at e
    cases q : csc.names.lookup x with
    | none => rw [q] at e; cases e
    | some j =>
      rw [q] at e
      simp only [Option.map_some, Option.some.injEq] at e
      have hj : j ≠ .cell := fun z => by
        subst z
        have := List.all_eq_true.mp ok3 _ (mem_of_lookup q)
        simp at this
      split at e
      · rename_i hc
        simp only [Bool.and_eq_true] at hc
        have : j = .free := eq_of_beq hc.1.1
        subst this; subst e
        exact ⟨fun z => (nomatch z), fun _ => rfl⟩
      · subst e
        exact ⟨fun z => by rw [z], fun z => by rcases z with z | z <;> first | exact absurd z hj | rw [z]⟩
  -- free names have cells outside
  have out : ∀ x, csc.names.lookup x = some .free → env.kindOf x = some .cell ∨ env.kindOf x = some .free := fun x e => by
    have := List.all_eq_true.mp ok4 _ (mem_of_lookup e)
    simp only [bne_self_eq_false, Bool.false_or, List.any_eq_true, Bool.and_eq_true] at this
    obtain ⟨⟨y, j⟩, hy, h1, h2⟩ := this
    have hyx : y = x := eq_of_beq h1
    subst hyx
    rcases X.ok.kinds _ _ hy with q | ⟨_, q⟩
    · rw [q]
      cases j <;> simp at h2 <;> simp
    · exact .inl q
  refine ⟨⟨m, hn, fun n v e k => hl n v e ((kd _ _ k).1 rfl)⟩, fun x a e => X.loc.cell x a (hcl x a e), fun n v e k => ?_, ⟨hC, hCb⟩, fun x a e => ?_, fun x y a e1 e2 => X.loc.apart x y a (hcl x a e1) (hcl y a e2), fun x k => ?_⟩
  · have hfree : csc.names.lookup (Str.ofString n) = some .free := by
      rcases k with k | k
      · exact (kd _ _ k).2 (.inl rfl)
      · exact (kd _ _ k).2 (.inr rfl)
    obtain ⟨a, u, h1, h2, h3⟩ := X.loc.cells n v (hf n v e hfree) (out _ hfree)
    exact ⟨a, u, (hcl' _ (mem_of_lookup hfree)).trans h1, h2, h3⟩
  · obtain ⟨h1, h2, h3⟩ := X.loc.offc x a (hcl x a e)
    exact ⟨h1, hCn x a (hcl x a e), h3⟩
  · have hfree : csc.names.lookup x = some .free := by
      rcases k with k | k
      · exact (kd _ _ k).2 (.inl rfl)
      · exact (kd _ _ k).2 (.inr rfl)
    obtain ⟨a, ha⟩ := X.loc.has x (out x hfree)
    exact ⟨a, (hcl' _ (mem_of_lookup hfree)).trans ha⟩
theorem comp_cells (X : Cx g sc r c A env h σ ℓ) (ok : scopeOk sc csc = true) : ∀ x ∈ csc.names, x.2 = .free → ∃ a, env.cells.lookup x.1 = some a := fun x hx e => by
  simp only [scopeOk, Bool.and_eq_true] at ok
  have := List.all_eq_true.mp ok.2 _ hx
  rw [e] at this
  simp only [bne_self_eq_false, Bool.false_or, List.any_eq_true, Bool.and_eq_true] at this
  obtain ⟨⟨y, j⟩, hy, h1, h2⟩ := this
  have hyx : y = x.1 := eq_of_beq h1
  subst hyx
  refine X.loc.has _ ?_
  rcases X.ok.kinds _ _ hy with q | ⟨_, q⟩
  · rw [q]
    cases j <;> simp at h2 <;> simp
  · exact .inl q
end
end
section
open PySem PyProof.Rows
variable {g : Gr} {sc csc : Scope} {r : Nat} {c : Bool}
noncomputable def compT (t : Tgt) (inv : AH → Prop) (tifs : TB) (telt : TE) (ℓ : Loc) : List V → List V → AH → (List V → AH → Prop) → (Addr → AH → Prop) → Prop
  | [], acc, σ, Q, _ => inv σ ∧ Q acc σ
  | x :: xs, acc, σ, Q, E => inv σ ∧ bindV t x ℓ.bare σ fun ℓ₁ => tifs ℓ₁ σ (fun b σ₁ => match b with
      | true => telt ℓ₁ σ₁ (fun v σ₂ => compT t inv tifs telt ℓ xs (acc ++ [v]) σ₂ Q E) E
      | false => compT t inv tifs telt ℓ xs acc σ₁ Q E) E
/-- the list that a comprehension makes, before anybody holds it -/
noncomputable def tComp (t : Tgt) (ti : TI) (tifs : TB) (telt : TE) : Loc → AH → (List V → AH → Prop) → (Addr → AH → Prop) → Prop := fun ℓ σ Q E =>
  ti ℓ σ (fun items inv tup σ₁ => (tup = true → t.isTup = true) ∧ compT t inv tifs telt ℓ items [] σ₁ Q E) E
/-- the tests of a clause -/
structure SndT (g : Gr) (sc : Scope) (r : Nat) (c : Bool) (ifs : List Expr) (t : TB) : Prop where
  run : ∀ A env s ℓ σ Q E, Cx g sc r c A env s.heap σ ℓ → t ℓ σ Q E →
  wpAny (model g.prog g.w) A (forIn ifs true fun c r => if r = true then do let ok ← isTrue c env (eval c env); pure (ForInStep.yield ok) else pure (ForInStep.yield r)) (PostB g s σ Q) (PostX g A s σ E) s
theorem sndT_nil : SndT g sc r c [] (tConstB true) := .mk fun A env s ℓ σ Q E X h => wpAny_tests_nil (.here rfl X.rel h)
theorem sndT_one {e : Expr} {t : TB} (h1 : SndB g sc r c e t) : SndT g sc r c [e] t := .mk fun A env s ℓ σ Q E X h => wpAny_tests_one (h1.run A env s ℓ σ Q E X h)
theorem compLoop_own {prog : Program} {w : World} {A : Around} {R : Result → Shared → Prop} {s : Shared} {elt target iter : Expr} {ifs : List Expr} {scope : Scope} {pos : Pos} {it acc : Value} {env : Env} (I : Nat → Shared → Prop)
    (turn : ∀ n s, I n s → wpAny (model prog w) A (pyNext it) (fun r s₁ => match r with
      | none => R (.ok .next) s₁
      | some v => wpAny (model prog w) A (letOwnedTupleGo target it v) (fun _ s₁ => wpAny (model prog w) A (assign target env v) (fun _ s₂ =>
          wpAny (model prog w) A (forIn ifs true fun c r => if r = true then do let ok ← isTrue c env (eval c env); pure (ForInStep.yield ok) else pure (ForInStep.yield r)) (fun ok s₃ =>
            if ok = true then wpAny (model prog w) A (eval elt env) (fun x s₄ =>
              wpAny (model prog w) A (call (.builtin "list.append") [acc, x]) (fun _ s₅ => ∃ m, m < n ∧ I m s₅) (notedBy (model prog w) A env fun e s' => R (.error e) s') s₄) (notedBy (model prog w) A env fun e s' => R (.error e) s') s₃
            else ∃ m, m < n ∧ I m s₃) (notedBy (model prog w) A env fun e s' => R (.error e) s') s₂) (notedBy (model prog w) A env fun e s' => R (.error e) s') s₁) (notedBy (model prog w) A env fun e s' => R (.error e) s') s₁) (notedBy (model prog w) A env fun e s' => R (.error e) s') s)
    (n : Nat) (h : I n s) :
    codeAny (model prog w) A (.compLoop (.ListComp elt [⟨target, iter, ifs, 0⟩] scope pos) 0 it acc env) R s := by
  refine codeAny_loop rfl I (fun n s hI => ?_) n h
  show wpAny _ A ((compTurn (.ListComp elt [⟨target, iter, ifs, 0⟩] scope pos) 0 it acc env).onRaise (fun x => do noteFrame x env; theTreesLotGoes x)) _ _ s
  refine wpAny_noted ?_
  rw [compTurn_list]
  refine wpAny_bind (wpAny_standAt (wpAny_bind (wpAny_mono (turn n s hI) (fun r s₁ h₁ => ?_) fun _ _ h' => h')))
  cases r with
  | none => exact wpAny_pure h₁
  | some v =>
    refine wpAny_bind (wpAny_mono h₁ (fun _ s₁ h₁ => ?_) fun _ _ h' => h')
    refine wpAny_bind (wpAny_mono h₁ (fun _ s₂ h₂ => wpAny_bind (wpAny_mono h₂ (fun ok s₃ h₃ => ?_) fun _ _ h' => h')) fun _ _ h' => h')
    cases ok with
    | false => exact wpAny_pure ⟨rfl, h₃⟩
    | true =>
      exact wpAny_bind (wpAny_bind (wpAny_mono h₃ (fun x s₄ h₄ => wpAny_bind (wpAny_mono h₄ (fun _ s₅ h₅ => wpAny_pure (wpAny_pure ⟨rfl, h₅⟩)) fun _ _ h' => h')) fun _ _ h' => h'))
noncomputable def Tgt.names : Tgt → List String
  | .name n => [n]
  | .tup ns => ns
/-- the block's own names are the target's; checked by computation -/
noncomputable def locOk (csc : Scope) (t : Tgt) : Bool := csc.names.all fun x => x.2 != .local || x.1 == Str.ofString ".0" || t.names.any fun n => x.1 == Str.ofString n
/-- what the block sees of the names outside -/
noncomputable def Loc.outer (csc : Scope) (ℓ : Loc) : Loc := fun n => if csc.names.lookup (Str.ofString n) = some .local then none else ℓ n
theorem setAll_sub : ∀ {ns : List String} {vs : List V} {ℓa ℓb : Loc}, vs.length = ns.length → (∀ n v, n ∉ ns → ℓa n = some v → ℓb n = some v) → ∀ n v, ℓa.setAll ns vs n = some v → ℓb.setAll ns vs n = some v
  | [], vs, ℓa, ℓb, hl, h, n, v, e => by
    cases vs with
    | nil => exact h n v (by simp) e
    | cons _ _ => simp at hl
  | m :: ns, [], ℓa, ℓb, hl, h, n, v, e => by simp at hl
  | m :: ns, x :: vs, ℓa, ℓb, hl, h, n, v, e => by
    refine setAll_sub (ns := ns) (vs := vs) (ℓa := ℓa.set m x) (ℓb := ℓb.set m x) (by simpa using hl) (fun k u hk q => ?_) n v e
    rw [Loc.set_at] at q ⊢
    split
    · rename_i z; rw [if_pos z] at q; exact q
    · rename_i z; rw [if_neg z] at q; exact h k u (by simp [z, hk]) q
theorem bind_outer {csc : Scope} {t : Tgt} (lk : locOk csc t = true) {x : V} {ℓ : Loc} {σ : AH} {P : Loc → Prop} (h : bindV t x ℓ.bare σ P) : bindV t x (ℓ.outer csc) σ fun ℓ' => ∃ ℓ'', (∀ n v, ℓ'' n = some v → ℓ' n = some v) ∧ P ℓ'' := by
  have sub : ∀ n v, n ∉ t.names → ℓ.bare n = some v → ℓ.outer csc n = some v := fun n v hn e => by
    rw [Loc.bare_at] at e
    split at e
    · cases e
    · rename_i z
      unfold Loc.outer
      rw [if_neg ?_]; exact e
      intro q
      have := List.all_eq_true.mp lk _ (mem_of_lookup q)
      simp only [bne_self_eq_false, Bool.false_or, Bool.or_eq_true, List.any_eq_true] at this
      rcases this with w | ⟨m, hm, w⟩
      · exact z (ofString_inj (eq_of_beq w))
      · exact hn (ofString_inj (eq_of_beq w) ▸ hm)
  cases t with
  | name m =>
    refine ⟨_, fun n v e => ?_, h⟩
    rw [Loc.set_at] at e ⊢
    split
    · rename_i z; rw [if_pos z] at e; exact e
    · rename_i z; rw [if_neg z] at e; exact sub n v (by simp [Tgt.names, z]) e
  | tup ns =>
    simp only [bindV] at h ⊢
    split at h
    · rename_i vs e
      exact ⟨h.1, _, setAll_sub h.1 sub, h.2⟩
    · exact h.elim
theorem Ext.absorb {W : Addr → Prop} {h0 h h' : Heap} {σ0 σ σ' : AH} (x : Ext No h0 σ0 h σ) (y : Ext W h σ h' σ') (hw : ∀ a, W a → h0.get? a = none) : Ext No h0 σ0 h' σ' := by
  refine ⟨fun a o e n nw => ?_, fun a o e => ?_, fun a q => ?_⟩
  · exact (x.keep a o e n nw).then fun o' e' => y.keep a o' e' (x.off e n) fun w => by rw [hw a w] at e; cases e
  · obtain ⟨o', e'⟩ := x.pres a o e; exact y.pres a o' e'
  · rcases y.dom a q with z | z
    · exact x.dom a z
    · cases e : h0.get? a with
      | none => exact .inr rfl
      | some o => obtain ⟨o', e'⟩ := x.pres a o e; rw [e'] at z; cases z
/-- an exception in the block of a comprehension -/
inductive CompX (g : Gr) (A : Around) (s : Shared) (σ : AH) (E : Addr → AH → Prop) (C : Addr) (e : Value) (s' : Shared) : Prop
  | mk (X : Addr) (σ' : AH) (h1 : XAt g false s.heap s'.heap e X σ') (h2 : Rel g s'.heap σ') (h3 : Ext No s.heap σ s'.heap σ') (h4 : Same s s') (h5 : E X σ') (m : Str → Option Value) (hn : s'.heap.Ns C m) (oC : σ' C = none) : CompX g A s σ E C e s'
theorem PostX.comp {A : Around} {s s₃ s' : Shared} {σ σ₃ : AH} {E : Addr → AH → Prop} {C : Addr} {e : Value} {cenv : Env} {ℓ : Loc} (p : PostX g A s₃ σ₃ E e s') (L : LR g s₃.heap σ₃ cenv ℓ) (x : Ext No s.heap σ s₃.heap σ₃) (y : Same s s₃) (hc : cenv.locals = C := by rfl) : CompX g A s σ E C e s' := by
  obtain ⟨X, σ', h1, h2, h3, h4, h5⟩ := p
  obtain ⟨m, hn, _⟩ := L.ns
  have ho := L.off.1
  rw [hc] at hn ho
  obtain ⟨o, _, _, e', _⟩ := id hn
  exact ⟨X, σ', h1.back x.pres, h2, x.trans h3, y.trans h4, h5, m, ns_upTo hn fun o e => h3.keep C o e ho id, h3.off e' ho⟩
/-- what stands in the block of a comprehension -/
structure Blk (g : Gr) (csc : Scope) (cl : List (Str × Addr)) (env : Env) (s : Shared) (σ : AH) (fp : Addr → Prop) (St : Nat → Heap → Prop) (D C : Addr) (k : Nat) (acc : List V) (ℓ' : Loc) (s' : Shared) (σ' : AH) : Prop where
  st : St k s'.heap
  dl : ∃ vs n, s'.heap.get? D = some { cls := .type "list", data := .seq vs n } ∧ VRs g s'.heap acc vs.toList
  loc : LR g s'.heap σ' (compEnvC csc cl C env) ℓ'
  rel : Rel g s'.heap σ'
  ext : Ext No s.heap σ s'.heap σ'
  same : Same s s'
  off : ∀ a, fp a → σ' a = none
  offD : σ' D = none
section
variable {A : Around} {env : Env} {s : Shared} {σ : AH} {ℓ : Loc} {cl : List (Str × Addr)} {items : List V} {inv : AH → Prop} {I : Addr} {fp : Addr → Prop} {St : Nat → Heap → Prop} {tup : Bool} {D C : Addr}
theorem comp_core {s₂ : Shared} {σ₁ : AH} {elt target iter : Expr} {ifs : List Expr} {pos : Pos} {t : Tgt} {tifs : TB} {telt : TE} {Q : List V → AH → Prop} {E : Addr → AH → Prop} {EE : Value → Shared → Prop} {RR : Value → Addr → Result → Shared → Prop}
    (X : Cx g sc r true A env s.heap σ ℓ) (ok : scopeOk sc csc = true) (IT : Iters g items inv I fp St tup) (hst : St 0 s₂.heap) (hR : Rel g s₂.heap σ₁) (hx : Ext No s.heap σ s₂.heap σ₁) (hsm : Same s s₂) (hfp : ∀ a, fp a → s.heap.get? a = none ∧ σ₁ a = none)
    (hft : Fits items.length) (htt : tup = true → t.isTup = true) (ht : TgtIs csc target t) (lk : locOk csc t = true) (h1 : SndT g csc r true ifs tifs) (h2 : SndE g csc r true elt telt)
    (hcl : ∀ n a, cl.lookup n = some a → env.cells.lookup n = some a) (hcl' : ∀ n, (n, NameKind.free) ∈ csc.names → cl.lookup n = env.cells.lookup n)
    (h : compT t inv tifs telt ℓ items [] σ₁ Q E)
    (hRR : ∀ D C s' σ' xs, s.heap.get? D = none → s.heap.get? C = none → D ≠ C → (∃ m, s'.heap.Ns C m) → OR g s'.heap D (.list xs) → Rel g s'.heap σ' → Ext No s.heap σ s'.heap σ' → Same s s' → σ' D = none → σ' C = none → Q xs σ' → RR (.ref D) C (.ok .next) s')
    (hEE : ∀ D C e s', s.heap.get? C = none → CompX g A s σ E C e s' → notedBy (model g.prog g.w) A (compEnvC csc cl C env) (fun e s' => RR (.ref D) C (.error e) s') e s') :
    wpAny (model g.prog g.w) A (newList []) (fun acc s₃ => wpAny (model g.prog g.w) A (newFunctionEnv csc env.globals cl [] env.qual none .none (some env)) (fun cenv s₄ =>
      codeAny (model g.prog g.w) A (.compStart (.ListComp elt [⟨target, iter, ifs, 0⟩] csc pos) 0 (.ref I) acc { cenv with scope := relabel csc env }) (RR acc cenv.locals) s₄) EE s₃) EE s₂ := by
  have ok' := ok
  simp only [scopeOk, Bool.and_eq_true] at ok'
  obtain ⟨⟨⟨ok1, ok2⟩, ok3⟩, ok4⟩ := ok'
  have hcell : ∀ y ∈ csc.names, y.2 ≠ .cell := fun y hy e => by
    have := List.all_eq_true.mp ok3 _ hy
    rw [e] at this; simp at this
  refine wpAny_newObj_type (wpAny_newFunctionEnv hcell (by intro y hy; simp at hy) (fun h₁ hns₁ hsb₁ => ?_) (eq_of_beq ok1))
  dsimp only at hns₁ hsb₁ ⊢
  generalize hH2 : s₂.heap.push { cls := .type "list", dict := none, data := .seq ([] : List Value).toArray } = H2 at hns₁ hsb₁ ⊢
  generalize hDd : s₂.heap.objs.size = D at *
  generalize hCd : H2.objs.size = C at *
  have hCD : C = D + 1 := by rw [← hCd, ← hH2, Heap.size_push, hDd]
  have hDC : D ≠ C := by omega
  have lt2 : ∀ b o, s₂.heap.get? b = some o → b < D := fun b o e => by rw [← hDd]; exact Heap.lt_size e
  have old : ∀ b o, s₂.heap.get? b = some o → h₁.get? b = some o := fun b o e => hsb₁.extBut b o (by rw [hCD]; exact Nat.ne_of_lt (Nat.lt_succ_of_lt (lt2 b o e))) (Heap.get?_push_of_some _ (hH2 ▸ Heap.get?_push_of_some _ e))
  have hacc : h₁.get? D = some { cls := .type "list", data := .seq #[] } := hsb₁.extBut _ _ hDC (Heap.get?_push_of_some _ (hH2 ▸ (hDd ▸ Heap.get?_push_size _ rfl)))
  have fresh2 : ∀ a, D ≤ a → s₂.heap.get? a = none := fun a ha => by
    cases e : s₂.heap.get? a with
    | none => rfl
    | some o' => exact absurd (lt2 a o' e) (Nat.not_lt.mpr ha)
  have fresh : ∀ a, D ≤ a → s.heap.get? a = none := fun a ha => by
    cases e : s.heap.get? a with
    | none => rfl
    | some o => obtain ⟨o', e'⟩ := hx.pres a o e; rw [fresh2 a ha] at e'; cases e'
  have hDs := fresh D (Nat.le_refl _)
  have hCs := fresh C (by omega)
  have b0 : ∀ a, s.heap.get? a = none → g.b0.get? a = none := fun a e => by
    cases q : g.b0.get? a with
    | none => rfl
    | some o => rw [X.rel.base a o q] at e; cases e
  have hhid : ∀ a, s.heap.get? a = none → ¬ g.hid a := fun a e w => by
    obtain ⟨o, e'⟩ := X.rel.hid a w; rw [e] at e'; cases e'
  have fpD : ∀ a, fp a → a < D := fun a q => by obtain ⟨o, e, _⟩ := IT.flds 0 _ a hst q; exact lt2 a o e
  have cellsIn : ∀ x a, env.cells.lookup x = some a → ∃ o, s.heap.get? a = some o := fun x a e => let ⟨o, u, h1, _⟩ := X.loc.cell x a e; ⟨o, h1⟩
  have ownC : ∀ a, Own (compEnvC csc cl C env) a → a = C ∨ ∃ o, s.heap.get? a = some o := fun a w => by
    rcases w with w | ⟨x, e⟩
    · exact .inl w
    · exact .inr (cellsIn x a (hcl x a e))
  have fpOwn : ∀ a, fp a → ¬ Own (compEnvC csc cl C env) a := fun a q w => by
    rcases ownC a w with z | ⟨o, z⟩
    · have q' := fpD a q; rw [z, hCD] at q'; exact absurd q' (Nat.not_lt.mpr (Nat.le_succ D))
    · rw [(hfp a q).1] at z; cases z
  have DOwn : ¬ Own (compEnvC csc cl C env) D := fun w => by
    rcases ownC D w with z | ⟨o, z⟩
    · exact hDC z
    · rw [hDs] at z; cases z
  have writes : Writes (· = C) csc (compEnvC csc cl C env) := ⟨fun a q => .inl q, fun n k a hm q1 q2 hk => by
    cases k with
    | «local» => exact q1 rfl
    | cell => exact absurd rfl (hcell _ hm)
    | _ => cases hk⟩
  have target_tup : tup = true → ∃ es m p, target = .Tuple es m p := fun q => by
    have := htt q
    cases ht with
    | name _ _ => cases this
    | tup _ => exact ⟨_, _, _, rfl⟩
  have XC : ∀ {k acc ℓ' s' σ'}, Blk g csc cl env s σ fp St D C k acc ℓ' s' σ' → Cx g csc r true A (compEnvC csc cl C env) s'.heap σ' ℓ' := fun {k acc ℓ' s' σ'} b =>
    ⟨X.gok, comp_env X ok, b.loc, X.fr.step b.ext (fun _ _ _ _ n => n.elim), X.room, b.rel⟩
  -- a step that keeps what is not owned
  have stepE : ∀ {k acc ℓ' s' σ' s'' σ''}, Blk g csc cl env s σ fp St D C k acc ℓ' s' σ' → Ext No s'.heap σ' s''.heap σ'' → Rel g s''.heap σ'' → Same s' s'' → Blk g csc cl env s σ fp St D C k acc ℓ' s'' σ'' := fun {k acc ℓ' s' σ' s'' σ''} b x R hs => by
    have tk : TupsKept g s'.heap s''.heap := x.tuples b.rel noSeq_no
    obtain ⟨vs, n, e, hv⟩ := b.dl
    refine ⟨IT.stab _ _ _ b.st tk fun a o q e => ?_, ⟨vs, n, (x.keep D _ e b.offD id).exact (fun _ _ => Data.noConfusion), VRs.mono tk hv⟩, b.loc.step b.rel x, R, b.ext.trans x, b.same.trans hs, fun a q => ?_, x.off e b.offD⟩
    · refine (x.keep a o e (b.off a q) id).exact fun es m d => ?_
      obtain ⟨o', e', z⟩ := IT.flds _ _ a b.st q
      rw [e] at e'; cases e'
      rcases z with z | ⟨us, z⟩
      · exact hhid a (hfp a q).1 z.1
      · rw [d] at z; cases z
    · obtain ⟨o', e', z⟩ := IT.flds _ _ a b.st q
      exact x.off e' (b.off a q)
  have loop : ∀ s₃ : Shared, s₃ = { s₂ with heap := h₁, toks := s₂.toks + ([] : List (Str × Value)).length } →
      codeAny (model g.prog g.w) A (.compLoop (.ListComp elt [⟨target, iter, ifs, 0⟩] csc pos) 0 (.ref I) (.ref D) (compEnvC csc cl C env)) (RR (.ref D) C) s₃ := by
    rintro s₃ rfl
    have B0 : Blk g csc cl env s σ fp St D C 0 [] (ℓ.outer csc) { s₂ with heap := h₁, toks := s₂.toks + ([] : List (Str × Value)).length } σ₁ := by
      have k1 : ∀ a o, s₂.heap.get? a = some o → h₁.get? a = some o := old
      have X1 : Cx g sc r true A env h₁ σ₁ ℓ := X.step (hR.keeps k1) (hx.trans (.keeps k1))
      refine ⟨IT.stab _ _ _ hst (fun a o _ _ _ e _ _ => .of (k1 a o e)) fun a o _ e => k1 a o e, ⟨#[], 0, hacc, VRs_nil⟩, ?_, hR.keeps k1, hx.trans (.keeps k1), hsm.trans ⟨rfl, rfl, rfl⟩, fun a q => (hfp a q).2, hR.fresh (fresh2 D (Nat.le_refl _))⟩
      refine comp_loc X1 ok hcl hcl' hns₁ (hR.fresh (fresh2 C (by omega))) (b0 C hCs) (fun x a e z => ?_) (fun n v e q => ?_) (fun n v e q => ?_)
      · obtain ⟨o, e'⟩ := cellsIn x a e; rw [z, hCs] at e'; cases e'
      · unfold Loc.outer at e; rw [if_pos q] at e; cases e
      · unfold Loc.outer at e; split at e
        · cases e
        · exact e
    refine compLoop_own (fun n s' => ∃ k acc σ', k ≤ items.length ∧ n = items.length - k ∧ Blk g csc cl env s σ fp St D C k acc (ℓ.outer csc) s' σ' ∧ acc.length ≤ k ∧ compT t inv tifs telt ℓ (items.drop k) acc σ' Q E) ?_ items.length
      ⟨0, [], σ₁, Nat.zero_le _, rfl, B0, Nat.le_refl _, by simpa using h⟩
    rintro n s' ⟨k, acc, σ', hk, rfl, B, hal, hl⟩
    have W : Walked g fp s'.heap σ' := ⟨B.off, fun a q => IT.flds k _ a B.st q, fun a q => b0 a (hfp a q).1⟩
    have hne : ∀ a, fp a → a ≠ D := fun a q => Nat.ne_of_lt (fpD a q)
    have extK : ∀ {s'' : Shared}, KeptBut fp s'.heap s''.heap → Ext No s.heap σ s''.heap σ' := fun {s''} kb => by
      refine ⟨fun a o e n nw => ?_, fun a o e => ?_, B.ext.dom⟩
      · refine (B.ext.keep a o e n nw).then fun o' e' => .of (kb a o' (fun q => ?_) e')
        rw [(hfp a q).1] at e; cases e
      · obtain ⟨o', e'⟩ := B.ext.pres a o e
        refine ⟨o', kb a o' (fun q => ?_) e'⟩
        rw [(hfp a q).1] at e; cases e
    obtain ⟨vs, nn, eD, hvs⟩ := B.dl
    rcases Nat.lt_or_ge k items.length with hlt | hge
    · have hd : items.drop k = items[k] :: items.drop (k + 1) := List.drop_eq_getElem_cons hlt
      rw [hd] at hl
      obtain ⟨hinv, hbind⟩ := hl
      refine wpAny_mono (IT.item k items[k] A (fun e s' => False) s' σ' target (fun v s₁ => ∃ (kb : KeptBut fp s'.heap s₁.heap), Same s' s₁ ∧ St (k + 1) s₁.heap ∧ VR g s₁.heap items[k] v) (by simp [hlt]) B.st B.rel hinv B.off target_tup
        fun v s₁ a b d e => ⟨a, b, d, e⟩) (fun rr s₁ p => ?_) fun _ _ p => p.elim
      cases rr with
      | none => exact p.elim
      | some v =>
        refine wpAny_mono p (fun _ s₂ p => ?_) fun _ _ p => p.elim
        obtain ⟨kb, hs2, hst2, hv⟩ := p
        have B2 : Blk g csc cl env s σ fp St D C (k + 1) acc (ℓ.outer csc) s₂ σ' :=
          ⟨hst2, ⟨vs, nn, kb D _ (fun q => hne D q rfl) eD, VRs.mono (W.tups kb) hvs⟩, W.loc B.loc kb fpOwn, W.rel B.rel kb fun a q w => absurd q (hhid a (hfp a w).1), extK kb, B.same.trans hs2, B.off, B.offD⟩
        refine wpAny_mono (assign_ok writes (E := fun _ _ => False) (XC B2) ht hv (bind_outer lk hbind)) (fun _ s₃ p => ?_) fun _ _ p => p.elim
        obtain ⟨ℓ₃, hL3, hR3, hx3, hs3, ℓ₄, hsub, hbody⟩ := p
        have noseq : NoSeq (· = C) s₂.heap := fun a o w => B2.loc.noSeq a o (.inl w)
        have tk3 : TupsKept g s₂.heap s₃.heap := hx3.tuples B2.rel noseq
        have B3 : Blk g csc cl env s σ fp St D C (k + 1) acc ℓ₄ s₃ σ' := by
          obtain ⟨vs2, nn2, eD2, hvs2⟩ := B2.dl
          refine ⟨IT.stab _ _ _ hst2 tk3 fun a o q e => ?_, ⟨vs2, nn2, (hx3.keep D _ eD2 B2.offD hDC).exact (fun _ _ => Data.noConfusion), VRs.mono tk3 hvs2⟩, hL3.forget hsub, hR3, B2.ext.absorb hx3 (fun a w => w ▸ hCs), B2.same.trans hs3, B2.off, B2.offD⟩
          refine (hx3.keep a o e (B2.off a q) fun w => fpOwn a q (.inl w)).exact fun es m d => ?_
          obtain ⟨o', e', z⟩ := IT.flds _ _ a hst2 q
          rw [e] at e'; cases e'
          rcases z with z | ⟨us, z⟩
          · exact hhid a (hfp a q).1 z.1
          · rw [d] at z; cases z
        -- what is left of a turn
        have again : ∀ {s₅ : Shared} {σ₅ : AH} {acc' : List V}, Blk g csc cl env s σ fp St D C (k + 1) acc' ℓ₄ s₅ σ₅ → acc'.length ≤ k + 1 → compT t inv tifs telt ℓ (items.drop (k + 1)) acc' σ₅ Q E →
            ∃ m, m < items.length - k ∧ ∃ k' acc σ', k' ≤ items.length ∧ m = items.length - k' ∧ Blk g csc cl env s σ fp St D C k' acc (ℓ.outer csc) s₅ σ' ∧ acc.length ≤ k' ∧ compT t inv tifs telt ℓ (items.drop k') acc σ' Q E := fun {s₅ σ₅ acc'} b hle hc => by
          refine ⟨items.length - (k + 1), by omega, k + 1, acc', σ₅, hlt, rfl, ⟨b.st, b.dl, ?_, b.rel, b.ext, b.same, b.off, b.offD⟩, hle, hc⟩
          have X5 : Cx g sc r true A env s₅.heap σ₅ ℓ := X.step b.rel b.ext
          obtain ⟨m, hn5, _⟩ := b.loc.ns
          refine comp_loc X5 ok hcl hcl' hn5 b.loc.off.1 (b0 C hCs) (fun x a e z => ?_) (fun n v e q => ?_) (fun n v e q => ?_)
          · obtain ⟨o, e'⟩ := cellsIn x a e; have z' : a = C := z; rw [z', hCs] at e'; cases e'
          · unfold Loc.outer at e; rw [if_pos q] at e; cases e
          · unfold Loc.outer at e; split at e
            · cases e
            · exact e
        refine wpAny_mono (h1.run A _ s₃ ℓ₄ σ' _ E (XC B3) hbody) (fun b s₄ p => ?_) fun e s₄ p => hEE D C e s₄ hCs (p.comp B3.loc B3.ext B3.same)
        obtain ⟨b', σ₄, rfl, hR4, hx4, hs4, hq⟩ := p
        have B4 := stepE B3 hx4 hR4 hs4
        cases b' with
        | false => exact again B4 (by omega) hq
        | true =>
          rw [if_pos rfl]
          refine wpAny_mono (h2.run A _ s₄ ℓ₄ σ₄ _ E (XC B4) hq) (fun y s₅ p => ?_) fun e s₅ p => hEE D C e s₅ hCs (p.comp B4.loc B4.ext B4.same)
          refine Post.elim p fun y' σ₅ hy hR5 hx5 hs5 hq => ?_
          have B5 := stepE B4 hx5 hR5 hs5
          obtain ⟨vs5, nn5, eD5, hvs5⟩ := B5.dl
          have hsz : vs5.size ≤ sizeLine := by
            have := VRs_length hvs5
            have h2 := hft.line
            simp at this; omega
          refine wpAny_list_append_plain ⟨nn5, eD5⟩ (fun h' hpl sb => ?_) hsz
          obtain ⟨n6, eD6⟩ := hpl
          have tk6 : TupsKept g s₅.heap h' := fun a o us m _ e cc d => by
            refine .of (sb.extBut a o (fun z => ?_) e)
            subst z; rw [eD5] at e; cases e; exact absurd cc (by simp)
          have pD : ∃ o, h'.get? D = some o := ⟨_, eD6⟩
          have x6 : Ext (· = D) s₅.heap σ₅ h' σ₅ := ⟨fun a o e _ nw => .of (sb.extBut a o nw e), fun a o e => by
            by_cases z : a = D
            · rw [z]; exact pD
            · exact ⟨o, sb.extBut a o z e⟩, fun a q => .inl q⟩
          have R6 : Rel g h' σ₅ := by
            refine ⟨fun a ha => ?_, fun a o e => sb.extBut a o (fun z => ?_) (hR5.base a o e), fun a ao e => ⟨(hR5.own a ao e).1, OR_mono tk6 (fun o e' => sb.extBut a o (fun z => ?_) e') (hR5.own a ao e).2⟩⟩
            · obtain ⟨o, e⟩ := hR5.hid a ha
              exact x6.pres a o e
            · rw [z, b0 D hDs] at e; cases e
            · rw [z, B5.offD] at e; cases e
          have L6 : LR g h' σ₅ (compEnvC csc cl C env) ℓ₄ := by
            have kv : ∀ {v : V} {u : Value}, VR g s₅.heap v u → VR g h' v u := VR.mono tk6
            obtain ⟨m, hn, hm⟩ := B5.loc.ns
            have hCD' : (compEnvC csc cl C env).locals ≠ D := fun z => hDC z.symm
            refine ⟨⟨m, ns_upTo hn fun o e => .of (sb.extBut _ o hCD' e), fun y v a b => let ⟨u, e, f⟩ := hm y v a b; ⟨u, e, kv f⟩⟩, fun y c e => ?_, fun y v a kk => ?_, B5.loc.off, B5.loc.offc, B5.loc.apart, B5.loc.has⟩
            · obtain ⟨o, u, e1, e2⟩ := B5.loc.cell y c e
              exact ⟨o, u, sb.extBut c o (fun z => DOwn (z ▸ .inr ⟨y, e⟩)) e1, e2⟩
            · obtain ⟨c, u, e, hc, hv⟩ := B5.loc.cells y v a kk
              exact ⟨c, u, e, cell_upTo hc fun o z => .of (sb.extBut _ o (fun z => DOwn (z ▸ .inr ⟨_, e⟩)) z), kv hv⟩
          have hvs6 : VRs g h' (acc ++ [y']) (vs5.push y).toList := by
            rw [Array.toList_push]
            exact VRs_snoc (VRs.mono tk6 hvs5) (VR.mono tk6 hy)
          refine again (s₅ := { s₅ with heap := h' }) ⟨IT.stab _ _ _ B5.st tk6 fun a o q e => sb.extBut a o (hne a q) e, ⟨_, n6, eD6, hvs6⟩, L6, R6, B5.ext.absorb x6 (fun a w => w ▸ hDs), B5.same.trans ⟨rfl, rfl, rfl⟩, B5.off, B5.offD⟩ (by simp; omega) hq
    · have hd : items.drop k = [] := List.drop_eq_nil_of_le hge
      rw [hd] at hl
      refine IT.last k A _ s' σ' _ hge (X.room.calm rfl) B.st B.rel hl.1 B.off fun s'' kb hs'' => ?_
      have hL := W.loc B.loc kb fpOwn
      obtain ⟨m, hn, _⟩ := hL.ns
      exact hRR D C s'' σ' acc hDs hCs hDC ⟨m, hn⟩ ⟨hft.le (by omega), vs, nn, kb D _ (fun q => hne D q rfl) eD, VRs.mono (W.tups kb) hvs⟩ (W.rel B.rel kb fun a q w => absurd q (hhid a (hfp a w).1)) (extK kb) (B.same.trans hs'') B.offD hL.off.1 hl.2
  exact codeAny_compStart_list (loop _ rfl) (IT.self 0 _ _ _ _ (IT.stab _ _ _ hst (fun a o _ _ _ e _ _ => .of (old a o e)) fun a o _ e => old a o e) (loop _ rfl))
end
/-! ## the comprehension as an expression, and bound to a name -/
noncomputable def tListComp (tc : Loc → AH → (List V → AH → Prop) → (Addr → AH → Prop) → Prop) : TE := fun ℓ σ Q E => tc ℓ σ (fun xs σ₁ => ∀ a, σ₁ a = none → Q (.ref a) (σ₁.set a (.list xs))) E
theorem sameBut_rel {C : Addr} {h h' : Heap} {σ : AH} (R : Rel g h σ) (hn : ∃ m, h.Ns C m) (sb : Heap.SameBut C h h') (hC : σ C = none) (hb : g.b0.get? C = none) (hh : ¬ g.hid C) : Rel g h' σ ∧ TupsKept g h h' := by
  obtain ⟨m, oC, es, ep, eC, dC, _⟩ := hn
  have tk : TupsKept g h h' := fun a o us n _ e _ d => by
    refine .of (sb.extBut a o (fun z => ?_) e)
    subst z; rw [eC] at e; cases e; rw [dC] at d; cases d
  refine ⟨⟨fun a ha => ?_, fun a o e => sb.extBut a o (fun z => ?_) (R.base a o e), fun a ao e => ⟨(R.own a ao e).1, OR_mono tk (fun o e' => sb.extBut a o (fun z => ?_) e') (R.own a ao e).2⟩⟩, tk⟩
  · obtain ⟨o, e⟩ := R.hid a ha
    exact ⟨o, sb.extBut a o (fun z => hh (z ▸ ha)) e⟩
  · rw [z, hb] at e; cases e
  · rw [z, hC] at e; cases e
/-- an exception leaves a comprehension -/
theorem comp_err {A : Around} {env : Env} {s s' : Shared} {σ : AH} {ℓ : Loc} {cl : List (Str × Addr)} {C : Addr} {E : Addr → AH → Prop} {e : Value} {EE : Value → Shared → Prop} {use : Option (Value → Sem Unit)} {Q : Value → Shared → Prop} {acc : Value} (X : Cx g sc r c A env s.heap σ ℓ) (hC : s.heap.get? C = none) (p : CompX g A s σ E C e s') (k : ∀ e s', PostX g A s σ E e s' → EE e s') :
    notedBy (model g.prog g.w) A (compEnvC csc cl C env) (fun e s' => compPost (model g.prog g.w) A EE use Q acc C (.error e) s') e s' := by
  obtain ⟨D, σ', h1, h2, h3, h4, h5, m, hn, oC⟩ := p
  have b0 : g.b0.get? C = none := by
    cases q : g.b0.get? C with
    | none => rfl
    | some o => rw [X.rel.base C o q] at hC; cases hC
  have hh : ¬ g.hid C := fun w => by obtain ⟨o, e'⟩ := X.rel.hid C w; rw [hC] at e'; cases e'
  have F : FrOk g A (compEnvC csc cl C env) s'.heap σ' := X.fr.step h3 (fun _ _ _ _ n => n.elim)
  refine note_ok F h2 h3.pres h1 fun s₁ t x hs => ?_
  have hn₁ := t.ns hn
  refine ⟨m, hn₁, fun h' sb cenv _ => ?_⟩
  obtain ⟨R2, tk⟩ := sameBut_rel (t.rel h2) ⟨m, hn₁⟩ sb oC b0 hh
  obtain ⟨oc, es, ep, ec, dc, _⟩ := hn₁
  have nf : ∀ a o vs, s₁.heap.get? a = some o → o.data = .fields vs → h'.get? a = some o := fun a o vs e d => sb.extBut a o (fun z => by subst z; rw [ec] at e; cases e; rw [d] at dc; cases dc) e
  have x' : XAt g true s.heap h' e D σ' := by
    obtain ⟨a, o, vs, ea, x0, xb, xs, xo, xc, xn, xd, xz, xt⟩ := x
    exact ⟨a, o, vs, ea, x0, xb, xs, nf a o _ xo xd, xc, xn, xd, xz, xt.imp id fun ⟨T, o, ts, et, ne, t0, tb, ts0, ho, hd, hs⟩ => ⟨T, o, ts, et, ne, t0, tb, ts0, nf T o _ ho hd, hd, hs⟩⟩
  have xa := t.ext h3
  have x2 : Ext No s.heap σ h' σ' := ⟨fun a o e n w => (xa.keep a o e n w).then fun o' e' => .of (sb.extBut a o' (fun z => by rw [z, hC] at e; cases e) e'), fun a o e => let ⟨o', e'⟩ := xa.pres a o e; ⟨o', sb.extBut a o' (fun z => by rw [z, hC] at e; cases e) e'⟩, xa.dom⟩
  exact pass_ok (s := { s₁ with heap := h' }) x' fun s₂ t2 y hs2 => k _ _ ⟨D, σ', y.weak, t2.rel R2, t2.ext x2, (h4.trans hs).trans (Same.trans ⟨rfl, rfl, rfl⟩ hs2), h5⟩
theorem hnames_of (ok : scopeOk sc csc = true) : ∀ x ∈ csc.names, x.2 = .local → csc.names.lookup x.1 = some .local := fun x hx e => by
  simp only [scopeOk, Bool.and_eq_true] at ok
  exact lookup_of_apart ok.1.1.2 (e ▸ hx)
theorem sndE_comp {elt target iter : Expr} {ifs : List Expr} {pos : Pos} {t : Tgt} {ti : TI} {tifs : TB} {telt : TE} (ok : scopeOk sc csc = true) (hi : SndI g sc r true iter ti) (ht : TgtIs csc target t) (lk : locOk csc t = true) (h1 : SndT g csc r true ifs tifs) (h2 : SndE g csc r true elt telt)
    (hf : ∀ env x, foldedSetIterable iter env x = pure x) : SndE g sc r true (.ListComp elt [⟨target, iter, ifs, 0⟩] csc pos) (tListComp (tComp t ti tifs telt)) := .mk fun A env s ℓ σ Q E X h => by
  obtain ⟨cl, hclos, hcl, hcl'⟩ := closureFor_ok (comp_cells X ok)
  have b0 : ∀ a, s.heap.get? a = none → g.b0.get? a = none := fun a e => by
    cases q : g.b0.get? a with
    | none => rfl
    | some o => rw [X.rel.base a o q] at e; cases e
  have hhid : ∀ a, s.heap.get? a = none → ¬ g.hid a := fun a e w => by
    obtain ⟨o, e'⟩ := X.rel.hid a w; rw [e] at e'; cases e'
  have hk : csc.kind = .function := by simp only [scopeOk, Bool.and_eq_true] at ok; exact eq_of_beq ok.1.1.1
  rw [eval_ListComp]
  refine wpAny_comprehension_free (use := none) rfl (hf env) hclos hk (hnames_of ok) (wpAny_mono (hi.run A env s ℓ σ _ _ X h) (fun x s₁ p => wpAny_mono p (fun it s₂ p => ?_) fun _ _ p => p) fun _ _ p => p)
  obtain ⟨items, inv, I, fp, St, tup, σ₁, rfl, IT, hst, hR, hx, hsm, hfp, hft, htt, hl⟩ := p
  refine comp_core (RR := fun acc C => compPost (model g.prog g.w) A (PostX g A s σ E) none (PostE g s σ Q) acc C) X ok IT hst hR hx hsm hfp hft htt ht lk h1 h2 hcl hcl' hl (fun D C s' σ' xs hD hC hDC hn ho hR' hx' hs' oD oC hq => ?_) fun D C e s' hC p => ?_
  · obtain ⟨m, hn⟩ := hn
    refine ⟨m, hn, fun h' sb => ?_⟩
    obtain ⟨R2, tk⟩ := sameBut_rel hR' ⟨m, hn⟩ sb oC (b0 C hC) (hhid C hC)
    have ho' : OR g h' D (.list xs) := OR_mono tk (fun o e => sb.extBut D o hDC e) ho
    refine ⟨.ref D, σ'.set D (.list xs), VR_ref.mpr rfl, R2.claim (b0 D hD) ho', ⟨fun a o e n w => (hx'.keep a o e n w).then fun o' e' => .of (sb.extBut a o' (fun z => ?_) e'), fun a o e => ?_, fun a q => ?_⟩, hs'.trans ⟨rfl, rfl, rfl⟩, hq D oD⟩
    · rw [z, hC] at e; cases e
    · obtain ⟨o', e'⟩ := hx'.pres a o e
      exact ⟨o', sb.extBut a o' (fun z => by rw [z, hC] at e; cases e) e'⟩
    · unfold AH.set at q
      by_cases z : a = D
      · rw [z]; exact .inr hD
      · rw [if_neg z] at q; exact hx'.dom a q
  · exact comp_err X hC p fun _ _ p => p
noncomputable def tAssignComp (n : String) (tc : Loc → AH → (List V → AH → Prop) → (Addr → AH → Prop) → Prop) : TS := fun ℓ σ Q E => tc ℓ σ (fun xs σ₁ => ∀ a, σ₁ a = none → Q .next (ℓ.set n (.ref a)) (σ₁.set a (.list xs))) fun C σ' => E C ℓ σ'
end
section
open PySem PyProof.Rows
variable {g : Gr} {sc csc : Scope} {r : Nat} {c : Bool}
theorem sndS_assignComp {n : String} {k : NameKind} {p' pos spos : Pos} {elt target iter : Expr} {ifs : List Expr} {t : Tgt} {ti : TI} {tifs : TB} {telt : TE} (hm : (Str.ofString n, k) ∈ sc.names) (hk : (k == .local || k == .cell) = true)
    (ok : scopeOk sc csc = true) (hi : SndI g sc r true iter ti) (ht : TgtIs csc target t) (lk : locOk csc t = true) (h1 : SndT g csc r true ifs tifs) (h2 : SndE g csc r true elt telt)
    (hf : ∀ env x, foldedSetIterable iter env x = pure x) : SndS g sc r true (.Assign [.Name (Str.ofString n) p'] (.ListComp elt [⟨target, iter, ifs, 0⟩] csc pos) spos) (tAssignComp n (tComp t ti tifs telt)) := .mk fun A env s ℓ σ Q E X h => by
  have hsw : ∃ b, swapsWith (.ListComp elt [⟨target, iter, ifs, 0⟩] csc pos) (some (.Name (Str.ofString n) p')) spos.line env = pure b := ⟨_, rfl⟩
  obtain ⟨b, hsw⟩ := hsw
  cases b with
  | false =>
    refine wpAny_Assign_Name (wpAny_mono ((sndE_comp (pos := pos) ok hi ht lk h1 h2 hf).run A env s ℓ σ (fun v σ' => Q .next (ℓ.set n v) σ') (fun C σ' => E C ℓ σ') X h) (fun v s₁ p => ?_) fun _ _ p => p.toS X) hsw
    refine Post.elim p fun x σ₁ hv hR hx hs hq => ?_
    exact store_ok (X.step hR hx) hm hk hv fun s' a _ _ w hL hR' hx' hs' => ⟨.next, _, σ₁, rfl, hL, hR', hx.own.trans (hx'.weaken fun b z => z ▸ w), hs.trans hs', hq⟩
  | true =>
    obtain ⟨cl, hclos, hcl, hcl'⟩ := closureFor_ok (comp_cells X ok)
    have b0 : ∀ a, s.heap.get? a = none → g.b0.get? a = none := fun a e => by
      cases q : g.b0.get? a with
      | none => rfl
      | some o => rw [X.rel.base a o q] at e; cases e
    have hhid : ∀ a, s.heap.get? a = none → ¬ g.hid a := fun a e w => by
      obtain ⟨o, e'⟩ := X.rel.hid a w; rw [e] at e'; cases e'
    have hkd : csc.kind = .function := by simp only [scopeOk, Bool.and_eq_true] at ok; exact eq_of_beq ok.1.1.1
    rw [exec_Assign_Name_used _ _ _ _ hsw]
    refine wpAny_bind (wpAny_standAt (wpAny_bind ?_))
    show wpAny _ A (do let _ ← comprehension (.ListComp elt [⟨target, iter, ifs, 0⟩] csc pos) csc env _ (newList []) false (eval iter env) (some (assign (.Name (Str.ofString n) p') env))) _ _ s
    refine wpAny_bind (wpAny_mono (wpAny_comprehension_free (use := some (assign (.Name (Str.ofString n) p') env)) (Q := fun _ s' => PostS g env s σ Q .next s') (E := PostXS g A env s σ E) rfl (hf env) hclos hkd (hnames_of ok)
      (wpAny_mono (hi.run A env s ℓ σ _ _ X h) (fun x s₁ p => wpAny_mono p (fun it s₂ p => ?_) fun _ _ p => p.toS X) fun _ _ p => p.toS X)) (fun _ s' hq => wpAny_pure (wpAny_pure hq)) fun _ _ e => e)
    obtain ⟨items, inv, I, fp, St, tup, σ₁, rfl, IT, hst, hR, hx, hsm, hfp, hft, htt, hl⟩ := p
    refine comp_core (RR := fun acc C => compPost (model g.prog g.w) A (PostXS g A env s σ E) (some (assign (.Name (Str.ofString n) p') env)) (fun _ s' => PostS g env s σ Q .next s') acc C) X ok IT hst hR hx hsm hfp hft htt ht lk h1 h2 hcl hcl' hl (fun D C s' σ' xs hD hC hDC hn ho hR' hx' hs' oD oC hq => ?_) fun D C e s' hC p => ?_
    · obtain ⟨m, hn⟩ := hn
      have R1 : Rel g s'.heap (σ'.set D (.list xs)) := hR'.claim (b0 D hD) ho
      have x1 : Ext No s.heap σ s'.heap (σ'.set D (.list xs)) := ⟨hx'.keep, hx'.pres, fun a q => by
        unfold AH.set at q
        by_cases z : a = D
        · rw [z]; exact .inr hD
        · rw [if_neg z] at q; exact hx'.dom a q⟩
      have X1 : Cx g sc r true A env s'.heap (σ'.set D (.list xs)) ℓ := X.step R1 x1
      have oC1 : (σ'.set D (.list xs)) C = none := by unfold AH.set; rw [if_neg (Ne.symm hDC)]; exact oC
      show wpAny _ A (assign (.Name (Str.ofString n) p') env (.ref D)) _ _ _
      refine wpAny_assign_Name (store_ok X1 hm hk (VR_ref.mpr rfl) fun s'' a _ _ w hL hR'' hx'' hs'' => ?_)
      have hCa : C ≠ a := fun z => by
        obtain ⟨o, e⟩ := Own.present X.loc w
        rw [← z, hC] at e; cases e
      have hn'' : s''.heap.Ns C m := ns_upTo hn fun o e => hx''.keep C o e oC1 hCa
      refine ⟨m, hn'', fun h' sb => ?_⟩
      obtain ⟨R2, tk⟩ := sameBut_rel hR'' ⟨m, hn''⟩ sb oC1 (b0 C hC) (hhid C hC)
      have hOC : ¬ Own env C := fun w => by obtain ⟨o, e⟩ := Own.present X.loc w; rw [hC] at e; cases e
      have kv : ∀ {v : V} {u : Value}, VR g s''.heap v u → VR g h' v u := VR.mono tk
      have L2 : LR g h' (σ'.set D (.list xs)) env (ℓ.set n (.ref D)) := by
        obtain ⟨m2, hn2, hm2⟩ := hL.ns
        refine ⟨⟨m2, ns_upTo hn2 fun o e => .of (sb.extBut _ o (fun z => hOC (.inl z.symm)) e), fun y v a b => let ⟨u, e, f⟩ := hm2 y v a b; ⟨u, e, kv f⟩⟩, fun y c e => ?_, fun y v a kk => ?_, hL.off, hL.offc, hL.apart, hL.has⟩
        · obtain ⟨o, u, e1, e2⟩ := hL.cell y c e
          exact ⟨o, u, sb.extBut c o (fun z => hOC (z ▸ .inr ⟨y, e⟩)) e1, e2⟩
        · obtain ⟨c, u, e, hc, hv⟩ := hL.cells y v a kk
          exact ⟨c, u, e, cell_upTo hc fun o z => .of (sb.extBut _ o (fun z => hOC (z ▸ .inr ⟨_, e⟩)) z), kv hv⟩
      have xa : Ext (Own env) s.heap σ s''.heap (σ'.set D (.list xs)) := x1.own.trans (hx''.weaken fun b z => z ▸ w)
      refine ⟨.next, _, _, rfl, L2, R2, ⟨fun a o e n nw => (xa.keep a o e n nw).then fun o' e' => .of (sb.extBut a o' (fun z => ?_) e'), fun a o e => ?_, xa.dom⟩, (hs'.trans hs'').trans ⟨rfl, rfl, rfl⟩, hq D oD⟩
      · rw [z, hC] at e; cases e
      · obtain ⟨o', e'⟩ := xa.pres a o e
        exact ⟨o', sb.extBut a o' (fun z => by rw [z, hC] at e; cases e) e'⟩
    · exact comp_err X hC p fun _ _ p => p.toS X
end
section
open PySem PyProof.Rows
variable {g : Gr} {sc csc : Scope} {r : Nat} {c : Bool}
noncomputable abbrev TF := List V → AH → (V → AH → Prop) → (Addr → AH → Prop) → Prop
/-- the frames of the callers -/
noncomputable def FrL (g : Gr) (A : Around) (h : Heap) (σ : AH) : Prop := ∃ l, A.frames = some l ∧ h.FunFrames g.b0 l ∧ ∀ e ∈ l, ∀ f, e.frame = some f → OffFr h σ f
theorem FrOk.frl {A : Around} {env : Env} {h : Heap} {σ : AH} (F : FrOk g A env h σ) : FrL g A h σ := let ⟨e0, outer, h1, h2, h3, h4, _⟩ := F; ⟨_, h1, h3, h4⟩
/-- a value that is called with values -/
structure SndF (g : Gr) (r : Nat) (f : Value) (t : TF) : Prop where
  run : ∀ A s σ xs vs Q E, GOk g → FrL g A s.heap σ → Room A r true → Rel g s.heap σ → VRs g s.heap xs vs → t xs σ Q E →
  wpAny (model g.prog g.w) A (call f vs []) (PostE g s σ Q) (PostX g A s σ E) s
/-- the same of a function's own code -/
structure SndC (g : Gr) (r : Nat) (f : Value) (t : TF) : Prop where
  run : ∀ A s σ xs vs Q E, GOk g → FrL g A s.heap σ → Room A r true → Rel g s.heap σ → VRs g s.heap xs vs → t xs σ Q E →
  codeAny (model g.prog g.w) A (.call f ⟨vs, []⟩) (fun r s' => match r with | .ok (.ret v) => PostE g s σ Q v s' | .ok _ => False | .error e => PostX g A s σ E e s') s
theorem SndC.toF {r : Nat} {f : Value} {t : TF} (h : SndC g r f t) : SndF g r f t := .mk fun A s σ xs vs Q E G F R Re Vs T => wpAny_call (h.run A s σ xs vs Q E G F R Re Vs T)
theorem SndC.mono {r : Nat} {f : Value} {t t' : TF} (h : SndC g r f t) (k : ∀ xs σ Q E, t' xs σ Q E → t xs σ Q E) : SndC g r f t' := .mk fun A s σ xs vs Q E G F R Re Vs T => h.run A s σ xs vs Q E G F R Re Vs (k _ _ _ _ T)
theorem SndF.le {r r' : Nat} {f : Value} {t : TF} (h : SndF g r f t) (k : r ≤ r') : SndF g r' f t := .mk fun A s σ xs vs Q E G F R => h.run A s σ xs vs Q E G F (R.le k)
/-- what is asked of a function's scope; checked by computation -/
noncomputable def fnOk (sc : Scope) (ps : List String) : Bool := sc.kind == .function && namesApart sc.names && !sc.isGenerator && !sc.isCoroutine &&
  (sc.names.all fun x => x.2 != .free && x.1 != ("__debug__" : Str) && x.1 != ("__classdict__" : Str)) &&
  (ps.all fun p => sc.names.any fun y => y.1 == Str.ofString p && (y.2 == .local || y.2 == .cell))
theorem cellsFrom_has : ∀ (names : List (Str × NameKind)) (b : Nat) (acc : List (Str × Addr)) (x : Str), (x, NameKind.cell) ∈ names ∨ (acc.lookup x).isSome = true → ((cellsFrom b names acc).lookup x).isSome = true
  | [], b, acc, x, h => by
    rcases h with h | h
    · cases h
    · exact h
  | (n, k) :: rest, b, acc, x, h => by
    unfold cellsFrom
    split
    · refine cellsFrom_has rest _ _ x ?_
      rcases h with h | h
      · cases h with
        | head => right; simp [List.lookup_cons]
        | tail _ h => exact .inl h
      · right
        rw [List.lookup_cons]
        split
        · rfl
        · exact h
    · rename_i hk
      refine cellsFrom_has rest _ _ x ?_
      rcases h with h | h
      · cases h with
        | head => simp at hk
        | tail _ h => exact .inl h
      · exact .inr h
noncomputable def Loc.empty : Loc := fun _ => none
/-- the binding of parameters bears the names' values -/
theorem bind_rel {h : Heap} {kd : Str → Option NameKind} : ∀ {ps : List String} {xs : List V} {vs : List Value} {m cm : Str → Option Value} {ℓ : Loc}, (∀ n v, ℓ n = some v → kd (Str.ofString n) = some .local → ∃ u, m (Str.ofString n) = some u ∧ VR g h v u) →
    (∀ n v, ℓ n = some v → kd (Str.ofString n) = some .cell → ∃ u, cm (Str.ofString n) = some u ∧ VR g h v u) → VRs g h xs vs → xs.length = ps.length →
    (∀ n v, ℓ.setAll ps xs n = some v → kd (Str.ofString n) = some .local → ∃ u, bindL kd ((ps.map Str.ofString).zip vs) m (Str.ofString n) = some u ∧ VR g h v u) ∧
    (∀ n v, ℓ.setAll ps xs n = some v → kd (Str.ofString n) = some .cell → ∃ u, bindC kd ((ps.map Str.ofString).zip vs) cm (Str.ofString n) = some u ∧ VR g h v u)
  | [], xs, vs, m, cm, ℓ, h1, h2, hv, hl => by
    cases xs with
    | nil => exact ⟨h1, h2⟩
    | cons _ _ => simp at hl
  | p :: ps, [], vs, m, cm, ℓ, h1, h2, hv, hl => by simp at hl
  | p :: ps, x :: xs, vs, m, cm, ℓ, h1, h2, hv, hl => by
    obtain ⟨v, vs, rfl, hx, hxs⟩ := VRs_cons_inv hv
    show (∀ n w, (ℓ.set p x).setAll ps xs n = some w → _ → ∃ u, bindL kd ((ps.map Str.ofString).zip vs) (if kd (Str.ofString p) = some .local then fun y => if y = Str.ofString p then some v else m y else m) (Str.ofString n) = some u ∧ _) ∧
      (∀ n w, (ℓ.set p x).setAll ps xs n = some w → _ → ∃ u, bindC kd ((ps.map Str.ofString).zip vs) (if kd (Str.ofString p) = some .local then cm else fun y => if y = Str.ofString p then some v else cm y) (Str.ofString n) = some u ∧ _)
    refine bind_rel (fun n w e k => ?_) (fun n w e k => ?_) hxs (by simpa using hl)
    · rw [Loc.set_at] at e
      by_cases z : n = p
      · subst z; rw [if_pos rfl] at e; cases e
        rw [if_pos k]; exact ⟨v, by simp, hx⟩
      · rw [if_neg z] at e
        obtain ⟨u, e1, e2⟩ := h1 n w e k
        refine ⟨u, ?_, e2⟩
        split
        · exact (if_neg fun q => z (ofString_inj q)).trans e1
        · exact e1
    · rw [Loc.set_at] at e
      by_cases z : n = p
      · subst z; rw [if_pos rfl] at e; cases e
        rw [if_neg (by rw [k]; simp)]; exact ⟨v, by simp, hx⟩
      · rw [if_neg z] at e
        obtain ⟨u, e1, e2⟩ := h2 n w e k
        refine ⟨u, ?_, e2⟩
        split
        · exact e1
        · exact (if_neg fun q => z (ofString_inj q)).trans e1
/-- a function with a body -/
noncomputable def tFun (ps : List String) (tb : TS) : TF := fun xs σ Q E => xs.length = ps.length ∧ tb (Loc.empty.setAll ps xs) σ (fun f _ σ' => match f with
  | .ret v => ∃ σ'', (∀ a o, σ'' a = some o → σ' a = some o) ∧ Q v σ''
  | _ => ∃ σ'', (∀ a o, σ'' a = some o → σ' a = some o) ∧ Q .none σ'') fun C _ σ' => ∃ σ'', (∀ a o, σ'' a = some o → σ' a = some o) ∧ E C σ''
theorem sndC_fd {a : Addr} {o : Obj} {fd : FuncData} {body : List Stmt} {ps : List String} {tb : TS} (ho : g.b0.get? a = some o) (hd : o.data = .func fd) (hcd : g.b0.CodeRec fd.code fd.qualname) (hbody : fd.body = .stmts body)
    (hbind : ∀ vs : List Value, vs.length = ps.length → bindArgs fd ⟨vs, []⟩ = pure ((ps.map Str.ofString).zip vs)) (hclo : fd.closure = []) (hgl : fd.globals = mainGlobals) (hbl : fd.builtins = builtinsNs) (ok : fnOk fd.scope ps = true)
    (hb : SndSs g fd.scope r true body tb) : SndC g (r + 1) (.ref a) (tFun ps tb) := .mk fun A s σ xs vs Q E G F Rm R hv h => by
  obtain ⟨hlen, h⟩ := h
  have hlv : vs.length = ps.length := (VRs_length hv) ▸ hlen
  simp only [fnOk, Bool.and_eq_true] at ok
  obtain ⟨⟨⟨⟨⟨ok1, ok2⟩, ok5⟩, ok6⟩, ok3⟩, ok4⟩ := ok
  have hk : fd.scope.kind = .function := eq_of_beq ok1
  have keepCode : s.heap.CodeRec fd.code fd.qualname := hcd.keeps R.base
  have kdOf : ∀ p ∈ ps, fd.scope.names.lookup (Str.ofString p) = some .local ∨ fd.scope.names.lookup (Str.ofString p) = some .cell := fun p hp => by
    have := List.all_eq_true.mp ok4 p hp
    simp only [List.any_eq_true, Bool.and_eq_true] at this
    obtain ⟨⟨y, j⟩, hy, e, hj⟩ := this
    have e' : y = Str.ofString p := eq_of_beq e
    subst e'
    rw [lookup_of_apart ok2 hy]
    cases j <;> simp at hj <;> simp
  refine codeAny_call_cells (body := body) (Rm.room) (R.base a o ho) hd (G.nolimit.keeps R.base) keepCode hbody (hbind vs hlv) hclo (fun x hx => ?_) (fun s₁ IC => ?_) (by simpa using ok6) (by simpa using ok5) hk
  · have hx1 : x.1 ∈ ps.map Str.ofString := List.of_mem_zip (a := x.1) (b := x.2) hx |>.1
    obtain ⟨p, hp, e⟩ := List.mem_map.mp hx1
    rcases kdOf p hp with q | q
    · exact .inl (e ▸ q)
    · exact .inr ⟨e ▸ q, e ▸ cellsFrom_has _ _ _ _ (.inl (mem_of_lookup q))⟩
  · generalize hE : callEnvC fd s.heap.objs.size a = env at IC ⊢
    have hsc : env.scope = fd.scope := by rw [← hE]; rfl
    have hloc : env.locals = s.heap.objs.size := by rw [← hE]; rfl
    have hcs : env.cells = cellsFrom (s.heap.objs.size + 1) fd.scope.names [] := by rw [← hE]; rfl
    have hfrm : env.frame = some s.heap.objs.size := by rw [← hE]; rfl
    have hglo : env.globals = mainGlobals := by rw [← hE]; exact hgl
    have hblt : env.builtins = builtinsNs := by rw [← hE]; exact hbl
    obtain ⟨h1, tk, rfl⟩ := IC.toInCall.same
    have kp := IC.toInCall.keep
    have kdE : ∀ x, env.kindOf x = fd.scope.names.lookup x := fun x => by show env.scope.names.lookup x = _; rw [hsc]
    have above : ∀ x cc, env.cells.lookup x = some cc → s.heap.objs.size < cc := fun x cc e => by rw [← hloc]; exact IC.above x cc (PySem.mem_of_lookup e)
    have freshC : ∀ x cc, env.cells.lookup x = some cc → s.heap.get? cc = none := fun x cc e => Heap.get?_none_of_le (Nat.le_of_lt (above x cc e))
    have freshL : s.heap.get? env.locals = none := by rw [hloc]; exact size_fresh _
    have b0 : ∀ a, s.heap.get? a = none → g.b0.get? a = none := fun a e => by
      cases q : g.b0.get? a with
      | none => rfl
      | some o => rw [R.base a o q] at e; cases e
    have tk1 : TupsKept g s.heap h1 := fun a o _ _ _ e _ _ => .of (kp a o e)
    obtain ⟨br1, br2⟩ := bind_rel (kd := env.kindOf) (ℓ := Loc.empty) (m := fun _ => none) (cm := fun _ => none) (ps := ps) (xs := xs) (vs := vs) (h := h1) (g := g) (fun n v e => nomatch e) (fun n v e => nomatch e) (VRs.mono tk1 hv) hlen
    have noFree : ∀ x, env.kindOf x ≠ some .free := fun x e => by
      rw [kdE] at e
      have := List.all_eq_true.mp ok3 _ (mem_of_lookup e)
      simp at this
    have L1 : LR g h1 σ env (Loc.empty.setAll ps xs) := by
      refine ⟨⟨_, IC.toInCall.ns, br1⟩, fun x cc e => ?_, fun n v e k => ?_, ⟨R.fresh freshL, b0 _ freshL⟩, fun x cc e => ⟨R.fresh (freshC x cc e), ?_, b0 _ (freshC x cc e)⟩, fun x y cc e1 e2 => ?_, fun x k => ?_⟩
      · obtain ⟨o, e1, e2⟩ := IC.cell x cc e; exact ⟨o, _, e1, e2⟩
      · rcases k with k | k
        · obtain ⟨u, e1, e2⟩ := br2 n v e k
          have : ((cellsFrom (s.heap.objs.size + 1) fd.scope.names []).lookup (Str.ofString n)).isSome = true := cellsFrom_has _ _ _ _ (.inl (mem_of_lookup (by rw [← kdE]; exact k)))
          obtain ⟨cc, hcc⟩ := Option.isSome_iff_exists.mp this
          have hcc' : env.cells.lookup (Str.ofString n) = some cc := by rw [hcs]; exact hcc
          exact ⟨cc, u, hcc', e1 ▸ IC.cell _ cc hcc', e2⟩
        · exact absurd k (noFree _)
      · rw [hloc]; exact Nat.ne_of_gt (above x cc e)
      · exact name_of_addr IC.apart (PySem.mem_of_lookup e1) (PySem.mem_of_lookup e2)
      · rcases k with k | k
        · have : ((cellsFrom (s.heap.objs.size + 1) fd.scope.names []).lookup x).isSome = true := cellsFrom_has _ _ _ _ (.inl (mem_of_lookup (by rw [← kdE]; exact k)))
          obtain ⟨cc, hcc⟩ := Option.isSome_iff_exists.mp this
          exact ⟨cc, by rw [hcs]; exact hcc⟩
        · exact absurd k (noFree _)
    have R1 : Rel g h1 σ := R.keeps kp
    have x1 : Ext No s.heap σ h1 σ := .keeps kp
    have F1 : FrOk g (A.deeper env) env h1 σ := by
      obtain ⟨l, hl, ff, off⟩ := F
      have hns : ∃ o, h1.get? env.locals = some o ∧ ∀ vs, o.data ≠ .fields vs := L1.noFields (.inl rfl)
      obtain ⟨k1, k2⟩ := frames_step (W := No) (h' := h1) (σ' := σ) (fun a o es n e d q => ⟨q, o, es, n, kp a o e, d⟩) _ ff off
      refine ⟨env, l, by show A.frames.map (env :: ·) = _; rw [hl]; rfl, rfl, ⟨by rw [hsc, hk]; decide, ⟨s.heap.objs.size, ?_⟩, k1⟩, fun e he f hf => ?_, by rw [hsc]; simpa using ok5, by rw [hsc]; simpa using ok6, hblt, hglo⟩
      · obtain ⟨o, e, d⟩ := hns
        exact ⟨o, hfrm, b0 _ (size_fresh _), hloc ▸ e, d⟩
      · cases he with
        | head =>
          rw [hfrm] at hf; cases hf
          obtain ⟨m, ⟨o, es, ep, e, d, _⟩, _⟩ := L1.ns
          exact ⟨R.fresh (size_fresh _), o, es, ep, hloc ▸ e, d⟩
        | tail _ q => exact k2 e q f hf
    have X1 : Cx g fd.scope r true (A.deeper env) env h1 σ (Loc.empty.setAll ps xs) := by
      refine ⟨G, ⟨fun x k hm => .inl ?_, fun x k hm => ?_, by rw [hsc]; exact hk, hglo, hblt⟩, L1, F1, Rm.deeper env, R1⟩
      · rw [kdE]; exact lookup_of_apart ok2 hm
      · have := List.all_eq_true.mp ok3 _ hm
        simp only [Bool.and_eq_true] at this
        exact ⟨by simpa using this.1.2, by simpa using this.2⟩
    have freshOwn : ∀ b, Own env b → s.heap.get? b = none := fun b w => by
      rcases w with rfl | ⟨x, e⟩
      · exact freshL
      · exact freshC x b e
    refine wpAny_mono (hb.run (A.deeper env) env { s with heap := h1, toks := tk } _ σ _ _ X1 h) (fun f s' p => ?_) fun e s' p => ?_
    · obtain ⟨f', ℓ', σ', hf', _, hR', hx', hs', hq⟩ := p
      have fin : ∀ {x : V} {u : Value}, VR g s'.heap x u → (∃ σ'', (∀ a o, σ'' a = some o → σ' a = some o) ∧ Q x σ'') → PostE g s σ Q u s' := fun {x u} hu q => by
        obtain ⟨σ'', hsub, hq⟩ := q
        exact ⟨x, σ'', hu, hR'.forget hsub, (x1.absorb hx' freshOwn).forget hsub, Same.trans ⟨rfl, rfl, rfl⟩ hs', hq⟩
      cases f' with
      | ret v => obtain ⟨u, rfl, hu⟩ := hf'; exact fin hu hq
      | next => cases hf'; exact fin (VR_none.mpr rfl) hq
      | brk => cases hf'; exact fin (VR_none.mpr rfl) hq
      | cont => cases hf'; exact fin (VR_none.mpr rfl) hq
    · obtain ⟨D, ℓ', σ', hX, hL', hR', hx', hs', σ'', hsub, hq⟩ := p
      refine wpAny_bind (note_ok (X1.fr.step hx' (L1.dicts hL')) hR' hx'.pres hX fun s₂ t2 x2 hs2 => flight_ok x2 fun s₃ t3 x3 hs3 => ?_)
      refine ⟨D, σ'', (x3.weak.back fun b o e => ⟨o, kp b o e⟩).forget hsub, (t3.rel (t2.rel hR')).forget hsub, (x1.absorb (t3.ext (t2.ext hx')) freshOwn).forget hsub, Same.trans ⟨rfl, rfl, rfl⟩ ((hs'.trans hs2).trans hs3), hq⟩
theorem sndC_def {a : Addr} {o : Obj} {nm q : Str} {pa : Arguments} {body : List Stmt} {scp : Scope} {gl : Addr} {clo : List (Str × Addr)} {dv kd doc pm : Value} {an : Option Addr} {cd ct : Value} {bl : Addr} {ps : List String} {tb : TS} (ho : g.b0.get? a = some o)
    (hd : o.data = .func ⟨nm, q, pa, .stmts body, scp, gl, clo, dv, kd, doc, pm, an, cd, ct, bl⟩) (hcd : g.b0.CodeRec cd q) (hbody : FuncBody.stmts body = .stmts body)
    (hbind : ∀ vs : List Value, vs.length = ps.length → bindArgs ⟨nm, q, pa, .stmts body, scp, gl, clo, dv, kd, doc, pm, an, cd, ct, bl⟩ ⟨vs, []⟩ = pure ((ps.map Str.ofString).zip vs)) (hclo : clo = []) (hgl : gl = mainGlobals) (hbl : bl = builtinsNs) (ok : fnOk scp ps = true)
    (hb : SndSs g scp r true body tb) : SndC g (r + 1) (.ref a) (tFun ps tb) := sndC_fd ho hd hcd hbody hbind hclo hgl hbl ok hb
end
section
open PySem PyProof.Rows
variable {g : Gr} {sc csc : Scope} {r : Nat} {c : Bool}
/-! ## global names -/
noncomputable def Glo (g : Gr) (n : String) (v : Value) : Prop := ∃ mg, g.b0.Ns mainGlobals mg ∧ mg (Str.ofString n) = some v
noncomputable def Bui (g : Gr) (n : String) (v : Value) : Prop := ∃ mg mb, g.b0.Ns mainGlobals mg ∧ mg (Str.ofString n) = none ∧ g.b0.Ns builtinsNs mb ∧ mb (Str.ofString n) = some v
noncomputable def Known (g : Gr) (n : String) (v : Value) : Prop := Glo g n v ∨ Bui g n v
theorem name_global {A : Around} {env : Env} {s : Shared} {σ : AH} {ℓ : Loc} {n : String} {v : Value} {pos : Pos} {E : Value → Shared → Prop} {Q : Value → Shared → Prop} (X : Cx g sc r c A env s.heap σ ℓ) (hm : (Str.ofString n, NameKind.globalImplicit) ∈ sc.names) (hk : Known g n v) (h : Q v s) :
    wpAny (model g.prog g.w) A (eval (.Name (Str.ofString n) pos) env) Q E s := by
  have kd : env.kindOf (Str.ofString n) = some .globalImplicit := by
    rcases X.ok.kinds _ _ hm with q | ⟨q, _⟩
    · exact q
    · cases q
  refine Calls.Name_function_global X.ok.kind kd ?_ (X.ok.plain _ _ hm).1
  rcases hk with ⟨mg, h1, h2⟩ | ⟨mg, mb, h1, h2, h3, h4⟩
  · exact Calls.loadGlobal_global (by rw [X.ok.globals]; exact h1.at' fun o e => X.rel.base _ o e) h2 h
  · exact Calls.loadGlobal_builtin (by rw [X.ok.globals]; exact h1.at' fun o e => X.rel.base _ o e) h2 (by rw [X.ok.builtins]; exact h3.at' fun o e => X.rel.base _ o e) h4 h
theorem sndE_global {n : String} {pos : Pos} {v : Value} {x : V} (hm : (Str.ofString n, NameKind.globalImplicit) ∈ sc.names) (hk : Known g n v) (hx : ∀ h, VR g h x v) : SndE g sc r c (.Name (Str.ofString n) pos) (tConst x) := .mk fun A env s ℓ σ Q E X h =>
  name_global X hm hk (.here (hx _) X.rel h)
/-! ## calls by name -/
noncomputable def Plain (es : List Expr) : Prop := (es.all fun e => !isStar e) = true
theorem Plain.any : ∀ {es : List Expr}, Plain es → ∀ env, (starEach es env).any (·.1) = false
  | [], _, env => rfl
  | e :: es, h, env => by
    simp only [Plain, List.all_cons, Bool.and_eq_true] at h
    rw [starEach_cons env (by simpa using h.1), List.any_cons, Plain.any h.2 env]; rfl
theorem evalArgs_ok {M : Model} {A : Around} {E : Value → Shared → Prop} {s : Shared} {f : Value} {l : List (Bool × Sem Value)} {Q : Args → Shared → Prop} (hp : l.any (·.1) = false)
    (h : wpAny M A (spliced l) (fun vs s' => Q ⟨vs, []⟩ s') E s) : wpAny M A (evalArgs f true l []) Q E s := by
  match l, hp, h with
  | [], _, h =>
    unfold evalArgs
    show wpAny M A (spliced [] >>= _) Q E s
    refine wpAny_bind (wpAny_mono h (fun vs s' h' => ?_) fun _ _ x => x)
    refine wpAny_bind (wpAny_pure ?_)
    refine wpAny_holding ?_
    exact wpAny_bind (wpAny_pure (wpAny_bind (wpAny_pure (wpAny_pure h'))))
  | (false, x) :: rest, _, h => exact Calls.evalArgs_plain h
  | (true, x) :: rest, hp, _ => simp at hp
theorem backTo_plain {es : List Expr} (hp : Plain es) (pos : Pos) (env : Env) : (backTo pos (starEach es env)).any (·.1) = false := by
  have := hp.any env
  unfold backTo
  rw [List.any_map]
  exact this
/-- what is called by a name: a function, a builtin or a type -/
noncomputable def Callee (g : Gr) (v : Value) : Prop := (∃ a o fd, v = .ref a ∧ g.b0.get? a = some o ∧ o.data = .func fd) ∨ (∃ id, v = .builtin id) ∨ ∃ T, v = .type T
theorem callWith_ok {A : Around} {E : Value → Shared → Prop} {s : Shared} {pos : Pos} {f : Value} {first : List Value} {l : List (Bool × Sem Value)} {Q : Value → Shared → Prop} (hf : Callee g f) (hp : l.any (·.1) = false)
    (h : wpAny (model g.prog g.w) A (spliced l) (fun vs s' => (∀ a o, g.b0.get? a = some o → s'.heap.get? a = some o) ∧ wpAny (model g.prog g.w) A (call f (first ++ vs) []) Q E s') E s) : wpAny (model g.prog g.w) A (callWith pos f first l []) Q E s := by
  rcases hf with ⟨a, o, fd, rfl, ho, hd⟩ | ⟨id, rfl⟩ | ⟨T, rfl⟩
  · exact Calls.callWith_function (o := o) (fd := fd) (evalArgs_ok hp (wpAny_mono h (fun vs s' h' => ⟨⟨h'.1 a o ho, hd⟩, h'.2⟩) fun _ _ x => x))
  · exact Calls.callWith_builtin hp (evalArgs_ok hp (wpAny_mono h (fun vs s' h' => h'.2) fun _ _ x => x))
  · exact PySem.callWith_type hp (evalArgs_ok hp (wpAny_mono h (fun vs s' h' => h'.2) fun _ _ x => x))
noncomputable def tCall (ts : TL) (t : TF) : TE := fun ℓ σ Q E => ts ℓ σ (fun vs σ₁ => t vs σ₁ Q E) E
/-- a thing called by its name -/
noncomputable def FnG (g : Gr) (n : String) (r : Nat) (t : TF) : Prop := ∃ v, Known g n v ∧ Callee g v ∧ SndF g r v t
theorem FnG.le {n : String} {r r' : Nat} {t : TF} (h : FnG g n r t) (k : r ≤ r') : FnG g n r' t := let ⟨v, h1, h2, h3⟩ := h; ⟨v, h1, h2, h3.le k⟩
theorem sndE_call {n : String} {p pos : Pos} {args : List Expr} {ts : TL} {t : TF} (hm : (Str.ofString n, NameKind.globalImplicit) ∈ sc.names) (hf : FnG g n r t) (hL : SndL g sc r true args ts) (hp : Plain args) :
    SndE g sc r true (.Call (.Name (Str.ofString n) p) args [] pos) (tCall ts t) := .mk fun A env s ℓ σ Q E X h => by
  obtain ⟨v, hk, hc, hF⟩ := hf
  show wpAny _ A (do callWith pos (← eval (.Name (Str.ofString n) p) env) [] (backTo pos (starEach args env)) (backToKw pos (keywordEach [] env))) _ _ s
  refine wpAny_bind (name_global X hm hk ?_)
  refine callWith_ok hc (backTo_plain hp pos env) (wpAny_mono (hL.run A env pos s ℓ σ _ E X h) (fun vs s₁ p => ?_) fun _ _ p => p)
  refine Post.elim p fun xs σ₁ hv hR hx hs hq => ?_
  have X1 := X.step hR hx
  exact ⟨fun a o e => hR.base a o e, wp_back hx hs (hF.run A s₁ σ₁ xs vs Q E X.gok X1.fr.frl X1.room hR hv hq)⟩
/-! ## builtins -/
/-- only tokens were drawn -/
theorem post_value {s s' : Shared} {σ : AH} {Q : V → AH → Prop} {x : V} {v : Value} (R : Rel g s.heap σ) (e : s'.heap = s.heap) (sm : Same s s') (hv : VR g s.heap x v) (h : Q x σ) : PostE g s σ Q v s' :=
  ⟨x, σ, e ▸ hv, e ▸ R, e ▸ .refl, sm, h⟩
noncomputable def lenV (x : V) (σ : AH) : Option Nat := match x with
  | .tup xs => some xs.length
  | .frz xs => some xs.length
  | .ref a => match σ a with
    | some (.list xs) => some xs.length
    | some (.dictI kvs _) => some kvs.length
    | some (.dictS kvs _) => some kvs.length
    | _ => none
  | _ => none
noncomputable def tLen : TF := fun xs σ Q _ => match xs with | [x] => (match lenV x σ with | some n => Q (.int n) σ | none => False) | _ => False
theorem sndF_len : SndF g r (.builtin "len") tLen := .mk fun A s σ xs vs Q E G F Rm R hv h => by
  match xs, hv, h with
  | [x], hv, h =>
    obtain ⟨v, _, rfl, hx, hr⟩ := VRs_cons_inv hv
    rw [VRs_nil_inv hr]
    simp only [tLen] at h
    split at h
    · rename_i n e
      have key : ∀ (m : Nat) (tk tk' : Nat), m = n → PostE g s σ Q (.int m tk) { s with toks := tk' } := fun m tk tk' q => by subst q; exact post_value R rfl ⟨rfl, rfl, rfl⟩ (VR_int.mpr ⟨_, rfl⟩) h
      cases x with
      | tup ys =>
        obtain ⟨hf, a, o, us, m, rfl, _, ho, hc, hd, hvs⟩ := VR_tup.mp hx
        cases e
        have hl : ys.length = us.size := by rw [VRs_length hvs]; simp
        exact PyProof.Rows.len_tuple ⟨o, ho, hc, m, hd⟩ (hl ▸ hf.fit) (key _ _ _ hl.symm)
      | frz ys =>
        obtain ⟨hf, a, o, us, m, rfl, ho, hc, hd, hvs⟩ := VR_frz.mp hx
        cases e
        have hl : ys.length = us.size := by rw [VRs_length hvs]; simp
        exact PySem.Calls.call_len_list ⟨o, R.base a o ho, hc, m, hd⟩ (hl ▸ hf.fit) (key _ _ _ hl.symm)
      | ref a =>
        rw [VR_ref.mp hx]
        simp only [lenV] at e
        split at e
        · rename_i ys q
          cases e
          obtain ⟨hf, us, m, ho, hvs⟩ := (R.own a _ q).2
          have hl : ys.length = us.size := by rw [VRs_length hvs]; simp
          exact PySem.Calls.call_len_list ⟨_, ho, rfl, m, rfl⟩ (hl ▸ hf.fit) (key _ _ _ hl.symm)
        · rename_i kvs ep q
          cases e
          obtain ⟨hf, us, hd, hk, hvs⟩ := (R.own a _ q).2
          have hl : kvs.length = us.length := by have := congrArg List.length hk; simpa using this.symm
          exact call_len_dict (sysMod_ne G R q) hd.dictOf (hl ▸ hf.fit) (key _ _ _ hl.symm)
        · rename_i kvs ep q
          cases e
          obtain ⟨hf, us, hd, hk, hvs⟩ := (R.own a _ q).2
          have hl : kvs.length = us.length := by have := congrArg List.length hk; simpa using this.symm
          exact call_len_dict (sysMod_ne G R q) hd.dictOf (hl ▸ hf.fit) (key _ _ _ hl.symm)
        · cases e
      | _ => cases e
    · exact h.elim
  | [], _, h => exact h.elim
  | _ :: _ :: _, _, h => exact h.elim
end
section
open PySem PyProof.Rows
variable {g : Gr} {sc csc : Scope} {r : Nat} {c : Bool}
/-! ## max and min of ints -/
/-! ## list() of a list or a tuple -/
/-! ## isinstance -/
inductive TyK where
  | int
  | bool
  | str
  | tuple
  | list
  | dict
noncomputable def TyK.name : TyK → String
  | .int => "int"
  | .bool => "bool"
  | .str => "str"
  | .tuple => "tuple"
  | .list => "list"
  | .dict => "dict"
noncomputable def isiV (k : TyK) (v : V) (σ : AH) : Option Bool := match v with
  | .int _ => (match k with | .int => some true | .bool => some false | _ => none)
  | .tup _ => (match k with | .tuple => some true | .list => some false | _ => none)
  | .ref a => match σ a with
    | some (.list _) => (match k with | .list => some true | .tuple => some false | _ => none)
    | _ => none
  | _ => none
noncomputable def tIsI (k : TyK) (t : TE) : TE := fun ℓ σ Q E => t ℓ σ (fun v σ₁ => match isiV k v σ₁ with | some b => Q (.bool b) σ₁ | none => False) E
theorem isi_ok {A : Around} {E : Value → Shared → Prop} {s : Shared} {σ : AH} {k : TyK} {x : V} {v : Value} {b : Bool} {Q : V → AH → Prop} (R : Rel g s.heap σ) (hx : VR g s.heap x v) (e : isiV k x σ = some b) (h : Q (.bool b) σ) :
    wpAny (model g.prog g.w) A (call (.builtin "isinstance") [v, .type k.name]) (PostE g s σ Q) E s := by
  have key : ∀ tk, PostE g s σ Q (.bool b) { s with toks := tk } := fun tk => post_value R rfl ⟨rfl, rfl, rfl⟩ (VR_bool.mpr rfl) h
  have key0 : PostE g s σ Q (.bool b) s := key s.toks
  cases x with
  | int i =>
    obtain ⟨t, rfl⟩ := VR_int.mp hx
    cases k <;> cases e
    · exact IsiPair.int_int key0
    · exact IsiPair.int_bool (key _)
  | tup ys =>
    obtain ⟨_, a, o, us, m, rfl, _, ho, hc, hd, _⟩ := VR_tup.mp hx
    cases k <;> cases e
    · exact IsiPair.tuple_tuple ho hc key0
    · exact IsiPair.tuple_list ho hc (key _)
  | ref a =>
    rw [VR_ref.mp hx]
    simp only [isiV] at e
    split at e
    · rename_i ys q
      obtain ⟨_, us, n, ho, _⟩ := (R.own a _ q).2
      cases k <;> cases e
      · exact IsiPair.list_tuple ho rfl (key _)
      · exact IsiPair.list_list ho rfl key0
    · cases e
  | _ => cases e
theorem sndE_isinstance {k : TyK} {e : Expr} {p p' pos : Pos} {t : TE} (hm : (Str.ofString "isinstance", NameKind.globalImplicit) ∈ sc.names) (hb : Known g "isinstance" (.builtin "isinstance")) (hm' : (Str.ofString k.name, NameKind.globalImplicit) ∈ sc.names) (hb' : Known g k.name (.type k.name))
    (h1 : SndE g sc r true e t) (hs : isStar e = false) :
    SndE g sc r true (.Call (.Name (Str.ofString "isinstance") p) [e, .Name (Str.ofString k.name) p'] [] pos) (tIsI k t) := .mk fun A env s ℓ σ Q E X h => by
  show wpAny _ A (do callWith pos (← eval (.Name (Str.ofString "isinstance") p) env) [] (backTo pos (starEach [e, .Name (Str.ofString k.name) p'] env)) (backToKw pos (keywordEach [] env))) _ _ s
  refine wpAny_bind (name_global X hm hb ?_)
  rw [starEach_cons env hs, starEach_cons (es := []) env rfl]
  refine callWith_ok (.inr (.inl ⟨_, rfl⟩)) rfl ?_
  show wpAny _ A (spliced [(false, eval e env), (false, eval (.Name (Str.ofString k.name) p') env)]) _ _ s
  refine Calls.spliced_cons (wpAny_mono (h1.run A env s ℓ σ _ E X h) (fun v s₁ p => ?_) fun _ _ p => p)
  refine Post.elim p fun x σ₁ hv hR hx hs1 hq => ?_
  refine Calls.spliced_cons (name_global (X.step hR hx) hm' hb' (Calls.spliced_nil ⟨fun a o e => hR.base a o e, ?_⟩))
  split at hq
  · rename_i b e
    exact wp_back hx hs1 (isi_ok hR hv e hq)
  · exact hq.elim
end
section
open PySem PyProof.Rows
variable {g : Gr} {sc csc : Scope} {r : Nat} {c : Bool}
/-! ## what is walked through -/
/-- one object that nobody owns was made -/
theorem postI_one {s s₁ : Shared} {σ σ₁ : AH} {Q : List V → (AH → Prop) → Bool → AH → Prop} {items : List V} {inv : AH → Prop} {St : Nat → Heap → Prop} {tup : Bool} {o : Obj} (hR : Rel g s₁.heap σ₁) (hx : Ext No s.heap σ s₁.heap σ₁) (hs : Same s s₁)
    (IT : Iters g items inv s₁.heap.objs.size (· = s₁.heap.objs.size) St tup) (hst : St 0 (s₁.heap.push o)) (hf : Fits items.length) (hq : Q items inv tup σ₁) : PostI g s σ Q (.ref s₁.heap.objs.size) { s₁ with heap := s₁.heap.push o } := by
  have kp := push_keeps s₁.heap o
  refine ⟨items, inv, _, _, St, tup, σ₁, rfl, IT, hst, hR.keeps kp, hx.trans (.keeps kp), hs.trans ⟨rfl, rfl, rfl⟩, fun a e => ?_, hf, hq⟩
  subst e
  refine ⟨?_, hR.fresh (size_fresh _)⟩
  cases e : s.heap.get? s₁.heap.objs.size with
  | none => rfl
  | some o => obtain ⟨o', e'⟩ := hx.pres _ o e; rw [size_fresh] at e'; cases e'
/-- what a value offers to a walk -/
noncomputable def walkV (x : V) (σ : AH) (Q : List V → (AH → Prop) → Bool → AH → Prop) : Prop := match x with
  | .tup xs => Q xs (fun _ => True) false σ
  | .ref a => match σ a with
    | some (.list xs) => Q xs (fun σ => σ a = some (.list xs)) false σ
    | _ => False
  | _ => False
noncomputable def tIter (t : TE) : TI := fun ℓ σ Q E => t ℓ σ (fun x σ₁ => walkV x σ₁ Q) E
theorem sndI_value {e : Expr} {t : TE} (h1 : SndE g sc r c e t) : SndI g sc r c e (tIter t) := .mk fun A env s ℓ σ Q E X h => by
  refine wpAny_mono (h1.run A env s ℓ σ _ E X h) (fun v s₁ p => ?_) fun _ _ p => p
  refine Post.elim p fun x σ₁ hv hR hx hs hq => ?_
  cases x with
  | tup xs =>
    obtain ⟨hf, a, o, us, m, rfl, nh, ho, hc, hd, hvs⟩ := VR_tup.mp hv
    refine wpAny_pyIter_tuple ⟨o, ho, hc, m, hd⟩ (postI_one hR hx hs (iters_tuple a _ xs) ⟨⟨_, Heap.get?_push_size _ rfl, rfl, rfl⟩, ?_⟩ hf hq)
    exact VR.mono (fun a o _ _ _ e _ _ => .of (push_keeps _ _ a o e)) hv
  | ref a =>
    rw [VR_ref.mp hv]
    simp only [walkV] at hq
    split at hq
    · rename_i xs e
      obtain ⟨hf, us, n, ho, hvs⟩ := (hR.own a _ e).2
      exact wpAny_pyIter_list ⟨_, ho, rfl, n, rfl⟩ (postI_one hR hx hs (iters_list a _ xs) ⟨_, Heap.get?_push_size _ rfl, rfl, rfl⟩ hf hq)
    · exact hq.elim
  | _ => exact hq.elim
/-- range(n) -/
noncomputable def tRange1 (t : TE) : TI := fun ℓ σ Q E => t ℓ σ (fun x σ₁ => match x with | .int n => 0 ≤ n ∧ Fits n.toNat ∧ Q (rangeV 0 n.toNat) (fun _ => True) false σ₁ | _ => False) E
theorem range_iter {A : Around} {s s₁ : Shared} {σ σ₁ : AH} {Q : List V → (AH → Prop) → Bool → AH → Prop} {E : Value → Shared → Prop} {lo hi : Int} {rr : Addr} {t u v : Tok} (hr : IsRange s₁.heap rr lo hi 1 t u v) (hlo : -(2 ^ 62) ≤ lo ∧ lo < 2 ^ 62) (hhi : -(2 ^ 62) ≤ hi ∧ hi < 2 ^ 62) (hR : Rel g s₁.heap σ₁) (hx : Ext No s.heap σ s₁.heap σ₁) (hs : Same s s₁)
    (hf : Fits (hi - lo).toNat) (hq : Q (rangeV lo (hi - lo).toNat) (fun _ => True) false σ₁) : wpAny (model g.prog g.w) A (pyIter (.ref rr)) (PostI g s σ Q) E s₁ := by
  refine wpAny_pyIter_range hr (small_one hlo.1 hlo.2 hhi.1 hhi.2) (postI_one hR hx hs (iters_range _ lo (hi - lo).toNat) ?_ (by simpa [rangeV] using hf) hq)
  have hsz : Builtin.Range.rangeSize lo hi 1 = (((hi - lo).toNat : Nat) : Int) := by rw [rangeSize_one]; split <;> omega
  have e1 : lo + ((0 : Nat) : Int) = lo := by simp
  have e2 : (((hi - lo).toNat : Nat) : Int) - ((0 : Nat) : Int) = Builtin.Range.rangeSize lo hi 1 := by rw [hsz]; simp
  show IsRangeIter _ _ (lo + ((0 : Nat) : Int)) ((((hi - lo).toNat : Nat) : Int) - ((0 : Nat) : Int)) 1
  rw [e1, e2]
  exact Heap.get?_push_size _ rfl
theorem sndI_range1 {e : Expr} {p pos : Pos} {t : TE} (hm : (Str.ofString "range", NameKind.globalImplicit) ∈ sc.names) (hb : Known g "range" (.type "range")) (h1 : SndE g sc r c e t) (hs : isStar e = false) :
    SndI g sc r c (.Call (.Name (Str.ofString "range") p) [e] [] pos) (tRange1 t) := .mk fun A env s ℓ σ Q E X h => by
  show wpAny _ A (do callWith pos (← eval (.Name (Str.ofString "range") p) env) [] (backTo pos (starEach [e] env)) (backToKw pos (keywordEach [] env))) _ _ s
  refine wpAny_bind (name_global X hm hb ?_)
  rw [starEach_cons (es := []) env hs]
  refine callWith_ok (.inr (.inr ⟨_, rfl⟩)) rfl ?_
  show wpAny _ A (spliced [(false, eval e env)]) _ _ s
  refine Calls.spliced_cons (wpAny_mono (h1.run A env s ℓ σ _ E X h) (fun v s₁ p => ?_) fun _ _ p => p)
  refine Post.elim p fun x σ₁ hv hR hx hs1 hq => ?_
  refine Calls.spliced_nil ⟨fun a o e => hR.base a o e, ?_⟩
  cases x with
  | int n =>
    obtain ⟨t, rfl⟩ := VR_int.mp hv
    refine call_range_1 ?_
    have kp := push_keeps s₁.heap { cls := .type "range", data := .fields #[.int 0 s₁.toks, .int n t, .int 1 (s₁.toks + 1)] }
    have hn : n.toNat ≤ 1000000 := hq.2.1
    have hz : (n - 0).toNat = n.toNat := by simp
    exact range_iter (lo := 0) (hi := n) (IsRange.new ..) (by decide) ⟨by have := hq.1; omega, by have := hq.1; omega⟩ (hR.keeps kp) (hx.trans (.keeps kp)) (hs1.trans ⟨rfl, rfl, rfl⟩) (hz ▸ hq.2.1) (hz ▸ hq.2.2)
  | _ => exact hq.elim
/-! ## methods of builtin types -/
noncomputable def typeV (x : V) (σ : AH) : Option String := match x with
  | .ref a => match σ a with
    | some (.list _) => some "list"
    | some (.dictI _ _) => some "dict"
    | some (.dictS _ _) => some "dict"
    | some (.dictT _ _) => some "dict"
    | _ => none
  | .str _ => some "str"
  | _ => none
theorem typeV_at {s : Shared} {σ : AH} {x : V} {v : Value} {T : String} (R : Rel g s.heap σ) (hv : VR g s.heap x v) (e : typeV x σ = some T) : s.TypeIs v T ∧ ∀ a, v = .ref a → ∃ ob, s.heap.get? a = some ob ∧ ob.dict = none := by
  cases x with
  | str y => obtain ⟨_, t, rfl⟩ := VR_str.mp hv; cases e; exact ⟨typeIs_str s y t, fun a q => nomatch q⟩
  | ref a =>
    rw [VR_ref.mp hv]
    simp only [typeV] at e
    split at e <;> first | cases e | skip
    · rename_i ys q
      obtain ⟨_, us, n, ho, _⟩ := (R.own a _ q).2
      exact ⟨⟨_, ho, rfl⟩, fun b q => by cases q; exact ⟨_, ho, rfl⟩⟩
    all_goals
      rename_i kvs ep q
      obtain ⟨_, us, ⟨o, es, ho, hc, _⟩, _⟩ := (R.own a _ q).2
      exact ⟨⟨_, ho, hc.1⟩, fun b q => by cases q; exact ⟨_, ho, hc.2.1⟩⟩
  | _ => cases e
noncomputable def tyIs (k : TyK) (x : V) (σ : AH) : Prop := match x with
  | .ref a => match σ a with
    | some (.list _) => (match k with | .list => True | _ => False)
    | some (.dictI _ _) => (match k with | .dict => True | _ => False)
    | some (.dictS _ _) => (match k with | .dict => True | _ => False)
    | some (.dictT _ _) => (match k with | .dict => True | _ => False)
    | _ => False
  | .str _ => (match k with | .str => True | _ => False)
  | _ => False
theorem tyIs_type {k : TyK} {x : V} {σ : AH} (h : tyIs k x σ) : typeV x σ = some k.name := by
  unfold tyIs at h
  split at h
  · split at h <;> first | exact h.elim | (rename_i q; simp only [typeV, q]; cases k <;> first | exact h.elim | rfl)
  · cases k <;> first | exact h.elim | rfl
  · exact h.elim
noncomputable def tMethod (T : TyK) (t : TF) (to : TE) (ts : TL) : TE := fun ℓ σ Q E => to ℓ σ (fun o σ₁ => tyIs T o σ₁ ∧ ts ℓ σ₁ (fun vs σ₂ => t (o :: vs) σ₂ Q E) E) E
noncomputable def isCall : Expr → Bool
  | .Call .. => true
  | _ => false
theorem base_plain {o : Expr} {name : Str} {env : Env} (h : isCall o = false) : attributeBase o name env (eval o env) = eval o env := by
  cases o <;> first | rfl | cases h
theorem few_plain {args : List Expr} {pos : Pos} {env : Env} (hp : Plain args) (hf : decide (args.length < 30) = true) : ((backTo pos (starEach args env)).all (fun x => !x.1) && (backToKw pos (keywordEach [] env)).all (fun x => x.1.isSome) && decide (args.length + ([] : List Keyword).length + (if ([] : List Keyword).isEmpty then 0 else 1) < 30)) = true := by
  have h1 : (backTo pos (starEach args env)).all (fun x => !x.1) = true := by
    have := backTo_plain hp pos env
    rw [List.all_eq_true]
    intro x hx
    have := List.any_eq_false.mp this x hx
    simpa using this
  have h2 : (backToKw pos (keywordEach [] env)).all (fun x => x.1.isSome) = true := rfl
  rw [h1, h2]
  simpa using hf
theorem sndE_method {o : Expr} {name : Str} {apos pos : Pos} {args : List Expr} {T : TyK} {id : String} {t : TF} {to : TE} {ts : TL} (pa : PlainAttrs T.name) (slot : Slot T.name name id) (hty : typeOf (.builtin id) = pure (.type "method_descriptor")) (hF : SndF g r (.builtin id) t)
    (ho : SndE g sc r true o to) (hL : SndL g sc r true args ts) (hp : Plain args) (hbase : isCall o = false) (hfew : decide (args.length < 30) = true)
    (hline : (apos.endLine == pos.line) = true) : SndE g sc r true (.Call (.Attribute o name apos) args [] pos) (tMethod T t to ts) := .mk fun A env s ℓ σ Q E X h => by
  refine wpAny_Call_method (base_plain hbase) (few_plain hp hfew) hline pa slot hty (wpAny_mono (ho.run A env s ℓ σ _ E X h) (fun v s₁ p => ?_) fun _ _ p => p)
  obtain ⟨x, σ₁, hv, hR, hx, hs1, hT, hq⟩ := p
  have X1 := X.step hR hx
  refine ⟨(typeV_at hR hv (tyIs_type hT)).1, (typeV_at hR hv (tyIs_type hT)).2, ?_⟩
  refine callWith_ok (.inr (.inl ⟨_, rfl⟩)) (backTo_plain hp pos env) (wpAny_mono (hL.run A env pos s₁ ℓ σ₁ _ E X1 hq) (fun vs s₂ p => ?_) fun _ _ p => p.back hx hs1)
  refine Post.elim p fun xs σ₂ hvs hR2 hx2 hs2 hq => ?_
  have X2 := X1.step hR2 hx2
  exact ⟨fun a o e => hR2.base a o e, wp_back (hx.trans hx2) (hs1.trans hs2) (hF.run A s₂ σ₂ (x :: xs) (v :: vs) Q E X.gok X2.fr.frl X2.room hR2 (VRs_cons (hx2.vr hR noSeq_no hv) hvs) hq)⟩
/-- list.append -/
noncomputable def tAppend : TF := fun xs σ Q _ => match xs with
  | [.ref a, x] => match σ a with | some (.list ys) => Fits (ys.length + 1) ∧ Q .none (σ.set a (.list (ys ++ [x]))) | _ => False
  | _ => False
theorem list_changed {s : Shared} {σ : AH} {Q : V → AH → Prop} {a : Addr} {ys zs : List V} {us : Array Value} {n : Nat} {h' : Heap} {v : Value} {x : V} (R : Rel g s.heap σ) (e : σ a = some (.list ys)) (hf : Fits zs.length) (ho' : h'.get? a = some { cls := .type "list", data := .seq us n })
    (sb : Heap.SameBut a s.heap h') (hvs : VRs g s.heap zs us.toList) (hv : VR g s.heap x v) (h : Q x (σ.set a (.list zs))) {tk : Nat} : PostE g s σ Q v { s with heap := h', toks := tk } := by
  obtain ⟨o₀, e₀, c₀⟩ := OR_some (R.own a _ e).2
  have tk : TupsKept g s.heap h' := fun b o us m _ q cc d => by
    refine .of (sb.extBut b o (fun z => ?_) q)
    subst z; rw [e₀] at q; cases q; exact c₀ _ _ cc d
  exact ⟨x, _, VR.mono tk hv, R.upd (ao' := .list zs) e sb ⟨hf, us, n, ho', VRs.mono tk hvs⟩, .upd e sb ⟨_, ho'⟩, ⟨rfl, rfl, rfl⟩, h⟩
theorem sndF_append : SndF g r (.builtin "list.append") tAppend := .mk fun A s σ xs vs Q E G F Rm R hv h => by
  unfold tAppend at h
  split at h
  · rename_i a x
    obtain ⟨v, _, rfl, ha, hr⟩ := VRs_cons_inv hv
    obtain ⟨u, _, rfl, hx, hr⟩ := VRs_cons_inv hr; clear hr
    rw [VRs_nil_inv hr, VR_ref.mp ha]
    split at h
    · rename_i ys e
      obtain ⟨hf, us, n, ho, hvs⟩ := (R.own a _ e).2
      have hlen : ys.length = us.size := by have := VRs_length hvs; simpa using this
      refine wpAny_list_append_plain ⟨n, ho⟩ (fun h' hpl sb => ?_) (by rw [← hlen]; exact hf.line)
      obtain ⟨m, ho'⟩ := hpl
      exact list_changed R e (by simpa using h.1) ho' sb (by rw [Array.toList_push]; exact VRs_snoc hvs hx) (VR_none.mpr rfl) h.2
    · exact h.elim
  · exact h.elim
end
section
open PySem PyProof.Rows
variable {g : Gr} {sc csc : Scope} {r : Nat} {c : Bool}
theorem fitsS {x : Str} (h : x.length ≤ 1000000) : Fits x.length := h
section
variable {o : Expr} {apos pos : Pos} {args : List Expr} {to : TE} {ts : TL}
theorem mAppend (ho : SndE g sc r true o to) (hL : SndL g sc r true args ts) (hp : Plain args) (hbase : isCall o = false) (hfew : decide (args.length < 30) = true)
    (hline : (apos.endLine == pos.line) = true) : SndE g sc r true (.Call (.Attribute o (Str.ofString "append") apos) args [] pos) (tMethod .list tAppend to ts) :=
  sndE_method (T := .list) F.plainAttrs_list F.slot_list_append F.type_list_append sndF_append ho hL hp hbase hfew hline
end
/-- the i-th of a list -/
noncomputable def nth {α : Type} : List α → Nat → Option α
  | [], _ => none
  | a :: _, 0 => some a
  | _ :: l, i + 1 => nth l i
theorem at_ {α : Type} : ∀ {l : List α} {i : Nat} {x : α}, nth l i = some x → x ∈ l
  | _ :: _, 0, _, h => by cases h; exact .head _
  | _ :: _, _ + 1, _, h => .tail _ (at_ h)
theorem len1 {vs : List Value} (h : vs.length = 1) : ∃ a, vs = [a] := List.length_eq_one_iff.mp h
theorem len2 {vs : List Value} (h : vs.length = 2) : ∃ a b, vs = [a, b] := by
  cases vs with
  | nil => cases h
  | cons a l => obtain ⟨b, rfl⟩ := len1 (Nat.succ.inj h); exact ⟨_, _, rfl⟩
/-! ## names of the module -/
theorem glo_of {mg : Str → Option Value} {o : Obj} {es : Array DictEntry} {ep : Nat} {n : String} {v : Value} (hN : g.b0.Ns mainGlobals mg) (h3 : g.b0.get? mainGlobals = some o) (hd : o.data = .dict es ep) (e : nsFind es (Str.ofString n) = some v) : Known g n v := by
  obtain ⟨o', es', ep', ho, hd', hk, hf⟩ := id hN
  rw [h3] at ho; cases ho
  rw [hd] at hd'; cases hd'
  exact .inl ⟨mg, hN, (hf _).symm.trans e⟩
theorem bui_of {mg mb : Str → Option Value} {o : Obj} {es : Array DictEntry} {ep : Nat} {n : String} {v : Value} (hN : g.b0.Ns mainGlobals mg) (h3 : g.b0.get? mainGlobals = some o) (hd : o.data = .dict es ep) (e : nsFind es (Str.ofString n) = none)
    (hB : g.b0.Ns builtinsNs mb) (hb : ∀ x : Str, x ≠ "__name__" → mb x = bootBuiltins x) (hn : Str.ofString n ≠ "__name__") (hv : bootBuiltins (Str.ofString n) = some v) : Known g n v := by
  obtain ⟨o', es', ep', ho, hd', hk, hf⟩ := id hN
  rw [h3] at ho; cases ho
  rw [hd] at hd'; cases hd'
  exact .inr ⟨mg, mb, hN, (hf _).symm.trans e, hB, (hb _ hn).trans hv⟩
theorem fn_builtin {n id : String} {t : TF} (h : Known g n (.builtin id)) (hF : SndF g r (.builtin id) t) : FnG g n r t := ⟨_, h, .inr (.inl ⟨_, rfl⟩), hF⟩
theorem fn_type {n id : String} {t : TF} (h : Known g n (.type id)) (hF : SndF g r (.type id) t) : FnG g n r t := ⟨_, h, .inr (.inr ⟨_, rfl⟩), hF⟩
theorem fn_def {n : String} {a : Addr} {o : Obj} {fd : FuncData} {t : TF} (h : Known g n (.ref a)) (ho : g.b0.get? a = some o) (hd : o.data = .func fd) (hF : SndF g r (.ref a) t) : FnG g n r t := ⟨_, h, .inl ⟨a, o, fd, rfl, ho, hd⟩, hF⟩
theorem CodeRec.mk' {h : Heap} {c : Addr} {oc : Obj} {vs : Array Value} {tq : Tok} {q : Str} (hoc : h.get? c = some oc) (hd : oc.data = .fields vs) (hq : vs[1]? = some (.str q tq)) : h.CodeRec (.ref c) q := ⟨c, oc, vs, tq, rfl, hoc, hd, hq⟩
end
section
open PySem PyProof.Rows
/-! ## reasoning with the abstract heap -/
theorem AH.set_same {σ : AH} {a : Addr} {o : AO} : (σ.set a o) a = some o := if_pos rfl
theorem AH.set_other {σ : AH} {a b : Addr} {o : AO} (h : b ≠ a) : (σ.set a o) b = σ b := if_neg h
/-- one heap is part of the other -/
noncomputable def Sub (σ σ' : AH) : Prop := ∀ a o, σ a = some o → σ' a = some o
theorem Sub.refl {σ : AH} : Sub σ σ := fun _ _ h => h
theorem Sub.new {σ σ' : AH} {a : Addr} {o : AO} (x : Sub σ σ') (h : σ' a = none) : Sub σ (σ'.set a o) := fun b p e => by
  have e' := x b p e
  rw [AH.set_other fun z => by rw [z, h] at e'; cases e']
  exact e'
theorem Sub.upd {σ σ' : AH} {a : Addr} {o : AO} (x : Sub σ σ') (h : σ a = none) : Sub σ (σ'.set a o) := fun b p e => by
  rw [AH.set_other fun z => by rw [z, h] at e; cases e]
  exact x b p e
theorem Sub.none {σ σ' : AH} {a : Addr} (x : Sub σ σ') (h : σ' a = Option.none) : σ a = Option.none := by
  cases e : σ a with
  | none => rfl
  | some o => rw [x a o e] at h; cases h
theorem ne_of {σ : AH} {a b : Addr} {o : AO} (h : σ a = some o) (k : σ b = none) : a ≠ b := fun z => by rw [z, k] at h; cases h
theorem new_keeps {σ : AH} {a b : Addr} {o p : AO} (h : σ a = some o) (k : σ b = none) : (σ.set b p) a = some o := by rw [AH.set_other (ne_of h k)]; exact h
/-! ## ints -/
theorem loopT_ind {t : Tgt} {inv : AH → Prop} {tb : TS} {Q : Fl → Loc → AH → Prop} {E : Addr → Loc → AH → Prop} (I : List V → Loc → AH → Prop) (h0 : ∀ ℓ σ, I [] ℓ σ → inv σ ∧ Q .next ℓ σ)
    (h1 : ∀ x xs ℓ σ, (∀ ℓ' σ', I xs ℓ' σ' → loopT t inv tb xs ℓ' σ' Q E) → I (x :: xs) ℓ σ → inv σ ∧ bindV t x ℓ σ fun ℓ₁ => tb ℓ₁ σ (fun f ℓ₂ σ₂ => match f with
      | .next => loopT t inv tb xs ℓ₂ σ₂ Q E
      | .cont => loopT t inv tb xs ℓ₂ σ₂ Q E
      | .brk => Q .next ℓ₂ σ₂
      | .ret v => Q (.ret v) ℓ₂ σ₂) E) : ∀ xs ℓ σ, I xs ℓ σ → loopT t inv tb xs ℓ σ Q E
  | [], ℓ, σ, h => h0 ℓ σ h
  | x :: xs, ℓ, σ, h => h1 x xs ℓ σ (fun ℓ' σ' h' => loopT_ind I h0 h1 xs ℓ' σ' h') h
/-- a comprehension over known things, whose parts change nothing -/
theorem compT_map {α : Type} {t : Tgt} {inv : AH → Prop} {tifs : TB} {telt : TE} {ℓ : Loc} {σ : AH} {Q : List V → AH → Prop} {E : Addr → AH → Prop} (f : α → V) (p : α → Bool) (F : α → V) (hinv : inv σ) :
    ∀ (xs : List α) (acc : List V), (∀ x ∈ xs, ∃ ℓ₁, (∀ P : Loc → Prop, P ℓ₁ → bindV t (f x) ℓ.bare σ P) ∧ (∀ Qb, Qb (p x) σ → tifs ℓ₁ σ Qb E) ∧ (p x = true → ∀ Qv, Qv (F x) σ → telt ℓ₁ σ Qv E)) →
      Q (acc ++ (xs.filter p).map F) σ → compT t inv tifs telt ℓ (xs.map f) acc σ Q E
  | [], acc, _, h => ⟨hinv, by simpa using h⟩
  | x :: xs, acc, hs, h => by
    obtain ⟨ℓ₁, h1, h2, h3⟩ := hs x (.head _)
    have ih := compT_map (t := t) (inv := inv) (tifs := tifs) (telt := telt) (ℓ := ℓ) (E := E) (Q := Q) f p F hinv xs
    refine ⟨hinv, h1 _ (h2 _ ?_)⟩
    cases e : p x with
    | true =>
      refine h3 e _ (ih _ (fun y hy => hs y (.tail _ hy)) ?_)
      rw [List.filter_cons_of_pos (by simpa using e)] at h
      simpa using h
    | false =>
      refine ih _ (fun y hy => hs y (.tail _ hy)) ?_
      rw [List.filter_cons_of_neg (by simp [e])] at h
      exact h
theorem rangeV_drop {lo : Int} {n i : Nat} (h : i < n) : (rangeV lo n).drop i = .int (lo + (i : Int)) :: (rangeV lo n).drop (i + 1) := by
  have hl : i < (rangeV lo n).length := by simpa [rangeV] using h
  rw [List.drop_eq_getElem_cons hl]
  simp [rangeV]
theorem rangeV_end {lo : Int} {n : Nat} : (rangeV lo n).drop n = [] := List.drop_eq_nil_of_le (by simp [rangeV])
theorem loopT_range {t : Tgt} {inv : AH → Prop} {tb : TS} {Q : Fl → Loc → AH → Prop} {E : Addr → Loc → AH → Prop} {n : Nat} (I : Nat → Loc → AH → Prop) (h0 : ∀ ℓ σ, I n ℓ σ → inv σ ∧ Q .next ℓ σ)
    (h1 : ∀ i ℓ σ, i < n → (∀ ℓ' σ', I (i + 1) ℓ' σ' → loopT t inv tb ((rangeV 0 n).drop (i + 1)) ℓ' σ' Q E) → I i ℓ σ → inv σ ∧ bindV t (.int (i : Int)) ℓ σ fun ℓ₁ => tb ℓ₁ σ (fun f ℓ₂ σ₂ => match f with
      | .next => loopT t inv tb ((rangeV 0 n).drop (i + 1)) ℓ₂ σ₂ Q E
      | .cont => loopT t inv tb ((rangeV 0 n).drop (i + 1)) ℓ₂ σ₂ Q E
      | .brk => Q .next ℓ₂ σ₂
      | .ret v => Q (.ret v) ℓ₂ σ₂) E) {ℓ : Loc} {σ : AH} (h : I 0 ℓ σ) : loopT t inv tb (rangeV 0 n) ℓ σ Q E := by
  have key : ∀ k i ℓ σ, n - i = k → i ≤ n → I i ℓ σ → loopT t inv tb ((rangeV 0 n).drop i) ℓ σ Q E := by
    intro k
    induction k with
    | zero =>
      intro i ℓ σ hk hi h
      have : i = n := by omega
      subst this
      rw [rangeV_end]
      exact h0 ℓ σ h
    | succ k ih =>
      intro i ℓ σ hk hi h
      have hlt : i < n := by omega
      rw [rangeV_drop hlt]
      have := h1 i ℓ σ hlt (fun ℓ' σ' h' => ih (i + 1) ℓ' σ' (by omega) hlt h') h
      rw [show (0 : Int) + (i : Int) = (i : Int) by omega]
      exact this
  simpa using key n 0 ℓ σ (by omega) (by omega) h
theorem filter_all {α : Type} (xs : List α) : xs.filter (fun _ => true) = xs := by
  induction xs with
  | nil => rfl
  | cons x xs ih => rw [List.filter_cons_of_pos rfl, ih]
/-- a comprehension without tests -/
theorem compT_each {α : Type} {t : Tgt} {inv : AH → Prop} {telt : TE} {ℓ : Loc} {σ : AH} {Q : List V → AH → Prop} {E : Addr → AH → Prop} (f : α → V) (F : α → V) (hinv : inv σ) (xs : List α)
    (hs : ∀ x ∈ xs, ∃ ℓ₁, (∀ P : Loc → Prop, P ℓ₁ → bindV t (f x) ℓ.bare σ P) ∧ ∀ Qv, Qv (F x) σ → telt ℓ₁ σ Qv E) (h : Q (xs.map F) σ) : compT t inv (tConstB true) telt ℓ (xs.map f) [] σ Q E :=
  compT_map f (fun _ => true) F hinv xs [] (fun x hx => let ⟨ℓ₁, h1, h2⟩ := hs x hx; ⟨ℓ₁, h1, fun _ h => h, fun _ => h2⟩) (by rw [filter_all]; exact h)
/-- a comprehension with a test -/
theorem compT_some {α : Type} {t : Tgt} {inv : AH → Prop} {tifs : TB} {telt : TE} {ℓ : Loc} {σ : AH} {Q : List V → AH → Prop} {E : Addr → AH → Prop} (f : α → V) (p : α → Bool) (F : α → V) (hinv : inv σ) (xs : List α)
    (hs : ∀ x ∈ xs, ∃ ℓ₁, (∀ P : Loc → Prop, P ℓ₁ → bindV t (f x) ℓ.bare σ P) ∧ (∀ Qb, Qb (p x) σ → tifs ℓ₁ σ Qb E) ∧ (p x = true → ∀ Qv, Qv (F x) σ → telt ℓ₁ σ Qv E)) (h : Q ((xs.filter p).map F) σ) : compT t inv tifs telt ℓ (xs.map f) [] σ Q E :=
  compT_map f p F hinv xs [] hs h
/-! ## with what comes behind left unsaid -/
theorem tFun_k {ps : List String} {tb : TS} {xs : List V} {σ : AH} {Q : V → AH → Prop} {E : Addr → AH → Prop} (hl : xs.length = ps.length)
    (h : ∀ (K : Fl → Loc → AH → Prop) (KE : Addr → Loc → AH → Prop), (∀ v ℓ' σ' σ'', Sub σ'' σ' → Q v σ'' → K (.ret v) ℓ' σ') → (∀ ℓ' σ' σ'', Sub σ'' σ' → Q .none σ'' → K .next ℓ' σ') → (∀ C ℓ' σ' σ'', Sub σ'' σ' → E C σ'' → KE C ℓ' σ') →
      tb (Loc.empty.setAll ps xs) σ K KE) : tFun ps tb xs σ Q E :=
  ⟨hl, h _ _ (fun _ _ _ σ'' hs hq => ⟨σ'', hs, hq⟩) (fun _ _ σ'' hs hq => ⟨σ'', hs, hq⟩) fun _ _ _ σ'' hs hq => ⟨σ'', hs, hq⟩⟩
theorem loopT_k0 {t : Tgt} {inv : AH → Prop} {tb : TS} {Q : Fl → Loc → AH → Prop} {E : Addr → Loc → AH → Prop} (I : List V → Loc → AH → Prop) (h0 : ∀ ℓ σ, I [] ℓ σ → inv σ ∧ Q .next ℓ σ)
    (h1 : ∀ x xs ℓ σ (K : Fl → Loc → AH → Prop), (∀ ℓ' σ', I xs ℓ' σ' → K .next ℓ' σ') → (∀ v ℓ' σ', Q (.ret v) ℓ' σ' → K (.ret v) ℓ' σ') → (∀ ℓ' σ', Q .next ℓ' σ' → K .brk ℓ' σ') → (∀ ℓ' σ', I xs ℓ' σ' → K .cont ℓ' σ') →
      I (x :: xs) ℓ σ → inv σ ∧ bindV t x ℓ σ fun ℓ₁ => tb ℓ₁ σ K E) {xs : List V} {ℓ : Loc} {σ : AH} (h : I xs ℓ σ) : loopT t inv tb xs ℓ σ Q E :=
  loopT_ind I h0 (fun x xs ℓ σ ih hI => h1 x xs ℓ σ _ (fun ℓ' σ' h => ih ℓ' σ' h) (fun _ _ _ h => h) (fun _ _ h => h) (fun ℓ' σ' h => ih ℓ' σ' h) hI) xs ℓ σ h
theorem loopT_rangeK0 {t : Tgt} {inv : AH → Prop} {tb : TS} {Q : Fl → Loc → AH → Prop} {E : Addr → Loc → AH → Prop} {n : Nat} (I : Nat → Loc → AH → Prop) (h0 : ∀ ℓ σ, I n ℓ σ → inv σ ∧ Q .next ℓ σ)
    (h1 : ∀ i ℓ σ (K : Fl → Loc → AH → Prop), i < n → (∀ ℓ' σ', I (i + 1) ℓ' σ' → K .next ℓ' σ') → (∀ v ℓ' σ', Q (.ret v) ℓ' σ' → K (.ret v) ℓ' σ') → (∀ ℓ' σ', Q .next ℓ' σ' → K .brk ℓ' σ') → (∀ ℓ' σ', I (i + 1) ℓ' σ' → K .cont ℓ' σ') →
      I i ℓ σ → inv σ ∧ bindV t (.int (i : Int)) ℓ σ fun ℓ₁ => tb ℓ₁ σ K E) {ℓ : Loc} {σ : AH} (h : I 0 ℓ σ) : loopT t inv tb (rangeV 0 n) ℓ σ Q E :=
  loopT_range I h0 (fun i ℓ σ hi ih hI => h1 i ℓ σ _ hi (fun ℓ' σ' h => ih ℓ' σ' h) (fun _ _ _ h => h) (fun _ _ h => h) (fun ℓ' σ' h => ih ℓ' σ' h) hI) h
theorem loopT_k {t : Tgt} {inv : AH → Prop} {tb : TS} {Q : Fl → Loc → AH → Prop} {E : Addr → Loc → AH → Prop} (I : List V → Loc → AH → Prop) (h0 : ∀ ℓ σ, I [] ℓ σ → inv σ ∧ Q .next ℓ σ)
    (h1 : ∀ x xs ℓ σ (K : Fl → Loc → AH → Prop), (∀ ℓ' σ', I xs ℓ' σ' → K .next ℓ' σ') → (∀ v ℓ' σ', Q (.ret v) ℓ' σ' → K (.ret v) ℓ' σ') → I (x :: xs) ℓ σ → inv σ ∧ bindV t x ℓ σ fun ℓ₁ => tb ℓ₁ σ K E) {xs : List V} {ℓ : Loc} {σ : AH} (h : I xs ℓ σ) : loopT t inv tb xs ℓ σ Q E :=
  loopT_k0 I h0 (fun x xs ℓ σ K a b _ _ => h1 x xs ℓ σ K a b) h
theorem loopT_rangeK {t : Tgt} {inv : AH → Prop} {tb : TS} {Q : Fl → Loc → AH → Prop} {E : Addr → Loc → AH → Prop} {n : Nat} (I : Nat → Loc → AH → Prop) (h0 : ∀ ℓ σ, I n ℓ σ → inv σ ∧ Q .next ℓ σ)
    (h1 : ∀ i ℓ σ (K : Fl → Loc → AH → Prop), i < n → (∀ ℓ' σ', I (i + 1) ℓ' σ' → K .next ℓ' σ') → (∀ v ℓ' σ', Q (.ret v) ℓ' σ' → K (.ret v) ℓ' σ') → I i ℓ σ → inv σ ∧ bindV t (.int (i : Int)) ℓ σ fun ℓ₁ => tb ℓ₁ σ K E) {ℓ : Loc} {σ : AH} (h : I 0 ℓ σ) : loopT t inv tb (rangeV 0 n) ℓ σ Q E :=
  loopT_rangeK0 I h0 (fun i ℓ σ K hi a b _ _ => h1 i ℓ σ K hi a b) h
theorem tSeq_n {t ts : TS} {ℓ : Loc} {σ : AH} {Q : Fl → Loc → AH → Prop} {E : Addr → Loc → AH → Prop} (h : ∀ K : Fl → Loc → AH → Prop, (∀ ℓ' σ', ts ℓ' σ' Q E → K .next ℓ' σ') → t ℓ σ K E) : tSeq t ts ℓ σ Q E :=
  h _ (fun _ _ h => h)
theorem tSeq_r {t ts : TS} {ℓ : Loc} {σ : AH} {Q : Fl → Loc → AH → Prop} {E : Addr → Loc → AH → Prop} (h : ∀ K : Fl → Loc → AH → Prop, (∀ ℓ' σ', ts ℓ' σ' Q E → K .next ℓ' σ') → (∀ v ℓ' σ', Q (.ret v) ℓ' σ' → K (.ret v) ℓ' σ') → t ℓ σ K E) : tSeq t ts ℓ σ Q E :=
  h _ (fun _ _ h => h) (fun _ _ _ h => h)
theorem tSeq_e {t ts : TS} {ℓ : Loc} {σ : AH} {Q : Fl → Loc → AH → Prop} {E : Addr → Loc → AH → Prop} (h : ∀ K : Fl → Loc → AH → Prop, (∀ v ℓ' σ', Q (.ret v) ℓ' σ' → K (.ret v) ℓ' σ') → t ℓ σ K E) : tSeq t ts ℓ σ Q E :=
  h _ (fun _ _ _ h => h)
theorem map_cons_inv {α : Type} {f : α → V} {v : V} {xs : List V} {l : List α} (h : v :: xs = l.map f) : ∃ a r, l = a :: r ∧ v = f a ∧ xs = r.map f := by
  cases l with
  | nil => cases h
  | cons a r => injection h with h1 h2; exact ⟨a, r, rfl, h1, h2⟩
theorem map_nil_inv {α : Type} {f : α → V} {l : List α} (h : [] = l.map f) : l = [] := by
  cases l with
  | nil => rfl
  | cons a r => cases h
end
section
open PySem PyProof.Rows
/-! ## data of ints and of rows -/
theorem data_ints {σ : AH} : ∀ (ns : List Int), DataOfs σ (ns.map PyData.int) (ns.map V.int)
  | [] => by simp [DataOfs]
  | n :: ns => by
    simp only [List.map_cons, DataOfs]
    exact ⟨_, _, rfl, by simp [DataOf], data_ints ns⟩
theorem data_list {σ : AH} {a : Addr} {xs : List V} {ds : List PyData} (e : σ a = some (.list xs)) (h : DataOfs σ ds xs) : DataOf σ (.list ds) (.ref a) := by
  unfold DataOf; exact ⟨a, xs, rfl, e, h⟩
theorem canLay_ints : ∀ ns : List Int, PyData.canLayAll0 (ns.map PyData.int) = true
  | [] => by simp [PyData.canLayAll0]
  | n :: ns => by simp [PyData.canLayAll0, PyData.canLay0, canLay_ints ns]
theorem depth_ints : ∀ ns : List Int, PyData.depthAll (ns.map PyData.int) ≤ 1
  | [] => by simp [PyData.depthAll]
  | n :: ns => by
    have := depth_ints ns
    simp only [List.map_cons, PyData.depthAll, PyData.depth]; omega
theorem lay_none : Lay .none := ⟨by simp [PyData.canLay0], by simp [PyData.depth]⟩
theorem eqvAll_ints : ∀ ns ms : List Int, PyData.eqvAll (ns.map PyData.int) (ms.map PyData.int) = (ns == ms)
  | [], [] => by simp [PyData.eqvAll]
  | [], m :: ms => by simp [PyData.eqvAll]
  | n :: ns, [] => by simp [PyData.eqvAll]
  | n :: ns, m :: ms => by
    simp only [List.map_cons, PyData.eqvAll, PyData.eqv, eqvAll_ints ns ms]
    rw [Bool.eq_iff_iff]; simp
theorem atV_nat {xs : List V} {i : Nat} {x : V} (h : xs[i]? = some x) : atV xs (i : Int) = some x := by
  have hl : i < xs.length := by
    rcases Nat.lt_or_ge i xs.length with q | q
    · exact q
    · rw [List.getElem?_eq_none q] at h; cases h
  have e : seqIndex? (i : Int) xs.length = some i := by
    unfold seqIndex?
    rw [if_neg (show ¬ ((i : Int) < 0) by omega)]
    simp only
    rw [if_pos (by simp; omega)]
    simp
  unfold atV
  rw [e]; exact h
theorem atV_int {xs : List V} {k : Int} {x : V} (h0 : 0 ≤ k) (h : xs[k.toNat]? = some x) : atV xs k = some x := by
  have : k = ((k.toNat : Nat) : Int) := by omega
  rw [this]; exact atV_nat h
theorem row_at {r : List Int} {i : Nat} (h : i < r.length) : atV (r.map V.int) (i : Int) = some (.int (r.getD i 0)) := by
  refine atV_nat ?_
  simp [h]
end
section
open PySem PySem.W PyProof.Rows
variable {g : Gr} {sc csc : Scope} {r : Nat} {c : Bool} {K : Frag}
/-! ## objects of a class of the program -/
variable {g : Gr} {sc csc : Scope} {r : Nat} {c : Bool} {K : Frag}
/-! ## an attribute is set -/
end
section
open PySem PySem.W PyProof.Rows
variable {g : Gr} {sc csc : Scope} {r : Nat} {c : Bool} {K : Frag}
/-! ## methods of the program's classes -/
/-! ## objects are made -/
end
section
open PySem PySem.W PyProof.Rows
variable {g : Gr} {sc csc : Scope} {r : Nat} {c : Bool} {K : Frag}
/-! ## an item is set -/
variable {g : Gr} {sc csc : Scope} {r : Nat} {c : Bool} {K : Frag}
theorem DictAt_of {K' : Type} [DecidableEq K'] {prog : Program} {w : World} {knd : KeyKind prog w K'} {h : Heap} {a : Addr} {kvs : List (K' × Value)} (x : h.DictOf knd a kvs) : ∃ ep, h.DictAt knd a kvs ep := let ⟨o, es, ep, r⟩ := x; ⟨ep, o, es, r⟩
end
section
open PySem PyProof.Rows
variable {g : Gr} {sc csc : Scope} {r : Nat} {c : Bool}
/-! ## what is never reached -/
/-! ## while -/
/-! ## the values of a dict are walked through -/
end
section
open PySem PySem.W PyProof.Rows
variable {g : Gr} {sc csc : Scope} {r : Nat} {c : Bool} {K : Frag}
/-! ## list(range(n)) -/
/-! ## a list times an int -/
/-! ## a list backwards -/
/-! ## len(set(list of ints)) -/
end
section
open PySem PySem.W PyProof.Rows
variable {prog : Program} {w : World}
/-! ## the least of a list of tuples -/
section
variable {A : Around} {R : Result → Shared → Prop} {I : Addr} {fp wr : List Addr} {n : Nat} {P : Nat → Value → Prop} {St : Nat → Heap → Prop} {h0 : Heap}
end
variable {g : Gr} {sc : Scope} {r : Nat} {c : Bool}
end
section
open PySem PySem.W PyProof.Rows
variable {g : Gr} {sc csc : Scope} {r : Nat} {c : Bool} {K : Frag}
/-! ## dicts are made -/
noncomputable def tDict0 : TE := fun _ σ Q _ => ∀ a ep, σ a = none → Q (.ref a) (σ.set a (.dictI [] ep))
theorem sndE_dict0 {pos : Pos} : SndE g sc r c (.Dict [] [] pos) tDict0 := .mk fun A env s ℓ σ Q E X h => by
  refine wpAny_Dict_empty ?_
  have kp := push_keeps s.heap { cls := .type "dict", data := .dict #[] }
  have hD : (s.heap.push { cls := .type "dict", data := .dict #[] }).DictOf (intKind g.prog g.w) s.heap.objs.size [] := Heap.DictOf.new s.heap
  obtain ⟨ep, hD⟩ := DictAt_of hD
  exact ⟨.ref s.heap.objs.size, σ.set s.heap.objs.size (.dictI [] ep), VR_ref.mpr rfl, X.rel.alloc kp (size_fresh _) ⟨by simp [Fits], [], hD, rfl, VRs_nil⟩, .alloc kp (size_fresh _), ⟨rfl, rfl, rfl⟩, h _ _ (X.rel.fresh (size_fresh _))⟩
/-- a transformer that changes nothing -/
noncomputable def Unmoved (t : TE) : Prop := ∀ ℓ σ Q E, t ℓ σ Q E → ∃ x, Q x σ ∧ ∀ σ' (Q' : V → AH → Prop) E', Q' x σ' → t ℓ σ' Q' E'
theorem unmoved_const {x : V} : Unmoved (tConst x) := fun ℓ σ Q E h => ⟨x, h, fun _ _ _ q => q⟩
theorem AH.set_set {σ : AH} {a : Addr} {o p : AO} : (σ.set a o).set a p = σ.set a p := by
  funext b; unfold AH.set; split <;> rfl
/-- two strings as keys -/
noncomputable def tDict2 (k₁ v₁ k₂ v₂ : TE) : TE := fun ℓ σ Q E => k₁ ℓ σ (fun a σ₁ => v₁ ℓ σ₁ (fun x σ₂ => k₂ ℓ σ₂ (fun b σ₃ => v₂ ℓ σ₃ (fun y σ₄ => ∃ ka kb, a = .str ka ∧ b = .str kb ∧ ka ≠ kb ∧ ∀ d ep, σ₄ d = none → Q (.ref d) (σ₄.set d (.dictS [(ka, x), (kb, y)] ep))) E) E) E) E
theorem sndE_dict2 {e₁ e₂ e₃ e₄ : Expr} {pos : Pos} {k₁ v₁ k₂ v₂ : TE} (u1 : Unmoved k₁) (u2 : Unmoved v₁) (u3 : Unmoved k₂) (u4 : Unmoved v₂) (h1 : SndE g sc r c e₁ k₁) (h2 : SndE g sc r c e₂ v₁) (h3 : SndE g sc r c e₃ k₂) (h4 : SndE g sc r c e₄ v₂) :
    SndE g sc r c (.Dict [some e₁, some e₃] [e₂, e₄] pos) (tDict2 k₁ v₁ k₂ v₂) := .mk fun A env s ℓ σ Q E X h => by
  obtain ⟨a, h, f1⟩ := u1 _ _ _ _ h
  obtain ⟨x, h, f2⟩ := u2 _ _ _ _ h
  obtain ⟨b, h, f3⟩ := u3 _ _ _ _ h
  obtain ⟨y, ⟨ka, kb, rfl, rfl, hne, h⟩, f4⟩ := u4 _ _ _ _ h
  refine wpAny_Dict_pairs (knd := strKind g.prog g.w) (pairs := [(eval e₁ env, do let x ← eval e₂ env; standAt pos; pure x), (eval e₃ env, do let x ← eval e₄ env; standAt pos; pure x)]) rfl (by simp) (by simp) ?_
  have kp := push_keeps s.heap { cls := .type "dict", data := .dict #[] }
  obtain ⟨ep, hD⟩ := DictAt_of (Heap.DictOf.new (knd := strKind g.prog g.w) s.heap)
  have off : σ s.heap.objs.size = none := X.rel.fresh (size_fresh _)
  have R0 : Rel g (s.heap.push { cls := .type "dict", data := .dict #[] }) (σ.set s.heap.objs.size (.dictS [] ep)) := X.rel.alloc kp (size_fresh _) ⟨by simp [Fits], [], hD, rfl, VRs_nil⟩
  have x0 : Ext No s.heap σ (s.heap.push { cls := .type "dict", data := .dict #[] }) (σ.set s.heap.objs.size (.dictS [] ep)) := .alloc kp (size_fresh _)
  have X0 : Cx g sc r c A env ({ s with heap := s.heap.push { cls := .type "dict", data := .dict #[] } } : Shared).heap (σ.set s.heap.objs.size (.dictS [] ep)) ℓ := X.step R0 x0
  have key : ∀ {e : Expr} {t : TE} {v : V}, SndE g sc r c e t → (∀ σ' (Q' : V → AH → Prop) E', Q' v σ' → t ℓ σ' Q' E') → ∀ {s₁ : Shared} {P : Value → Shared → Prop}, Cx g sc r c A env s₁.heap (σ.set s.heap.objs.size (.dictS [] ep)) ℓ →
      Ext No s.heap σ s₁.heap (σ.set s.heap.objs.size (.dictS [] ep)) → Same s s₁ → (∀ u s₂, VR g s₂.heap v u → Cx g sc r c A env s₂.heap (σ.set s.heap.objs.size (.dictS [] ep)) ℓ → Ext No s₁.heap (σ.set s.heap.objs.size (.dictS [] ep)) s₂.heap (σ.set s.heap.objs.size (.dictS [] ep)) → Same s s₂ → P u s₂) →
      wpAny (model g.prog g.w) A (eval e env) P (PostX g A s σ E) s₁ := fun {e t v} hS f {s₁ P} X1 x1 sm k => by
    refine wpAny_mono (hS.run A env s₁ ℓ _ (fun w σ'' => w = v ∧ σ'' = σ.set s.heap.objs.size (.dictS [] ep)) E X1 (f _ _ _ ⟨rfl, rfl⟩)) (fun u s₂ p => ?_) fun _ _ p => p.back x1 sm
    obtain ⟨w, σ₂, hv, hR, hx, hs, rfl, rfl⟩ := p
    exact k u s₂ hv (X1.step hR hx) hx (sm.trans hs)
  refine evalPairs_cons (key h1 f1 X0 x0 ⟨rfl, rfl, rfl⟩ fun va s₁ hva X1 y1 m1 => ?_)
  refine wpAny_bind (key h2 f2 X1 (x0.trans y1) m1 fun vx s₂ hvx X2 y2 m2 => wpAny_bind (wpAny_standAt (wpAny_pure ?_)))
  refine evalPairs_cons (key h3 f3 X2 ((x0.trans y1).trans y2) m2 fun vb s₃ hvb X3 y3 m3 => ?_)
  refine wpAny_bind (key h4 f4 X3 (((x0.trans y1).trans y2).trans y3) m3 fun vy s₄ hvy X4 y4 m4 => wpAny_bind (wpAny_standAt (wpAny_pure ?_)))
  refine evalPairs_nil ?_
  obtain ⟨fa, ta, rfl⟩ := VR_str.mp hva
  obtain ⟨fb, tb, rfl⟩ := VR_str.mp hvb
  have hvx4 := (y3.trans y4).vr X2.rel noSeq_no hvx
  have e0 : (σ.set s.heap.objs.size (.dictS [] ep)) s.heap.objs.size = some (.dictS [] ep) := AH.set_same
  obtain ⟨_, us, hd, hk, _⟩ := (X4.rel.own _ _ e0).2
  have hus : us = [] := by cases us with | nil => rfl | cons _ _ => simp at hk
  subst hus
  refine ⟨[(ka, vx), (kb, vy)], ⟨strKind_is _ _ ka ta, rfl, strKind_is _ _ kb tb, rfl, trivial⟩, hd.dictOf, fun h' hd' sb => ?_⟩
  have hm : merged ([] : List (Str × Value)) [(ka, vx), (kb, vy)] = [(ka, vx), (kb, vy)] := by
    simp [merged, stored, hne]
  rw [hm] at hd'
  obtain ⟨ep', hd'⟩ := DictAt_of hd'
  have tk : TupsKept g s₄.heap h' := fun z o us m _ q cc d => by
    obtain ⟨o₀, e₀, c₀⟩ := OR_some (X4.rel.own _ _ e0).2
    refine .of (sb.extBut z o (fun w => ?_) q)
    subst w; rw [e₀] at q; cases q; exact c₀ _ _ cc d
  have hor : OR g h' s.heap.objs.size (.dictS [(ka, x), (kb, y)] ep') := ⟨by simp [Fits], _, hd', rfl, VRs_cons (VR.mono tk hvx4) (VRs_cons (VR.mono tk hvy) VRs_nil)⟩
  have pr : ∃ o, h'.get? s.heap.objs.size = some o := let ⟨o, q, _⟩ := OR_some hor; ⟨o, q⟩
  have R5 := X4.rel.upd e0 sb hor
  have x5 : Ext No s₄.heap (σ.set s.heap.objs.size (.dictS [] ep)) h' ((σ.set s.heap.objs.size (.dictS [] ep)).set s.heap.objs.size (.dictS [(ka, x), (kb, y)] ep')) := .upd e0 sb pr
  rw [AH.set_set] at R5 x5
  exact ⟨.ref _, _, VR_ref.mpr rfl, R5, ((((x0.trans y1).trans y2).trans y3).trans y4).trans x5, m4.trans ⟨rfl, rfl, rfl⟩, h _ _ off⟩
variable {g : Gr} {sc csc : Scope} {r : Nat} {c : Bool} {K : Frag}
/-! ## dict.pop -/
/-! ## sorted -/
variable {g : Gr} {sc csc : Scope} {r : Nat} {c : Bool} {K : Frag}
end
section
open PySem PyProof.Rows
variable {g : Gr} {sc : Scope} {r : Nat} {c : Bool}
/-! ## raising -/
/-- a class of exceptions of the program, made from ValueError -/
inductive ExcC (g : Gr) (C : Addr) : Prop
  | mk (nm q : Str) (N : Addr) (bs bm : List Value) (hdct : Bool) (sn : List Str) (sub : List Value) (ab : Bool) (col : Option Bool) (dd : Option Addr) (k0 k1 k2 k3 k5 : Option Value) (mN : Str → Option Value)
    (ho : g.b0.get? C = some (excClassObj nm q C N bs bm hdct sn sub ab col dd k0 k1 k2 k3 k5 "ValueError.__new__")) (hn : g.b0.Ns N mN) (hi : mN "__init__" = none)
    (ht : OwnTail g.b0 [.type "ValueError", .type "Exception", .type "BaseException", .type "object"] bm) : ExcC g C
noncomputable def tRaise (C : Addr) (ts : TL) : TS := fun ℓ σ Q E => ts ℓ σ (fun vs σ' => vs.length ≤ 1000 ∧ E C ℓ σ') fun C' σ' => E C' ℓ σ'
theorem sndS_raise {n : String} {C : Addr} {np cpos pos : Pos} {args : List Expr} {ts : TL} (hm : (Str.ofString n, NameKind.globalImplicit) ∈ sc.names) (hn : Known g n (.ref C)) (hC : ExcC g C) (hL : SndL g sc r true args ts) (hp : Plain args) :
    SndS g sc r true (.Raise (some (.Call (.Name (Str.ofString n) np) args [] cpos)) none pos) (tRaise C ts) := .mk fun A env s ℓ σ Q E X h => by
  obtain ⟨nm, q, N, bs, bm, hdct, sn, sub, ab, col, dd, k0, k1, k2, k3, k5, mN, ho, hN, hi, ht⟩ := hC
  refine wpAny_Raise_call_subU (mN := mN) (nm := nm) (q := q) (N := N) (bs := bs) (bm := bm) (hdct := hdct) (sn := sn) (sub := sub) (ab := ab) (col := col) (dd := dd) (k0 := k0) (k1 := k1) (k2 := k2) (k3 := k3) (k5 := k5) PySem.F.excBase_ValueError (by decide) PySem.F.excBase_ValueError (ht.hasType (by decide)) (X.room.calm rfl) (backTo_plain hp cpos env) hi (name_global X hm hn ⟨rfl, ?_⟩)
  refine evalArgs_ok (backTo_plain hp cpos env) (wpAny_mono (hL.run A env cpos s ℓ σ _ _ X h) (fun vs s₁ p => ?_) fun _ _ p => p.toS X)
  refine Post.elim p fun xs σ₁ hv hR hx hs hq => ?_
  refine ⟨rfl, ?_, hR.base _ _ ho, hN.at' fun o e => hR.base _ o e, ht.keeps hR.base, fun h' e hm => ?_⟩
  · have := VRs_length hv; have := hq.1; show vs.length ≤ sizeLine; have e : sizeLine = 16777216 := rfl; omega
  · obtain ⟨t, he, htn, _⟩ := hm.there
    have hk := hm.keeps
    have b0 : g.b0.get? e = none := by
      cases q : g.b0.get? e with
      | none => rfl
      | some o => have := hm.new; rw [hR.base e o q] at this; cases this
    have s0 : s.heap.get? e = none := by
      cases q : s.heap.get? e with
      | none => rfl
      | some o => obtain ⟨o', z⟩ := hx.pres e o q; have := hm.new; rw [z] at this; cases this
    refine ⟨C, ℓ, σ₁, ⟨e, _, _, rfl, s0, b0, hR.fresh hm.new, he, rfl, rfl, rfl, by simp, .inl ⟨rfl, rfl⟩⟩, (X.loc.step X.rel hx).step hR (.keeps hk), hR.keeps hk, (hx.trans (.keeps hk)).own, hs.trans ⟨rfl, rfl, rfl⟩, hq.2⟩
/-! ## trying -/
theorem Room.marked {A : Around} {r : Nat} {c : Bool} {v : Option Value} (x : Room A r c) : Room (A.mark v) r false := ⟨x.depth, x.units, fun h => nomatch h⟩
noncomputable def tTryAs (n : String) (P : Addr → Prop) (tb th : TS) : TS := fun ℓ σ Q E => tb ℓ σ Q fun C ℓ' σ' => P C ∧ ∀ a, σ' a = none → th (ℓ'.set n (.ref a)) (σ'.set a (.exc C)) (fun f _ σ'' => Q f Loc.empty σ'') fun _ _ _ => False
section
variable {A : Around} {env : Env} {s : Shared} {σ : AH} {ℓ : Loc}
theorem LR.claim {h : Heap} {a : Addr} {ao : AO} (L : LR g h σ env ℓ) (k : ∀ b, Own env b → b ≠ a) : LR g h (σ.set a ao) env ℓ :=
  ⟨L.ns, L.cell, L.cells, ⟨(if_neg (k _ (.inl rfl))).trans L.off.1, L.off.2⟩, fun x c e => ⟨(if_neg (k c (.inr ⟨x, e⟩))).trans (L.offc x c e).1, (L.offc x c e).2⟩, L.apart, L.has⟩
theorem FrOk.claim {h : Heap} {a : Addr} {ao : AO} (F : FrOk g A env h σ) (k : ∀ o es n, h.get? a = some o → o.data ≠ .dict es n) : FrOk g A env h (σ.set a ao) := by
  obtain ⟨e0, outer, hA, hf, ff, off, rest⟩ := F
  obtain ⟨k1, k2⟩ := frames_step (W := No) (h' := h) (σ' := σ.set a ao) (fun b o es n e d q => ⟨(if_neg fun z : b = a => k o es n (z ▸ e) d).trans q, o, es, n, e, d⟩) _ ff off
  exact ⟨e0, outer, hA, hf, k1, k2, rest⟩
/-- the block's names were written over: they are forgotten -/
theorem locals_gone {h h' : Heap} {m' : Str → Option Value} (L : LR g h σ env ℓ) (R : Rel g h σ) (hn : h'.Ns env.locals m') (sb : Heap.SameBut env.locals h h') : LR g h' σ env Loc.empty ∧ Rel g h' σ ∧ Ext (Own env) h σ h' σ ∧ TupsKept g h h' := by
  have w : Own env env.locals := .inl rfl
  have pr : ∃ o, h'.get? env.locals = some o := let ⟨o, _, _, e, _⟩ := hn; ⟨o, e⟩
  have tk : TupsKept g h h' := fun d o vs m _ y t dd => .of ((sb.2 d fun z => L.noSeq d o (by rw [z]; exact w) y vs m dd).trans y)
  refine ⟨⟨⟨m', hn, fun n v e => (nomatch e)⟩, fun y cc e => ?_, fun n v e => (nomatch e), L.off, L.offc, L.apart, L.has⟩, ⟨fun b hb => ?_, fun b o q => (sb.2 b fun z => ?_).trans (R.base b o q), fun b bo q => ⟨(R.own b bo q).1, OR_mono tk (fun o y => (sb.2 b fun z => ?_).trans y) (R.own b bo q).2⟩⟩,
    ⟨fun b o q _ nw => .of ((sb.2 b fun z => nw (z ▸ w)).trans q), fun b o q => ?_, fun b q => .inl q⟩, tk⟩
  · obtain ⟨o, u, ho, hd⟩ := L.cell y cc e
    exact ⟨o, u, (sb.2 cc (L.offc y cc e).2.1).trans ho, hd⟩
  · by_cases z : b = env.locals
    · rw [z]; exact pr
    · obtain ⟨o, q⟩ := R.hid b hb; exact ⟨o, (sb.2 b z).trans q⟩
  · rw [z, L.off.2] at q; cases q
  · rw [z, L.off.1] at q; cases q
  · by_cases z : b = env.locals
    · rw [z]; exact pr
    · exact ⟨o, (sb.2 b z).trans q⟩
end
theorem sndS_tryAs {K : W.Frag} {T : Addr} {n m : String} {P : Addr → Prop} {body suite : List Stmt} {b₀ : Stmt} {np hpos pos : Pos} {tb th : TS} (hK : K.In g.b0) (hm : (Str.ofString n, NameKind.globalImplicit) ∈ sc.names) (hn : Known g n (.ref T)) (hP : ∀ C, P C → W.exmOne K (.ref C) (.ref T) = some true)
    (hl : (Str.ofString m, NameKind.local) ∈ sc.names) (hb : SndSs g sc r c body tb) (hs : SndSs g sc r false (b₀ :: suite) th) : SndS g sc r c (.Try body [.ExceptHandler (some (.Name (Str.ofString n) np)) (some (Str.ofString m)) (b₀ :: suite) hpos] [] [] pos) (tTryAs m P tb th) := .mk fun A env s ℓ σ Q E X h => by
  refine wpAny_Try_except (wpAny_mono (hb.run A env s ℓ σ Q _ X h) (fun f s₁ p => ?_) fun e s₁ p => ?_)
  · cases f with
    | next => exact wpAny_execs_nil p
    | _ => exact p
  · obtain ⟨C, ℓ', σ', hX, hL, hR, hx, hsm, hPC, hth⟩ := p
    refine note_ok (X.fr.step hx (X.loc.dicts hL)) hR hx.pres hX fun s₂ t2 x2 hs2 => flight_ok x2 fun s₃ t3 x3 hs3 => ?_
    obtain ⟨a, o, vs, rfl, x0, xb, xs, xo, xc, xn, xd, xz, xt⟩ := id x3
    have L3 := t3.loc (t2.loc hL)
    have R3 := t3.rel (t2.rel hR)
    have e3 := t3.ext (t2.ext hx)
    have X3 : Cx g sc r false (A.mark (some (.ref a))) env s₃.heap σ' ℓ' := ⟨X.gok, X.ok, L3, X.fr.step e3 (X.loc.dicts L3), X.room.marked, R3⟩
    refine wpAny_handleBy_cons (codeAny_handlers_test (name_global X3 hm hn ?_)) (by intro q; cases q)
    have LT : W.Looks (model g.prog g.w) s₃.heap (typeOf (.ref a)) (.ref C) := xc ▸ (W.Looks.ld xo).andThen .now
    refine (W.exm_one (hK.keeps fun b o e => R3.base b o e) LT (hP C hPC)).here ?_
    refine codeAny_handlers_suite_as (flight_ok x3 fun s₄ t4 x4 hs4 => ?_)
    obtain ⟨a', o4, vs4, ea, x0', xb', xs', xo4, xc4, xn4, xd4, xz4, _⟩ := x4
    cases ea
    have e4 := t4.ext e3
    have L4 := t4.loc L3
    have R4 := t4.rel R3
    have nown : ∀ b, Own env b → b ≠ a := fun b w z => by obtain ⟨o', q, d⟩ := L4.noFields w; rw [z, xo4] at q; cases q; exact d _ xd4
    have R5 : Rel g s₄.heap (σ'.set a (.exc C)) := R4.claim xb' ⟨o4, vs4, xo4, xc4, xn4, xd4⟩
    have L5 : LR g s₄.heap (σ'.set a (.exc C)) env ℓ' := L4.claim nown
    have e5 : Ext (Own env) s.heap σ s₄.heap (σ'.set a (.exc C)) := ⟨e4.keep, e4.pres, fun b q => by
      by_cases z : b = a
      · exact .inr (z ▸ x0)
      · rw [AH.set_other z] at q; exact e4.dom b q⟩
    have F5 : FrOk g A env s₄.heap (σ'.set a (.exc C)) := (X.fr.step e4 (X.loc.dicts L4)).claim fun o' es n e d => by rw [xo4] at e; cases e; rw [xd4] at d; cases d
    have X5 : Cx g sc r false (A.mark (some (.ref a))) env s₄.heap (σ'.set a (.exc C)) ℓ' := ⟨X.gok, X.ok, L5, F5, X.room.marked, R5⟩
    refine store_ok X5 hl rfl (VR_ref.mpr rfl) fun s₆ b _ _ w hL6 hR6 hx6 hs6 => ?_
    have e6 := e5.trans (hx6.weaken fun b' z => z ▸ w)
    have X6 : Cx g sc r false (A.mark (some (.ref a))) env s₆.heap (σ'.set a (.exc C)) (ℓ'.set m (.ref a)) := X5.stepS hL6 hR6 (hx6.weaken fun b' z => z ▸ w)
    have sm6 : Same s s₆ := ((((hsm.trans hs2).trans hs3).trans hs4).trans hs6)
    have kd : env.kindOf (Str.ofString m) = some .local := by
      rcases X.ok.kinds _ _ hl with q | ⟨q, _⟩
      · exact q
      · cases q
    refine wpAny_mono (hs.run (A.mark (some (.ref a))) env s₆ _ _ _ _ X6 (hth a xs)) (fun f s₇ p => ?_) fun _ _ p => ?_
    · obtain ⟨f', ℓ7, σ7, hf, hL7, hR7, hx7, hs7, hq⟩ := p
      obtain ⟨mm, hnm, _⟩ := hL7.ns
      refine wpAny_nameGoes kd hnm (by rw [X.ok.kind]; rfl) fun h' m' hn' sb => ?_
      obtain ⟨L8, R8, x8, tk8⟩ := locals_gone hL7 hR7 hn' sb
      refine ⟨f', Loc.empty, σ7, ?_, L8, R8, (e6.trans hx7).trans x8, (sm6.trans hs7).trans ⟨rfl, rfl, rfl⟩, hq⟩
      cases f' with
      | ret v => obtain ⟨u, rfl, hu⟩ := hf; exact ⟨u, rfl, VR.mono tk8 hu⟩
      | _ => exact hf
    · obtain ⟨_, _, _, _, _, _, _, _, z⟩ := p
      exact z.elim
end
section
open PySem PySem.W PyProof.Rows
variable {g : Gr} {sc : Scope} {r : Nat} {c : Bool}
section
variable {prog : Program} {w : World} {A : Around} {E : Value → Shared → Prop} {s : Shared} {K : Frag} {x C : Addr}
/-- what the fragment says of a class of exceptions -/
structure ExcK (K : Frag) (C : Addr) : Prop where
  ga : findIn K (.ref C) "__getattribute__" = some (some (.builtin "BaseException.__getattribute__"))
  gt : findIn K (.ref C) "__getattr__" = some none
  cl : findIn K (.ref C) "__class__" = some (some (.builtin "object.__class__"))
  mb : mroIn K C (.type "BaseException") = some true
  mo : mroIn K C (.type "object") = some true
  is : (clsIn K C).isSome = true
theorem ExcObj.inst {h : Heap} (o : ExcObj h x C) : ∃ ox, InstAt h x ox C none := by
  obtain ⟨ox, vs, e, hc, hn, hd⟩ := o
  refine ⟨ox, e, hc, ?_, ?_⟩
  · unfold notCls; rw [hd]
  · rw [hn]; trivial
theorem exc_ga {M : Model} {nameV : Value} {Q : Unit → Shared → Prop} (X : K.In s.heap) (Z : ExcK K C) (o : ExcObj s.heap x C) (hq : Q () s) : wpAny M A (checkBuiltinCall "BaseException.__getattribute__" ⟨[.ref x, nameV], []⟩) Q E s := by
  obtain ⟨ox, I⟩ := o.inst
  have hk : builtinKind "BaseException.__getattribute__" = some .slot := by decide +kernel
  have hsplit : splitId "BaseException.__getattribute__" = some ("BaseException", "__getattribute__") := by decide +kernel
  have ha := F.args_bexc_ga (.ref x) nameV
  obtain ⟨hh, gg, dr, t, os⟩ := s
  have L0 := I.type (M := M)
  have L1 := looks_mroIn (M := M) X Z.mb
  simp only [checkBuiltinCall, hk, hsplit]
  refine wpAny_bind ?_
  unfold isInstance
  repeat (first | lk | wp_step)
  exact hq
theorem exc_entry {tk : Tok} {Q : Fin → Shared → Prop} (X : K.In s.heap) (Z : ExcK K C) (o : ExcObj s.heap x C) (hq : Q (.done (.ret (.ref C))) s) :
    wpAny (model prog w) A (Builtin.«object.__getattribute__» ⟨[.ref x, .str "__class__" tk], []⟩) Q E s := by
  obtain ⟨ox, I⟩ := o.inst
  have hT5 : s.TypeIs (.builtin "object.__class__") "getset_descriptor" := F.typeOf_object_class
  have f5 := F.typeOf_object_class
  have f6 := F.slot_gs_get.lookup
  have f7 := F.slot_gs_set.lookup
  obtain ⟨hh, gg, dr, t, os⟩ := s
  have L0 := I.type (M := model prog w)
  have L1 := looks_findIn (M := model prog w) X Z.cl
  repeat (any_goals (first | assumption | with_reducible refine L0.here ?_ | with_reducible refine L1.here ?_ | wp_step))
  refine class_get X I Z.mo ?_
  repeat (any_goals (first | assumption | wp_step))
theorem exc_by {tk : Tok} {Q : Value → Shared → Prop} (X : K.In s.heap) (Z : ExcK K C) (o : ExcObj s.heap x C) (hq : Q (.ref C) s) : wpAny (model prog w) A (getAttrBy (.ref x) (.str "__class__" tk) false) Q E s := by
  obtain ⟨ox, I⟩ := o.inst
  have f3 := F.excAttr_ValueError.ga.bind (.ref x)
  have hx2 : (Value.builtin "BaseException.__getattribute__" == Value.builtin "object.__getattribute__") = false := by decide +kernel
  have hx1 : (onTheHeap (Value.ref C) && Value.builtin "BaseException.__getattribute__" == Value.builtin "object.__getattribute__") = false := by rw [hx2]; rfl
  obtain ⟨hh, gg, dr, t, os⟩ := s
  have L0 := I.type (M := model prog w)
  have L1 := looks_findIn (M := model prog w) X Z.ga
  have L2 := looks_findIn (M := model prog w) X Z.gt
  repeat (any_goals (first | assumption | with_reducible refine L0.here ?_ | with_reducible refine L1.here ?_ | with_reducible refine L2.here ?_ | wp_step))
  refine codeAny_call_builtin F.excAttr_ValueError.ga.plain F.entry_bexc_ga (exc_ga X Z o (exc_entry X Z o ?_))
  repeat (any_goals (first | assumption | wp_step))
theorem exc_class {Q : Option Value → Shared → Prop} (X : K.In s.heap) (Z : ExcK K C) (o : ExcObj s.heap x C) (hq : Q (some (.ref C)) { s with toks := s.toks + 1 }) : wpAny (model prog w) A (getAttr? (.ref x) "__class__") Q E s := by
  obtain ⟨hh, gg, dr, t, os⟩ := s
  unfold getAttr? getAttrBy?
  refine wpAny_bind (wpAny_mkText (wpAny_bind (wpAny_attempt (exc_by (s := ⟨hh, gg, dr, t + 1, os⟩) X Z o ?_))))
  exact wpAny_pure hq
theorem kitx_exc (Z : ExcK K C) : KitX K (.ref x) (.ref C) (fun h => ExcObj h x C) where
  ty := fun _ _ _ o => let ⟨ox, I⟩ := o.inst; I.type
  it := fun _ _ X _ => by
    have hc := Z.is
    unfold clsIn at hc
    split at hc
    · rename_i c' d' cd' sl' ho
      intro A' Q' E' s' k q
      unfold isType loadHead
      exact wpAny_bind (wpAny_loadPart (k _ _ (X _ _ ho)) (wpAny_pure q))
    · cases hc
  ne := fun h tp dd its n sl X htp => by
    have hc := Z.is
    refine Bool.eq_false_iff.mpr fun q => ?_
    have e : C = tp := Value.ref.inj (beq_iff_eq.mp q)
    subst e
    unfold clsIn at hc
    split at hc
    · rename_i c' d' cd' sl' ho
      have z := (X _ _ ho).symm.trans htp
      cases z
    · cases hc
  ca := fun X o k => exc_class X Z o k
end
/-! ## isinstance of an exception -/
noncomputable def tIsC (C : Addr) (b : Bool) (t : TE) : TE := fun ℓ σ Q E => t ℓ σ (fun v σ₁ => ∃ a, v = .ref a ∧ σ₁ a = some (.exc C) ∧ Q (.bool b) σ₁) E
theorem isC_ok {K : Frag} {C : Addr} {b : Bool} {A : Around} {E : Value → Shared → Prop} {s : Shared} {σ : AH} {Q : V → AH → Prop} {a : Addr} {cv : Value} (hK : K.In g.b0) (Z : ExcK K C) (R : Rel g s.heap σ) (e : σ a = some (.exc C)) (hk : kitOne K (.ref C) cv = some b) (h : Q (.bool b) σ) :
    wpAny (model g.prog g.w) A (call (.builtin "isinstance") [.ref a, cv]) (PostE g s σ Q) E s :=
  kia_one (kitx_exc Z) (hK.keeps fun b o e => R.base b o e) (R.own a _ e).2 hk (by intro q; cases q) fun tk => post_value R rfl ⟨rfl, rfl, rfl⟩ (VR_bool.mpr rfl) h
theorem sndE_isC {K : Frag} {C : Addr} {b : Bool} {n : String} {cv : Value} {e : Expr} {p p' pos : Pos} {t : TE} (hK : K.In g.b0) (Z : ExcK K C) (hm : (Str.ofString "isinstance", NameKind.globalImplicit) ∈ sc.names) (hb : Known g "isinstance" (.builtin "isinstance")) (hm' : (Str.ofString n, NameKind.globalImplicit) ∈ sc.names) (hb' : Known g n cv)
    (h1 : SndE g sc r c e t) (hk : kitOne K (.ref C) cv = some b) (hs : isStar e = false) :
    SndE g sc r c (.Call (.Name (Str.ofString "isinstance") p) [e, .Name (Str.ofString n) p'] [] pos) (tIsC C b t) := .mk fun A env s ℓ σ Q E X h => by
  show wpAny _ A (do callWith pos (← eval (.Name (Str.ofString "isinstance") p) env) [] (backTo pos (starEach [e, .Name (Str.ofString n) p'] env)) (backToKw pos (keywordEach [] env))) _ _ s
  refine wpAny_bind (name_global X hm hb ?_)
  rw [starEach_cons env hs, starEach_cons (es := []) env rfl]
  refine callWith_ok (.inr (.inl ⟨_, rfl⟩)) rfl ?_
  show wpAny _ A (spliced [(false, eval e env), (false, eval (.Name (Str.ofString n) p') env)]) _ _ s
  refine Calls.spliced_cons (wpAny_mono (h1.run A env s ℓ σ _ E X h) (fun v s₁ p => ?_) fun _ _ p => p)
  refine Post.elim p fun x σ₁ hv hR hx hs1 hq => ?_
  refine Calls.spliced_cons (name_global (X.step hR hx) hm' hb' (Calls.spliced_nil ⟨fun a o e => hR.base a o e, ?_⟩))
  obtain ⟨a, rfl, e', hq⟩ := hq
  rw [VR_ref.mp hv]
  exact wp_back hx hs1 (isC_ok hK Z hR e' hk hq)
theorem refs_of {h : Heap} : ∀ {cs : List Addr} {vs : List Value}, VRs g h (cs.map V.ref) vs → vs = cs.map Value.ref
  | [], vs, a => VRs_nil_inv a
  | y :: ys, vs, a => by
    obtain ⟨v, r, rfl, hv, b⟩ := VRs_cons_inv a
    rw [VR_ref.mp hv, refs_of b]; rfl
noncomputable def tIsCT (C : Addr) (b : Bool) (cs : List Addr) (t t₂ : TE) : TE := fun ℓ σ Q E => t ℓ σ (fun v σ₁ => t₂ ℓ σ₁ (fun u σ₂ => ∃ a, v = .ref a ∧ σ₂ a = some (.exc C) ∧ u = .tup (cs.map V.ref) ∧ Q (.bool b) σ₂) E) E
theorem sndE_isCT {K : Frag} {C : Addr} {b : Bool} {cs : List Addr} {e e₂ : Expr} {p pos : Pos} {t t₂ : TE} (hK : K.In g.b0) (Z : ExcK K C) (hm : (Str.ofString "isinstance", NameKind.globalImplicit) ∈ sc.names) (hb : Known g "isinstance" (.builtin "isinstance"))
    (h1 : SndE g sc r c e t) (h2 : SndE g sc r c e₂ t₂) (hk : kitAny K (.ref C) (cs.map Value.ref) = some b) (hs : isStar e = false) (hs2 : isStar e₂ = false) :
    SndE g sc r c (.Call (.Name (Str.ofString "isinstance") p) [e, e₂] [] pos) (tIsCT C b cs t t₂) := .mk fun A env s ℓ σ Q E X h => by
  show wpAny _ A (do callWith pos (← eval (.Name (Str.ofString "isinstance") p) env) [] (backTo pos (starEach [e, e₂] env)) (backToKw pos (keywordEach [] env))) _ _ s
  refine wpAny_bind (name_global X hm hb ?_)
  rw [starEach_cons env hs, starEach_cons (es := []) env hs2]
  refine callWith_ok (.inr (.inl ⟨_, rfl⟩)) rfl ?_
  show wpAny _ A (spliced [(false, eval e env), (false, eval e₂ env)]) _ _ s
  refine Calls.spliced_cons (wpAny_mono (h1.run A env s ℓ σ _ E X h) (fun v s₁ p => ?_) fun _ _ p => p)
  refine Post.elim p fun x σ₁ hv hR hx hs1 hq => ?_
  refine Calls.spliced_cons (wpAny_mono (h2.run A env s₁ ℓ σ₁ _ E (X.step hR hx) hq) (fun u s₂ p => ?_) fun _ _ p => p.back hx hs1)
  refine Post.elim p fun y σ₂ hu hR2 hx2 hs2 hq2 => ?_
  refine Calls.spliced_nil ⟨fun a o e => hR2.base a o e, ?_⟩
  obtain ⟨a, rfl, e', rfl, hq2⟩ := hq2
  rw [VR_ref.mp hv]
  obtain ⟨_, tp, ⟨cls, dd, data, sl⟩, us, n, rfl, _, ho, hc, hd, hvs⟩ := VR_tup.mp hu
  simp only at hc hd
  subst hc hd
  have eu : us = (cs.map Value.ref).toArray := by rw [← refs_of hvs]
  subst eu
  exact wp_back (hx.trans hx2) (hs1.trans hs2) (kia_tup (kitx_exc Z) (hK.keeps fun b o e => hR2.base b o e) (hR2.own a _ e').2 ho hk (by intro q; cases q) fun tk => post_value hR2 rfl ⟨rfl, rfl, rfl⟩ (VR_bool.mpr rfl) hq2)
end
section
open PySem Builtin Builtin.Str
/-! ## words and numbers: the plain law of the notes -/
noncomputable abbrev sg (x : Str) : List Nat := x.cps.toList
theorem str_ext {x y : Str} (h : sg x = sg y) : x = y := by
  obtain ⟨a⟩ := x; obtain ⟨b⟩ := y
  simpa [sg] using h
theorem sg_length (x : Str) : (sg x).length = x.length := by simp [sg, Str.length]
theorem sg_append (x y : Str) : sg (x ++ y) = sg x ++ sg y := by
  show (Str.append x y).cps.toList = _
  simp [Str.append, sg]
noncomputable def spS : Str := ⟨#[32]⟩
noncomputable def joinL : List (List Nat) → List Nat
  | [] => []
  | [x] => x
  | x :: y :: r => x ++ 32 :: joinL (y :: r)
theorem join_sg : ∀ ps : List Str, sg (Str.join spS ps) = joinL (ps.map sg)
  | [] => rfl
  | [x] => rfl
  | x :: y :: r => by
    show sg (x ++ spS ++ Str.join spS (y :: r)) = sg x ++ 32 :: joinL ((y :: r).map sg)
    rw [sg_append, sg_append, join_sg (y :: r)]
    show (sg x ++ [32]) ++ _ = _
    rw [List.append_assoc]; rfl
theorem cut_unique : ∀ {a b c d : List Nat}, 32 ∉ a → 32 ∉ c → a ++ 32 :: b = c ++ 32 :: d → a = c ∧ b = d
  | [], b, [], d, _, _, h => by simp at h; exact ⟨rfl, h⟩
  | [], b, x :: c, d, _, hc, h => by simp at h; exact absurd (.head _) (h.1 ▸ hc)
  | x :: a, b, [], d, ha, _, h => by simp at h; exact absurd (.head _) (h.1 ▸ ha)
  | x :: a, b, y :: c, d, ha, hc, h => by
    simp only [List.cons_append, List.cons.injEq] at h
    obtain ⟨h1, h2⟩ := cut_unique (fun q => ha (.tail _ q)) (fun q => hc (.tail _ q)) h.2
    exact ⟨by rw [h.1, h1], h2⟩
theorem joinL_inj : ∀ {ps qs : List (List Nat)}, ps ≠ [] → qs ≠ [] → (∀ p ∈ ps, 32 ∉ p) → (∀ q ∈ qs, 32 ∉ q) → joinL ps = joinL qs → ps = qs
  | [], _, h, _, _, _, _ => absurd rfl h
  | _, [], _, h, _, _, _ => absurd rfl h
  | [x], [y], _, _, _, _, h => by simpa [joinL] using h
  | [x], y :: z :: r, _, _, hp, _, h => by
    simp only [joinL] at h
    exact absurd (by rw [h]; simp) (hp x (.head _))
  | x :: z :: r, [y], _, _, _, hq, h => by
    simp only [joinL] at h
    exact absurd (by rw [← h]; simp) (hq y (.head _))
  | x :: z :: r, y :: w :: t, _, _, hp, hq, h => by
    simp only [joinL] at h
    obtain ⟨h1, h2⟩ := cut_unique (hp x (.head _)) (hq y (.head _)) h
    rw [h1, joinL_inj (by simp) (by simp) (fun p q => hp p (.tail _ q)) (fun p q => hq p (.tail _ q)) h2]
theorem joinL_mem : ∀ {ps : List (List Nat)} {p : List Nat} {c : Nat}, p ∈ ps → c ∈ p → c ∈ joinL ps
  | [x], p, c, h, hc => by simp at h; subst h; exact hc
  | x :: y :: r, p, c, h, hc => by
    simp only [joinL, List.mem_append, List.mem_cons]
    cases h with
    | head => exact .inl hc
    | tail _ h => exact .inr (.inr (joinL_mem h hc))
theorem joinL_len : ∀ {ps : List (List Nat)} {p : List Nat}, p ∈ ps → p.length ≤ (joinL ps).length
  | [x], p, h => by simp at h; subst h; exact Nat.le_refl _
  | x :: y :: r, p, h => by
    simp only [joinL, List.length_append, List.length_cons]
    cases h with
    | head => omega
    | tail _ h => have := joinL_len h; omega
theorem joinL_count : ∀ {ps : List (List Nat)}, ps.length ≤ (joinL ps).length + 1
  | [] => by simp
  | [x] => by simp [joinL]
  | x :: y :: r => by
    have := joinL_count (ps := y :: r)
    simp only [joinL, List.length_append, List.length_cons] at this ⊢; omega
noncomputable def wordsOf (t : Str) : List Str := Txt.split t spS
theorem words_ne (t : Str) : wordsOf t ≠ [] := by
  unfold wordsOf Txt.split
  split
  · simp
  · split
    · simp
    · rw [StrLaws.partsBetween_eq]
      obtain ⟨p, r, e⟩ := StrLaws.partsFrom_ne t spS.length 0 (occurrences t spS 0 t.length (t.length + 1))
      rw [e]; simp
theorem words_join (t : Str) : joinL ((wordsOf t).map sg) = sg t := by
  rw [← join_sg]; unfold wordsOf; rw [StrLaws.join_split]
theorem words_of {t : Str} {ps : List Str} (hn : ps ≠ []) (hf : ∀ p ∈ ps, 32 ∉ sg p) (hj : joinL (ps.map sg) = sg t) : wordsOf t = ps := by
  have h := joinL_inj (ps := (wordsOf t).map sg) (qs := ps.map sg) (by simpa using words_ne t) (by simpa using hn) (fun p hp => by
    obtain ⟨w, hw, rfl⟩ := List.mem_map.mp hp
    exact StrLaws.split_free t 32 w hw) (fun q hq => by
    obtain ⟨w, hw, rfl⟩ := List.mem_map.mp hq
    exact hf w hw) ((words_join t).trans hj.symm)
  have inj : ∀ (a b : List Str), a.map sg = b.map sg → a = b := fun a => by
    induction a with
    | nil => intro b h; cases b with | nil => rfl | cons _ _ => simp at h
    | cons x a ih =>
      intro b h
      cases b with
      | nil => simp at h
      | cons y b =>
        simp only [List.map_cons, List.cons.injEq] at h
        rw [str_ext h.1, ih b h.2]
  exact inj _ _ h
/-- all signs are ASCII -/
noncomputable abbrev AscB (x : Str) : Prop := x.cps.all (· < 128) = true
theorem asc_iff {x : Str} : AscB x ↔ ∀ c ∈ sg x, c < 128 := by
  unfold AscB sg
  rw [← Array.all_toList, List.all_eq_true]
  exact ⟨fun h c hc => of_decide_eq_true (h c hc), fun h c hc => decide_eq_true (h c hc)⟩
theorem words_asc {t w : Str} (h : AscB t) (hw : w ∈ wordsOf t) : AscB w := by
  rw [asc_iff] at h ⊢
  intro c hc
  refine h c ?_
  rw [← words_join t]
  exact joinL_mem (List.mem_map_of_mem hw) hc
theorem words_len {t w : Str} (hw : w ∈ wordsOf t) : w.length ≤ t.length := by
  rw [← sg_length, ← sg_length, ← words_join t]
  exact joinL_len (List.mem_map_of_mem hw)
theorem words_count (t : Str) : (wordsOf t).length ≤ t.length + 1 := by
  have := joinL_count (ps := (wordsOf t).map sg)
  rw [words_join, sg_length] at this
  simpa using this
theorem asc_strOk {x : Str} (h : AscB x) : PyData.strOk x = true := by
  rw [asc_iff] at h
  unfold PyData.strOk
  rw [← Array.all_toList, List.all_eq_true]
  intro c hc
  have := h c hc
  exact decide_eq_true (by omega)
/-! ## numbers -/
noncomputable def figB (c : Nat) : Bool := decide (48 ≤ c ∧ c ≤ 57)
noncomputable def zeroS : Str := ⟨#[48]⟩
noncomputable def okW (w : Str) : Bool := decide (1 ≤ w.length) && (decide (w.length ≤ 30) && ((sg w).all figB && !((sg w).head? == some 48 && !(w == zeroS))))
noncomputable def valW (w : Str) : Int := ((NumText.digitsVal (sg w) : Nat) : Int)
noncomputable def num? (w : Str) : Option Int := if okW w then some (valW w) else none
theorem int_of_word {w : Str} (h1 : 1 ≤ w.length) (h2 : w.length ≤ 30) (h3 : ∀ c ∈ sg w, figB c = true) : intText? w = some (valW w) := by
  refine PySem.intText_digits (fun c hc => by have := h3 c hc; unfold figB at this; simpa using this) (fun e => ?_) (by omega)
  have : (sg w).length = 0 := by rw [show sg w = [] from e]; rfl
  rw [sg_length] at this; omega
/-- what a text says -/
noncomputable def comeS' : Str := Str.ofString "come"
noncomputable def goS' : Str := Str.ofString "go"
noncomputable def sizeOf? (w : Str) : Option Nat := if w = comeS' then some 3 else if w = goS' then some 2 else none
noncomputable def allNum : List Str → Option (List Int)
  | [] => some []
  | w :: ws => match num? w, allNum ws with
    | some n, some ns => some (n :: ns)
    | _, _ => none
noncomputable def due? (t : Str) : Option (Str × List Int) := match wordsOf t with
  | [] => none
  | w :: ws => if sizeOf? w = some (ws.length + 1) then (allNum ws).map fun ns => (w, ns) else none
/-! ## a number's text is read back -/
noncomputable def numS (n : Int) : Str := Str.ofString (toString n)
theorem numS_sg (m : Nat) : sg (numS (m : Int)) = (Nat.toDigits 10 m).map Char.toNat := W.KIN.signs_num m
theorem toDigits_len : ∀ (k m : Nat), m < 10 ^ k → 0 < k → (Nat.toDigits 10 m).length ≤ k
  | 0, m, _, h => absurd h (by omega)
  | k + 1, m, h, _ => by
    by_cases h10 : m < 10
    · rw [Nat.toDigits_of_lt_base h10]; simp
    · have hm : m % 10 < 10 := Nat.mod_lt m (by decide)
      have t : Nat.toDigits 10 (m / 10) ++ Nat.toDigits 10 (m % 10) = Nat.toDigits 10 (10 * (m / 10) + m % 10) := Nat.toDigits_append_toDigits (by decide) (by omega) hm
      rw [Nat.div_add_mod] at t
      rw [← t, List.length_append, Nat.toDigits_of_lt_base hm]
      have hk : 0 < k := by
        rcases Nat.eq_zero_or_pos k with z | z
        · subst z; simp at h; omega
        · exact z
      have := toDigits_len k (m / 10) (by rw [Nat.pow_succ] at h; omega) hk
      simp; omega
theorem numS_len {n : Int} (h0 : 0 ≤ n) (h1 : n < 10 ^ 30) : 1 ≤ (numS n).length ∧ (numS n).length ≤ 30 := by
  obtain ⟨m, rfl⟩ := Int.eq_ofNat_of_zero_le h0
  rw [← sg_length, numS_sg, List.length_map]
  refine ⟨toDigits_len_ge 10 m, toDigits_len 30 m ?_ (by decide)⟩
  have : ((m : Nat) : Int) < ((10 ^ 30 : Nat) : Int) := h1
  omega
theorem numS_fig {n : Int} (h0 : 0 ≤ n) : ∀ c ∈ sg (numS n), figB c = true := by
  obtain ⟨m, rfl⟩ := Int.eq_ofNat_of_zero_le h0
  intro c hc
  rw [numS_sg] at hc
  obtain ⟨ch, hch, e⟩ := List.mem_map.mp hc
  have r := PyProof.Rows.digit_range (Nat.isDigit_of_mem_toDigits (by decide) (by decide) hch)
  rw [← e]
  exact decide_eq_true r
theorem numS_val {n : Int} (h0 : 0 ≤ n) : valW (numS n) = n := by
  obtain ⟨m, rfl⟩ := Int.eq_ofNat_of_zero_le h0
  unfold valW
  rw [numS_sg, W.KIN.val_back]
theorem head_toDigits : ∀ m : Nat, ((Nat.toDigits 10 m).map Char.toNat).head? = some 48 → m = 0 := by
  intro m
  induction m using Nat.strongRecOn with
  | _ m ih =>
    intro h
    by_cases h10 : m < 10
    · rw [Nat.toDigits_of_lt_base h10] at h
      have e := W.KIN.digit_back m h10
      simp at h
      omega
    · have hm : m % 10 < 10 := Nat.mod_lt m (by decide)
      have t : Nat.toDigits 10 (m / 10) ++ Nat.toDigits 10 (m % 10) = Nat.toDigits 10 (10 * (m / 10) + m % 10) := Nat.toDigits_append_toDigits (by decide) (by omega) hm
      rw [Nat.div_add_mod] at t
      rw [← t, List.map_append] at h
      have hl := toDigits_len_ge 10 (m / 10)
      have : ((Nat.toDigits 10 (m / 10)).map Char.toNat).head? = some 48 := by
        cases q : (Nat.toDigits 10 (m / 10)).map Char.toNat with
        | nil => have := congrArg List.length q; simp at this
        | cons a b => rw [q] at h; simpa using h
      have := ih (m / 10) (by omega) this
      omega
theorem numS_ok {n : Int} (h0 : 0 ≤ n) (h1 : n < 10 ^ 30) : num? (numS n) = some n := by
  obtain ⟨k1, k2⟩ := numS_len h0 h1
  have h : okW (numS n) = true := by
    unfold okW
    rw [decide_eq_true k1, decide_eq_true k2, List.all_eq_true.mpr (numS_fig h0)]
    simp only [Bool.true_and, Bool.not_eq_true', Bool.and_eq_false_iff]
    by_cases z : (sg (numS n)).head? = some 48
    · right
      obtain ⟨m, rfl⟩ := Int.eq_ofNat_of_zero_le h0
      rw [numS_sg] at z
      have := head_toDigits m z
      subst this
      decide +kernel
    · left; simpa using z
  unfold num?
  rw [if_pos h, numS_val h0]
/-- the text of a deed -/
noncomputable def textOf (k : Str) : List Int → Str
  | ns => ns.foldl (fun t n => t ++ spS ++ numS n) k
theorem textOf_sg : ∀ (ns : List Int) (ps : List Str), ps ≠ [] → ∀ k, sg k = joinL (ps.map sg) → sg (textOf k ns) = joinL ((ps ++ ns.map numS).map sg)
  | [], ps, _, k, h => by simpa [textOf] using h
  | n :: ns, ps, hp, k, h => by
    show sg (textOf (k ++ spS ++ numS n) ns) = _
    rw [textOf_sg ns (ps ++ [numS n]) (by simp) (k ++ spS ++ numS n) ?_]
    · simp
    · rw [sg_append, sg_append, h]
      clear h
      induction ps with
      | nil => exact absurd rfl hp
      | cons p ps ih =>
        cases ps with
        | nil => show (sg p ++ [32]) ++ _ = sg p ++ 32 :: _; simp [joinL]
        | cons q ps =>
          have := ih (by simp)
          simp only [List.map_cons, List.cons_append] at this ⊢
          simp only [joinL]
          rw [← this]
          simp only [List.append_assoc, List.cons_append]
theorem text_join (k : Str) (ns : List Int) : Txt.join spS (k :: ns.map numS) = textOf k ns := by
  refine str_ext ?_
  rw [textOf_sg ns [k] (by simp) k rfl]
  show sg (glued spS _) = _
  rw [StrLaws.glued_eq_join, join_sg]; rfl
theorem allNum_numS : ∀ {ns : List Int}, (∀ n ∈ ns, 0 ≤ n ∧ n < 10 ^ 30) → allNum (ns.map numS) = some ns
  | [], _ => rfl
  | n :: ns, h => by
    have h1 := numS_ok (h n (.head _)).1 (h n (.head _)).2
    have h2 := allNum_numS fun m hm => h m (.tail _ hm)
    simp only [List.map_cons, allNum, h1, h2]
theorem numS_free {n : Int} (h0 : 0 ≤ n) : 32 ∉ sg (numS n) := fun h => by
  have := numS_fig h0 32 h; exact absurd this (by decide)
theorem due_text {k : Str} {ns : List Int} (hk : (k = comeS' ∧ ns.length = 2) ∨ (k = goS' ∧ ns.length = 1)) (hn : ∀ n ∈ ns, 0 ≤ n ∧ n < 10 ^ 30) : due? (textOf k ns) = some (k, ns) := by
  have hf : 32 ∉ sg k := by rcases hk with ⟨rfl, _⟩ | ⟨rfl, _⟩ <;> decide +kernel
  have hw : wordsOf (textOf k ns) = k :: ns.map numS := by
    refine words_of (by simp) (fun p hp => ?_) (textOf_sg ns [k] (by simp) k rfl).symm
    cases hp with
    | head => exact hf
    | tail _ hp => obtain ⟨n, hn', rfl⟩ := List.mem_map.mp hp; exact numS_free (hn n hn').1
  unfold due?
  rw [hw]
  have hs : sizeOf? k = some ((ns.map numS).length + 1) := by
    rw [List.length_map]
    rcases hk with ⟨rfl, e⟩ | ⟨rfl, e⟩ <;> rw [e] <;> decide +kernel
  simp only [hs, if_true, allNum_numS hn, Option.map_some]
theorem textOf_asc {k : Str} {ns : List Int} (hk : AscB k) (hn : ∀ n ∈ ns, 0 ≤ n) : AscB (textOf k ns) := by
  induction ns generalizing k with
  | nil => exact hk
  | cons n ns ih =>
    refine ih (k := k ++ spS ++ numS n) ?_ fun m hm => hn m (.tail _ hm)
    rw [asc_iff] at hk ⊢
    intro c hc
    rw [sg_append, sg_append, List.mem_append, List.mem_append] at hc
    rcases hc with (hc | hc) | hc
    · exact hk c hc
    · have : c = 32 := by simpa [spS, sg] using hc
      omega
    · have := numS_fig (hn n (.head _)) c hc
      unfold figB at this
      simp at this; omega
theorem textOf_len {k : Str} {ns : List Int} (hn : ∀ n ∈ ns, 0 ≤ n ∧ n < 10 ^ 30) : (textOf k ns).length ≤ k.length + ns.length * 31 := by
  induction ns generalizing k with
  | nil => simp [textOf]
  | cons n ns ih =>
    have := ih (k := k ++ spS ++ numS n) fun m hm => hn m (.tail _ hm)
    have h2 := (numS_len (hn n (.head _)).1 (hn n (.head _)).2).2
    have h3 : (k ++ spS ++ numS n).length = k.length + 1 + (numS n).length := by
      rw [Str.length_append, Str.length_append]; rfl
    show (textOf (k ++ spS ++ numS n) ns).length ≤ _
    simp only [List.length_cons]; omega
end
section
open PySem PySem.W PyProof.Rows Builtin Builtin.Str
variable {g : Gr} {sc : Scope} {r : Nat} {c : Bool}
/-! ## texts: comparisons, items, slices -/
noncomputable def cmpS (op : CmpOp) (a b : V) (σ : AH) (Q : Bool → Prop) : Prop := match b with
  | .str y => (match op with
    | .In => (match a with | .str x => Q (Txt.contains y x) | _ => False)
    | .NotIn => (match a with | .str x => Q (!Txt.contains y x) | _ => False)
    | op => cmpV op a (.str y) σ Q)
  | b => cmpV op a b σ Q
section
variable {A : Around} {env : Env} {E : Value → Shared → Prop} {s : Shared} {σ : AH} {ℓ : Loc}
theorem cmpS_ok {op : CmpOp} {a b : V} {u v : Value} {Q : Bool → Prop} (X : Cx g sc r c A env s.heap σ ℓ) (ha : VR g s.heap a u) (hb : VR g s.heap b v) (h : cmpS op a b σ Q) : wpAny (model g.prog g.w) A (compareOp op u v) (Told s Q) E s := by
  unfold cmpS at h
  split at h
  · rename_i y
    split at h
    · split at h
      · rw [VR_str] at ha hb; obtain ⟨_, t, rfl⟩ := ha; obtain ⟨_, t', rfl⟩ := hb
        exact P.in_str ⟨_, s.toks, rfl, rfl, h⟩
      · exact h.elim
    · split at h
      · rw [VR_str] at ha hb; obtain ⟨_, t, rfl⟩ := ha; obtain ⟨_, t', rfl⟩ := hb
        exact P.notIn_str ⟨_, s.toks, rfl, rfl, h⟩
      · exact h.elim
    · exact cmp_ok X ha hb h
  · exact cmp_ok X ha hb h
end
noncomputable def tCmpS (op : CmpOp) (t₁ t₂ : TE) : TE := fun ℓ σ Q E => t₁ ℓ σ (fun a σ₁ => t₂ ℓ σ₁ (fun b σ₂ => cmpS op a b σ₂ fun r => Q (.bool r) σ₂) E) E
noncomputable def tCmpSB (op : CmpOp) (t₁ t₂ : TE) : TB := fun ℓ σ Q E => t₁ ℓ σ (fun a σ₁ => t₂ ℓ σ₁ (fun b σ₂ => cmpS op a b σ₂ fun r => Q r σ₂) E) E
theorem sndE_cmpS {op : CmpOp} {e₁ e₂ : Expr} {t₁ t₂ : TE} {pos : Pos} (h1 : SndE g sc r c e₁ t₁) (h2 : SndE g sc r c e₂ t₂) (hm : behindInMarks op e₂ = false) : SndE g sc r c (.Compare e₁ [op] [e₂] pos) (tCmpS op t₁ t₂) := .mk fun A env s ℓ σ Q E X h => by
  refine wpAny_Compare1 (wpAny_mono (h1.run A env s ℓ σ _ E X h) (fun u s₁ p => ?_) fun _ _ p => p) hm
  refine Post.elim p fun a σ₁ hu hR hx hs hq => ?_
  have X₁ := X.step hR hx
  refine wpAny_mono (h2.run A env s₁ ℓ σ₁ _ E X₁ hq) (fun v s₂ p => ?_) fun _ _ p => p.back hx hs
  refine Post.elim p fun b σ₂ hv hR2 hx2 hs2 hq2 => ?_
  refine wpAny_mono (cmpS_ok (E := fun _ _ => False) (X₁.step hR2 hx2) (hx2.vr hR noSeq_no hu) hv hq2) (fun w s₃ p => ?_) fun _ _ p => p.elim
  obtain ⟨bb, tk, rfl, rfl, hq3⟩ := p
  exact ⟨.bool bb, σ₂, VR_bool.mpr rfl, hR2, hx.trans hx2, hs.trans (hs2.trans ⟨rfl, rfl, rfl⟩), hq3⟩
theorem sndB_cmpS {op : CmpOp} {e₁ e₂ : Expr} {t₁ t₂ : TE} {pos : Pos} (h1 : SndE g sc r c e₁ t₁) (h2 : SndE g sc r c e₂ t₂) (hm : behindInMarks op e₂ = false) : SndB g sc r c (.Compare e₁ [op] [e₂] pos) (tCmpSB op t₁ t₂) := .mk fun A env s ℓ σ Q E X h => by
  refine wpAny_isTrue_Compare1 (wpAny_mono (h1.run A env s ℓ σ _ E X h) (fun u s₁ p => ?_) fun _ _ p => p) hm
  refine Post.elim p fun a σ₁ hu hR hx hs hq => ?_
  have X₁ := X.step hR hx
  refine wpAny_mono (h2.run A env s₁ ℓ σ₁ _ E X₁ hq) (fun v s₂ p => ?_) fun _ _ p => p.back hx hs
  refine Post.elim p fun b σ₂ hv hR2 hx2 hs2 hq2 => ?_
  refine wpAny_mono (cmpS_ok (E := fun _ _ => False) (X₁.step hR2 hx2) (hx2.vr hR noSeq_no hu) hv hq2) (fun w s₃ p => ?_) fun _ _ p => p.elim
  obtain ⟨bb, tk, rfl, rfl, hq3⟩ := p
  exact wpAny_truthy_bool ⟨bb, σ₂, rfl, hR2, hx.trans hx2, hs.trans (hs2.trans ⟨rfl, rfl, rfl⟩), hq3⟩
noncomputable def itemS (o i : V) (σ : AH) (Q : V → Prop) : Prop := match o with
  | .str x => (match i with | .int k => (∃ ch, (seqIndex? k x.length).bind (x.cps[·]?) = some ch ∧ Q (.str ⟨#[ch]⟩)) | _ => False)
  | o => itemV o i σ Q
noncomputable def tItemS (t₁ t₂ : TE) : TE := fun ℓ σ Q E => t₁ ℓ σ (fun a σ₁ => t₂ ℓ σ₁ (fun b σ₂ => itemS a b σ₂ fun x => Q x σ₂) E) E
theorem sndE_itemS {e₁ e₂ : Expr} {t₁ t₂ : TE} {pos : Pos} (h1 : SndE g sc r c e₁ t₁) (h2 : SndE g sc r c e₂ t₂) (hs : ∀ a b, subscripted e₂ false a b = operate [a, b] (getItem a b)) : SndE g sc r c (.Subscript e₁ e₂ pos) (tItemS t₁ t₂) := .mk fun A env s ℓ σ Q E X h => by
  refine Subscript_ (wpAny_mono (h1.run A env s ℓ σ _ E X h) (fun u s₁ p => ?_) fun _ _ p => p)
  refine Post.elim p fun a σ₁ hu hR hx hs1 hq => ?_
  have X₁ := X.step hR hx
  refine wpAny_mono (h2.run A env s₁ ℓ σ₁ _ E X₁ hq) (fun v s₂ p => ?_) fun _ _ p => p.back hx hs1
  refine Post.elim p fun b σ₂ hv hR2 hx2 hs2 hq2 => ?_
  refine wp_back (hx.trans hx2) (hs1.trans hs2) ?_
  have hu2 := hx2.vr hR noSeq_no hu
  unfold itemS at hq2
  split at hq2
  · rename_i x
    split at hq2
    · rename_i k
      obtain ⟨ch, e, hq2⟩ := hq2
      rw [VR_str] at hu2; obtain ⟨hf, t, rfl⟩ := hu2
      rw [VR_int] at hv; obtain ⟨t', rfl⟩ := hv
      have e' := e
      rw [Option.bind_eq_some_iff] at e'
      obtain ⟨j, ej, _⟩ := e'
      obtain ⟨hj, hk⟩ := seqIndex_some ej
      have hf' := hf
      unfold Fits at hf'
      refine tail_any (typeIs_str _ _ _) F.slot_str_getitem.lookup (P.getItem_str ?_ e (post_tok hR2 (VR_str.mpr ⟨by show (1 : Nat) ≤ 1000000; decide, _, rfl⟩) hq2)) (hs _ _)
      rw [Bool.or_eq_false_iff]
      exact ⟨decide_eq_false (by omega), decide_eq_false (by omega)⟩
    · exact hq2.elim
  · exact item_ok (X₁.step hR2 hx2) hu2 hv hq2 hs fun x w tk hx hw => post_tok hR2 hw hx
/-- a slice of a text -/
noncomputable def sliceT (o : V) (lo hi : V) (σ : AH) (Q : V → AH → Prop) : Prop := match o with
  | .str x => (match boundV lo, boundV hi with | some l, some h => Q (.str (Txt.slice x l h)) σ | _, _ => False)
  | _ => False
noncomputable def tSliceT (t t₁ t₂ : TE) : TE := fun ℓ σ Q E => t ℓ σ (fun o σ₁ => t₁ ℓ σ₁ (fun lo σ₂ => t₂ ℓ σ₂ (fun hi σ₃ => sliceT o lo hi σ₃ Q) E) E) E
theorem bound_cases {h : Heap} {x : V} {v : Value} {k : Option Int} (hv : VR g h x v) (e : boundV x = some k) : (k = none ∧ v = .none) ∨ ∃ i t, k = some i ∧ v = .int i t := by
  cases x with
  | none => rw [VR_none] at hv; cases e; exact .inl ⟨rfl, hv⟩
  | int i => rw [VR_int] at hv; obtain ⟨t, rfl⟩ := hv; cases e; exact .inr ⟨i, t, rfl, rfl⟩
  | _ => cases e
theorem sndE_sliceT {e : Expr} {lo hi : Option Expr} {t t₁ t₂ : TE} {p pos : Pos} (h0 : SndE g sc r c e t) (h1 : SndO g sc r c lo t₁) (h2 : SndO g sc r c hi t₂) : SndE g sc r c (.Subscript e (.Slice lo hi none p) pos) (tSliceT t t₁ t₂) := .mk fun A env s ℓ σ Q E X h => by
  refine Subscript_ (wpAny_mono (h0.run A env s ℓ σ _ E X h) (fun u s₁ q => ?_) fun _ _ q => q)
  obtain ⟨o, σ₁, hu, hR, hx, hs1, hq⟩ := q
  have X₁ := X.step hR hx
  refine wpAny_Slice (wpAny_mono (h1.run A env s₁ ℓ σ₁ _ E X₁ hq) (fun vl s₂ q => ?_) fun _ _ q => q.back hx hs1)
  obtain ⟨lo', σ₂, hl, hR2, hx2, hs2, hq2⟩ := q
  have X₂ := X₁.step hR2 hx2
  have hx02 := hx.trans hx2
  have hs02 := hs1.trans hs2
  refine wpAny_mono (h2.run A env s₂ ℓ σ₂ _ E X₂ hq2) (fun vu s₃ q => ?_) fun _ _ q => q.back hx02 hs02
  obtain ⟨hi', σ₃, hh, hR3, hx3, hs3, hq3⟩ := q
  have hx03 := hx02.trans hx3
  have hs03 := hs02.trans hs3
  rw [evalPart_none]
  refine wpAny_pure ?_
  have hu3 : VR g s₃.heap o u := hx3.vr hR2 noSeq_no (hx2.vr hR noSeq_no hu)
  have hl3 := hx3.vr hR2 noSeq_no hl
  unfold sliceT at hq3
  split at hq3
  · rename_i x
    rw [VR_str] at hu3; obtain ⟨hf, tt, rfl⟩ := hu3
    split at hq3
    · rename_i l hb e1 e2
      have sub : ∀ a b, subscripted (.Slice lo hi none p) false a b = operate [b, a] (getItem a b) := fun _ _ => rfl
      have kP : KeptH fun h' => ∀ a o, s₃.heap.get? a = some o → h'.get? a = some o := fun h' ob k a o e => Heap.get?_push_of_some _ (k a o e)
      have fin : ∀ h' t' k, (∀ a o, s₃.heap.get? a = some o → h'.get? a = some o) → PostE g s σ Q (.str (Txt.slice x l hb) t') { s₃ with heap := h', toks := k } := fun h' t' k kp =>
        ⟨_, σ₃, VR_str.mpr ⟨hf.le (Txt.slice_le x _ _), _, rfl⟩, hR3.keeps kp, hx03.trans (.keeps kp), hs03.trans ⟨rfl, rfl, rfl⟩, hq3⟩
      rcases bound_cases hl3 e1 with ⟨rfl, rfl⟩ | ⟨i, ti, rfl, rfl⟩ <;> rcases bound_cases hh e2 with ⟨rfl, rfl⟩ | ⟨j, tj, rfl, rfl⟩
      · obtain ⟨T, id, k1, k2, k3⟩ := SBH.sliceItem_nn (prog := g.prog) (w := g.w) (A := A) (E := PostX g A s σ E) (s := s₃) (x := x) (t := tt) (Q := PostE g s σ Q) kP (fun _ _ e => e) fin hf.line
        exact tail_any k2 k1 k3 (sub _ _)
      · obtain ⟨T, id, k1, k2, k3⟩ := SBH.sliceItem_ns (prog := g.prog) (w := g.w) (A := A) (E := PostX g A s σ E) (s := s₃) (x := x) (t := tt) (uj := tj) (Q := PostE g s σ Q) kP (fun _ _ e => e) fin hf.line
        exact tail_any k2 k1 k3 (sub _ _)
      · obtain ⟨T, id, k1, k2, k3⟩ := SBH.sliceItem_sn (prog := g.prog) (w := g.w) (A := A) (E := PostX g A s σ E) (s := s₃) (x := x) (t := tt) (ui := ti) (Q := PostE g s σ Q) kP (fun _ _ e => e) fin hf.line
        exact tail_any k2 k1 k3 (sub _ _)
      · obtain ⟨T, id, k1, k2, k3⟩ := SBH.sliceItem_ss (prog := g.prog) (w := g.w) (A := A) (E := PostX g A s σ E) (s := s₃) (x := x) (t := tt) (ui := ti) (uj := tj) (Q := PostE g s σ Q) kP (fun _ _ e => e) fin hf.line
        exact tail_any k2 k1 k3 (sub _ _)
    · exact hq3.elim
  · exact hq3.elim
/-! ## texts: walks -/
noncomputable def charsV (x : Str) : List V := x.cps.toList.map fun ch => .str ⟨#[ch]⟩
theorem iters_str (I : Addr) (x : Str) (t : Tok) : Iters g (charsV x) (fun _ => True) I (· = I) (fun k h => h.IsStrIter I "str_ascii_iterator" x t k) false where
  stab := fun k h h' st _ kp => let ⟨o, ho, hc, hd⟩ := st; ⟨o, kp I o rfl ho, hc, hd⟩
  flds := fun k h b st e => by subst e; obtain ⟨o, ho, _, hd⟩ := st; exact ⟨o, ho, .inr ⟨_, hd⟩⟩
  self := fun k A E s Q st h => wpAny_pyIter_striter_ascii st h
  item := fun k y A E s σ target Q hx st R iv off _ h => by
    unfold charsV at hx
    rw [List.getElem?_map, Option.map_eq_some_iff] at hx
    obtain ⟨ch, e, rfl⟩ := hx
    obtain ⟨oI, hoI, hcI, hdI⟩ := id st
    refine wpAny_pyNext_ascii_item st (by simpa using e) fun h' st' sb => ?_
    obtain ⟨o', ho', hc', hd'⟩ := id st'
    exact letGo_plain ho' hc' hd' (by decide) (h _ _ (fun b o nb e => sb.extBut b o nb e) ⟨rfl, rfl, rfl⟩ st' (VR_str.mpr ⟨by show (1 : Nat) ≤ 1000000; decide, _, rfl⟩))
  last := fun k A E s σ Q hk hh st R iv off h => by
    have hn : x.cps[k]? = none := by
      rw [Array.getElem?_eq_none_iff]; simpa [charsV] using hk
    exact wpAny_pyNext_ascii_end hh st hn fun h' eb => h { s with heap := h' } (fun b o nb e => eb b o nb e) ⟨rfl, rfl, rfl⟩
noncomputable def tIterT (t : TE) : TI := fun ℓ σ Q E => t ℓ σ (fun x σ₁ => match x with | .str x => AscB x ∧ Q (charsV x) (fun _ => True) false σ₁ | _ => False) E
theorem sndI_text {e : Expr} {t : TE} (h1 : SndE g sc r c e t) : SndI g sc r c e (tIterT t) := .mk fun A env s ℓ σ Q E X h => by
  refine wpAny_mono (h1.run A env s ℓ σ _ E X h) (fun v s₁ p => ?_) fun _ _ p => p
  refine Post.elim p fun x σ₁ hv hR hx hs hq => ?_
  cases x with
  | str x =>
    obtain ⟨hf, t, rfl⟩ := VR_str.mp hv
    exact wpAny_pyIter_ascii hq.1 (postI_one hR hx hs (iters_str _ x t) ⟨_, Heap.get?_push_size _ rfl, rfl, rfl⟩ (by show Fits (charsV x).length; unfold charsV; rw [List.length_map]; show Fits x.cps.toList.length; rw [Array.length_toList]; exact hf) hq.2)
  | _ => exact hq.elim
/-! ## texts: calls -/
noncomputable def tLenT : TF := fun xs σ Q E => match xs with | [.str x] => Q (.int x.length) σ | xs => tLen xs σ Q E
theorem sndF_lenT : SndF g r (.builtin "len") tLenT := .mk fun A s σ xs vs Q E G F Rm R hv h => by
  unfold tLenT at h
  split at h
  · rename_i x
    obtain ⟨v, _, rfl, hx, hr⟩ := VRs_cons_inv hv
    rw [VRs_nil_inv hr]
    obtain ⟨hf, t, rfl⟩ := VR_str.mp hx
    have := hf.fit
    exact P.len_str (by omega) (post_value R rfl ⟨rfl, rfl, rfl⟩ (VR_int.mpr ⟨_, rfl⟩) h)
  · exact sndF_len.run A s σ xs vs Q E G F Rm R hv h
noncomputable def tStrI : TF := fun xs σ Q _ => ∃ n : Int, xs = [.int n] ∧ 0 ≤ n ∧ n < 10 ^ 30 ∧ Q (.str (numS n)) σ
theorem digits_fit {n : Int} (h0 : 0 ≤ n) (h1 : n < 10 ^ 30) : n.natAbs.log2 < 1920 := by
  have hlt : n.natAbs < 2 ^ 1920 := by
    have h2 : (10 : Nat) ^ 30 < 2 ^ 1920 := by decide +kernel
    have h3 : n.natAbs < 10 ^ 30 := by
      have : (n.natAbs : Int) = n := Int.natAbs_of_nonneg h0
      have h4 : (n.natAbs : Int) < ((10 ^ 30 : Nat) : Int) := by rw [this]; exact h1
      exact Int.ofNat_lt.mp h4
    omega
  by_cases z : n.natAbs = 0
  · rw [z]; decide +kernel
  · exact (Nat.log2_lt z).mpr hlt
theorem sndF_strI : SndF g r (.type "str") tStrI := .mk fun A s σ xs vs Q E G F Rm R hv h => by
  obtain ⟨n, rfl, h0, h1, h⟩ := h
  obtain ⟨v, _, rfl, hx, hr⟩ := VRs_cons_inv hv
  rw [VRs_nil_inv hr]
  obtain ⟨t, rfl⟩ := VR_int.mp hx
  exact P.str_of_int (digits_fit h0 h1) (post_value R rfl ⟨rfl, rfl, rfl⟩ (VR_str.mpr ⟨Nat.le_trans (numS_len h0 h1).2 (by decide), _, rfl⟩) h)
noncomputable def tIntT : TF := fun xs σ Q _ => ∃ (x : Str) (n : Int), xs = [.str x] ∧ PySem.intText? x = some n ∧ x.length ≤ 640 ∧ Q (.int n) σ
theorem sndF_intT : SndF g r (.type "int") tIntT := .mk fun A s σ xs vs Q E G F Rm R hv h => by
  obtain ⟨x, n, rfl, h0, h1, h⟩ := h
  obtain ⟨v, _, rfl, hx, hr⟩ := VRs_cons_inv hv
  rw [VRs_nil_inv hr]
  obtain ⟨_, t, rfl⟩ := VR_str.mp hx
  exact KIN.call_text h0 h1 (post_value R rfl ⟨rfl, rfl, rfl⟩ (VR_int.mpr ⟨_, rfl⟩) h)
noncomputable def tTupleOf : TF := fun xs σ Q _ => ∃ (a : Addr) (ys : List V), xs = [.ref a] ∧ σ a = some (.list ys) ∧ Q (.tup ys) σ
theorem sndF_tupleOf : SndF g r (.type "tuple") tTupleOf := .mk fun A s σ xs vs Q E G F Rm R hv h => by
  obtain ⟨a, ys, rfl, e, h⟩ := h
  obtain ⟨v, _, rfl, hx, hr⟩ := VRs_cons_inv hv
  rw [VRs_nil_inv hr, VR_ref.mp hx]
  obtain ⟨hf, us, n, ho, hvs⟩ := (R.own a _ e).2
  have hl := VRs_length hvs
  simp only [Array.length_toList] at hl
  refine call_tuple_list ⟨_, ho, rfl, n, rfl⟩ (fun h' kp => ?_) (by rw [← hl]; exact hf.line)
  have kp2 : ∀ b o, s.heap.get? b = some o → (h'.push { cls := .type "tuple", data := .seq us }).get? b = some o := fun b o e => Heap.get?_push_of_some _ (kp b o e)
  have fr : s.heap.get? h'.objs.size = none := by
    cases q : s.heap.get? h'.objs.size with
    | none => rfl
    | some o => exact absurd (Heap.lt_size (kp _ o q)) (Nat.lt_irrefl _)
  refine ⟨.tup ys, σ, VR_tup.mpr ⟨hf, h'.objs.size, _, us, 0, rfl, fun w => ?_, Heap.get?_push_size _ rfl, rfl, rfl, VRs.mono (fun a o _ _ _ e _ _ => .of (kp2 a o e)) hvs⟩, R.keeps kp2, .keeps kp2, ⟨rfl, rfl, rfl⟩, h⟩
  obtain ⟨o, e⟩ := R.hid _ w; rw [fr] at e; cases e
/-- the parts of a text, by a text that is not empty -/
noncomputable def tSplit : TF := fun xs σ Q _ => ∃ (x y : Str), xs = [.str x, .str y] ∧ y = spS ∧ x.length ≤ 1000 ∧ ∀ a, σ a = none → Q (.ref a) (σ.set a (.list ((Txt.split x y).map V.str)))
theorem sndF_split : SndF g r (.builtin "str.split") tSplit := .mk fun A s σ xs vs Q E G F Rm R hv h => by
  obtain ⟨x, y, rfl, ey, hz, h⟩ := h
  have hy : y.length ≠ 0 := by rw [ey]; decide
  obtain ⟨v, _, rfl, hx, hr⟩ := VRs_cons_inv hv
  obtain ⟨v2, _, rfl, hx2, hr2⟩ := VRs_cons_inv hr
  rw [VRs_nil_inv hr2]
  obtain ⟨hf, t, rfl⟩ := VR_str.mp hx
  obtain ⟨_, u, rfl⟩ := VR_str.mp hx2
  have hcnt : (Txt.split x y).length ≤ 1001 ∧ ∀ p ∈ Txt.split x y, p.length ≤ 1000 := by
    subst ey
    exact ⟨Nat.le_trans (words_count x) (by omega), fun p hp => Nat.le_trans (words_len hp) hz⟩
  have fin : ∀ (l : List (Str × Tok)) (tk : Nat), l.map (·.1) = Txt.split x y → PostE g s σ Q (.ref s.heap.objs.size) { s with heap := s.heap.push { cls := .type "list", data := .seq (strValues l).toArray }, toks := tk } := fun l tk e => by
    have hl : (Txt.split x y).length = l.length := by rw [← e]; simp
    refine ⟨.ref _, σ.set s.heap.objs.size (.list ((Txt.split x y).map V.str)), VR_ref.mpr rfl, R.alloc (push_keeps _ _) (size_fresh _) ⟨?_, (strValues l).toArray, 0, Heap.get?_push_size _ rfl, ?_⟩, .alloc (push_keeps _ _) (size_fresh _), ⟨rfl, rfl, rfl⟩, h _ (R.fresh (size_fresh _))⟩
    · show ((Txt.split x y).map V.str).length ≤ 1000000
      rw [List.length_map]; omega
    · rw [← e]
      have hp : ∀ p ∈ l, p.1.length ≤ 1000 := fun p hp => hcnt.2 _ (by rw [← e]; exact List.mem_map_of_mem hp)
      clear e hl
      show VRs g (s.heap.push { cls := .type "list", data := .seq (strValues l).toArray }) _ (strValues l)
      generalize s.heap.push { cls := .type "list", data := .seq (strValues l).toArray } = hh
      induction l with
      | nil => exact VRs_nil
      | cons p l ih => exact VRs_cons (VR_str.mpr ⟨Nat.le_trans (hp p (.head _)) (by decide), _, rfl⟩) (ih fun q hq => hp q (.tail _ hq))
  have hsz := hf.line
  have hy' : (y.length == 0) = false := by simpa using hy
  cases h1 : (decide (x.length < y.length) || decide (strKind x < strKind y))
  · cases hf : (occurrences x y 0 x.length (x.length + 1)).isEmpty
    · have e2 : Txt.split x y = partsBetween x (occurrences x y 0 x.length (x.length + 1)) y.length := (if_neg (ne_true_of_eq_false h1)).trans (if_neg (ne_true_of_eq_false hf))
      refine call_meets PySem.F.slot_str_split (typeIs_str _ _ _) PySem.F.entry_str_split (PySem.F.args_str_split_2 _ _) (meets_str_split_sep x y t u h1 hy' hf hsz (by rw [← e2]; exact Nat.le_trans hcnt.1 (by decide))) ?_
      show wants _ _ _ { s with toks := _, heap := s.heap.push { cls := .type "list", data := .seq (strsFrom s.toks (partsBetween x (occurrences x y 0 x.length (x.length + 1)) y.length)).toArray } }
      rw [strsFrom_eq]
      exact fin (numbered s.toks _) _ ((numbered_texts _ _).trans e2.symm)
    · exact call_meets PySem.F.slot_str_split (typeIs_str _ _ _) PySem.F.entry_str_split (PySem.F.args_str_split_2 _ _) (meets_str_split_not_found x y t u h1 hy' hf)
        (fin [(x, t)] _ ((if_neg (ne_true_of_eq_false h1)).trans (if_pos hf)).symm)
  · exact call_meets PySem.F.slot_str_split (typeIs_str _ _ _) PySem.F.entry_str_split (PySem.F.args_str_split_2 _ _) (meets_str_split_cannot_occur x y t u h1)
      (fin [(x, t)] _ (if_pos h1).symm)
noncomputable def tJoin : TF := fun xs σ Q _ => ∃ (x : Str) (a : Addr) (ys : List Str), xs = [.str x, .ref a] ∧ σ a = some (.list (ys.map V.str)) ∧ (ys.map (·.length)).sum + ys.length * x.length ≤ 100000 ∧ Q (.str (Txt.join x ys)) σ
theorem strs_of {h : Heap} : ∀ {ys : List Str} {vs : List Value}, VRs g h (ys.map V.str) vs → ∃ l : List (Str × Tok), vs = strValues l ∧ l.map (·.1) = ys
  | [], vs, a => by rw [VRs_nil_inv a]; exact ⟨[], rfl, rfl⟩
  | y :: ys, vs, a => by
    obtain ⟨v, r, rfl, hv, b⟩ := VRs_cons_inv a
    obtain ⟨_, t, rfl⟩ := VR_str.mp hv
    obtain ⟨l, rfl, e⟩ := strs_of b
    exact ⟨(y, t) :: l, rfl, by simp [e]⟩
theorem sndF_join : SndF g r (.builtin "str.join") tJoin := .mk fun A s σ xs vs Q E G F Rm R hv h => by
  obtain ⟨x, a, ys, rfl, e, hz, h⟩ := h
  obtain ⟨v, _, rfl, hx, hr⟩ := VRs_cons_inv hv
  obtain ⟨v2, _, rfl, hx2, hr2⟩ := VRs_cons_inv hr
  rw [VRs_nil_inv hr2, VR_ref.mp hx2]
  obtain ⟨hfx, t, rfl⟩ := VR_str.mp hx
  obtain ⟨hf, us, n, ho, hvs⟩ := (R.own a _ e).2
  obtain ⟨l, el, et⟩ := strs_of hvs
  have eu : us = (strValues l).toArray := by rw [← el]
  subst eu
  refine SC.join ⟨_, ho, rfl, n, rfl⟩ et (joinOk_of (by omega)) fun t' k => post_value R rfl ⟨rfl, rfl, rfl⟩ (VR_str.mpr ⟨?_, _, rfl⟩) h
  have := StrLaws.join_length_le x ys
  show (glued x ys).length ≤ 1000000
  rw [StrLaws.glued_eq_join]
  omega
end
section
open PySem PySem.W PyProof.Rows
section
variable {prog : Program} {w : World} {A : Around} {E : Value → Shared → Prop} {s : Shared}
end
/-! ## dict(list of pairs) -/
section
variable {g : Gr} {r : Nat} {A : Around}
end
end
section
open PySem PySem.W PyProof.Rows
variable {g : Gr} {r : Nat} {sc : Scope} {c : Bool}
/-! ## d != {} -/
end
section
/-! # the plain mathematics of a hall -/
structure Rw where
  n : Int
  l : Int
  r : Int
  h : Option Int
section
variable {S : List Rw} {s : Bool} {e one other : Int} {l : List Rw}
end
/-! ## a row gets its hue -/
/-! ## counting -/
end
section
/-! # degrees, counts, what come and go do -/
/-! ## what hueing leaves: the same rows but for hues -/
end
section
/-! ## a hue's pairs go -/
end
section
open PySem PySem.W PyProof.Rows
variable {g : Gr} {sc csc : Scope} {r : Nat} {c : Bool} {K : Frag}
section
variable {o : Expr} {apos pos : Pos} {args : List Expr} {to : TE} {ts : TL}
end
/-! ## strings, none, data -/
theorem lay_str {x : Str} (h : PyData.strOk x = true) : Lay (.str x) := ⟨by simpa [PyData.canLay0] using h, by simp [PyData.depth]⟩
theorem eqD_str {σ : AH} {a b : Str} {Q : Bool → Prop} (ha : PyData.strOk a = true) (hb : PyData.strOk b = true) (h : Q (a == b)) : eqD (.str a) (.str b) σ Q := by
  unfold eqD
  exact ⟨.str a, .str b, by simp [DataOf], by simp [DataOf], lay_str ha, lay_str hb, by simpa only [PyData.eqv] using h⟩
/-! ## a hall in the abstract heap -/
end
section
open PySem PySem.W PyProof.Rows
/-! ## counting -/
end
section
open PySem PySem.W PyProof.Rows
end
section
open PySem PySem.W PyProof.Rows
end
section
open PySem PySem.W PyProof.Rows
/-! ## a chain is the only one -/
/-! ## a row is laid anew -/
/-! ## hueing a row -/
theorem itemL {σ : AH} {a : Addr} {xs : List V} {k : Int} {x : V} {Q : V → Prop} (h : σ a = some (.list xs)) (e : atV xs k = some x) (q : Q x) : itemV (.ref a) (.int k) σ Q := by
  simp only [itemV, h, e]; exact q
theorem itemT {σ : AH} {xs : List V} {k : Int} {x : V} {Q : V → Prop} (e : atV xs k = some x) (q : Q x) : itemV (.tup xs) (.int k) σ Q := by
  simp only [itemV, e]; exact q
end
section
open PySem PySem.W PyProof.Rows
section
variable {g : Gr} {sc csc : Scope} {r : Nat} {c : Bool} {K : Frag}
end
/-! ## a hall's number and rows grow -/
/-! ## what the larger ones do -/
end
section
open PySem PySem.W PyProof.Rows
/-! ## the ends as the law keeps them -/
inductive SCellAtI (xs : List V) (σ : AH) (Q : V → AH → Prop) : Prop
  | mk (ns : List Int) (k : Nat) (h0 : xs = [.frz (ns.map V.int), .int k]) (h1 : ∀ c, Q (.int c) σ) : SCellAtI xs σ Q
noncomputable def sCellAt : TF := fun xs σ Q _ => SCellAtI xs σ Q
inductive SMixedI (xs : List V) (σ : AH) (Q : V → AH → Prop) : Prop
  | mk (c : Int) (k : Int) (h0 : xs = [.int c, .int k]) (h1 : 0 ≤ k) (h2 : k ≤ 1000000) (h3 : ∀ n : Int, 0 ≤ n → Q (.int n) σ) : SMixedI xs σ Q
noncomputable def sMixed : TF := fun xs σ Q _ => SMixedI xs σ Q
theorem atV_mem {xs : List V} {k : Int} (h0 : 0 ≤ k) (h1 : k < xs.length) : ∃ x, atV xs k = some x ∧ x ∈ xs := by
  have hk : k.toNat < xs.length := by omega
  exact ⟨xs[k.toNat], atV_int h0 (by simp [hk]), List.getElem_mem hk⟩
end
section
open PySem PySem.W PyProof.Rows
theorem eqD_int {σ : AH} {i j : Int} {Q : Bool → Prop} (h : Q (i == j)) : eqD (.int i) (.int j) σ Q := by
  simp only [eqD]; exact h
end
section
open PySem PySem.W PyProof.Rows
end
section
open PySem PySem.W PyProof.Rows
/-! ## the values of any dict -/
section
variable {prog : Program} {w : World} {A : Around} {E : Value → Shared → Prop} {s : Shared} {d : Addr} {vs : List Value} {ep : Nat}
end
end
section
open PySem PySem.W PyProof.Rows
variable {g : Gr} {sc csc : Scope} {r : Nat} {c : Bool} {K : Frag}
/-! ## dict.get with a default -/
/-! ## dict(dict), int(bool), all -/
noncomputable def tAll : TF := fun xs σ Q _ => ∃ (a : Addr) (bs : List Bool), xs = [.ref a] ∧ σ a = some (.list (bs.map V.bool)) ∧ Q (.bool (bs.all id)) σ
theorem sndF_all : SndF g r (.builtin "all") tAll := .mk fun A s σ xs vs Q E G Fr Rm R hv h => by
  obtain ⟨a, bs, rfl, e, h⟩ := h
  obtain ⟨v, _, rfl, ha, hr⟩ := VRs_cons_inv hv
  rw [VRs_nil_inv hr, VR_ref.mp ha]
  obtain ⟨hf, us, n, ho, hvs⟩ := (R.own a _ e).2
  have hlt : a < s.heap.objs.size := Heap.lt_size ho
  have hl : s.heap.IsList a us := ⟨_, ho, rfl, n, rfl⟩
  have hlen : bs.length = us.size := by have := VRs_length hvs; simpa using this
  refine call_all_walk (wpAny_pyIter_list hl ?_)
  refine ⟨s.heap.objs.size, [s.heap.objs.size, a], [s.heap.objs.size], us.size, _, _, fun i => (bs[i]?).getD true, rfl, Walks.list (A := A.in1) (Rm.calm rfl) _ a (Nat.ne_of_lt hlt) us, ⟨⟨_, Heap.get?_push_size _ rfl, rfl, rfl⟩, hl.push _⟩, fun i v s' Q' E' hP hQ => ?_, fun h' tk hk => ?_⟩
  · replace hP : us[i]? = some v := hP
    replace hQ : Q' ((bs[i]?).getD true) s' := hQ
    have hi : i < bs.length := by
      rcases Nat.lt_or_ge i bs.length with q | q
      · exact q
      · rw [Array.getElem?_eq_none (by omega)] at hP; cases hP
    obtain ⟨u, hu, hb⟩ := VRs_getA hvs (i := i) (x := .bool bs[i]) (by simp [hi])
    rw [hP] at hu; cases hu
    rw [VR_bool.mp hb]
    simp only [List.getElem?_eq_getElem hi, Option.getD_some] at hQ
    exact wpAny_truthy_bool hQ
  · have e2 : ((List.range us.size).all fun i => (bs[i]?).getD true) = bs.all id := by
      rw [Bool.eq_iff_iff, List.all_eq_true, List.all_eq_true]
      constructor
      · intro q b hb
        obtain ⟨i, hi, rfl⟩ := List.getElem_of_mem hb
        have := q i (List.mem_range.2 (by omega))
        simpa [List.getElem?_eq_getElem hi] using this
      · intro q i hi
        have hi' : i < bs.length := by have := List.mem_range.1 hi; omega
        simp only [List.getElem?_eq_getElem hi', Option.getD_some]
        exact q _ (List.getElem_mem hi')
    rw [e2]
    refine .keeps (fun b o q => hk b o (fun hm => ?_) (Heap.get?_push_of_some _ q)) ⟨rfl, rfl, rfl⟩ (VR_bool.mpr rfl) R h
    rw [List.mem_singleton.1 hm, size_fresh] at q; cases q
/-! ## the keys of a dict are walked through -/
end
section
open PySem PySem.W PyProof.Rows
variable {g : Gr} {sc : Scope} {r : Nat} {c : Bool}
/-! ## methods of texts -/
section
variable {o : Expr} {apos pos : Pos} {args : List Expr} {to : TE} {ts : TL}
theorem mJoin (ho : SndE g sc r true o to) (hL : SndL g sc r true args ts) (hp : Plain args) (hbase : isCall o = false) (hfew : decide (args.length < 30) = true)
    (hline : (apos.endLine == pos.line) = true) : SndE g sc r true (.Call (.Attribute o (Str.ofString "join") apos) args [] pos) (tMethod .str tJoin to ts) :=
  sndE_method (T := .str) F.plainAttrs_str F.slot_str_join F.type_str_join sndF_join ho hL hp hbase hfew hline
theorem mSplit (ho : SndE g sc r true o to) (hL : SndL g sc r true args ts) (hp : Plain args) (hbase : isCall o = false) (hfew : decide (args.length < 30) = true)
    (hline : (apos.endLine == pos.line) = true) : SndE g sc r true (.Call (.Attribute o (Str.ofString "split") apos) args [] pos) (tMethod .str tSplit to ts) :=
  sndE_method (T := .str) F.plainAttrs_str F.slot_str_split F.type_str_split sndF_split ho hL hp hbase hfew hline
end
/-! ## is it a text? -/
noncomputable def isiS (v : V) (σ : AH) : Option Bool := match v with
  | .none => some false
  | .bool _ => some false
  | .int _ => some false
  | .str _ => some true
  | .tup _ => some false
  | .ref a => (match σ a with
    | some (.list _) => some false
    | some (.dictI _ _) => some false
    | _ => none)
  | _ => none
noncomputable def tIsS (t : TE) : TE := fun ℓ σ Q E => t ℓ σ (fun v σ₁ => match isiS v σ₁ with | some b => Q (.bool b) σ₁ | none => False) E
theorem isS_ok {A : Around} {E : Value → Shared → Prop} {s : Shared} {σ : AH} {x : V} {v : Value} {b : Bool} {Q : V → AH → Prop} (R : Rel g s.heap σ) (hx : VR g s.heap x v) (e : isiS x σ = some b) (h : Q (.bool b) σ) :
    wpAny (model g.prog g.w) A (call (.builtin "isinstance") [v, .type "str"]) (PostE g s σ Q) E s := by
  have key : ∀ tk, PostE g s σ Q (.bool b) { s with toks := tk } := fun tk => post_value R rfl ⟨rfl, rfl, rfl⟩ (VR_bool.mpr rfl) h
  cases x with
  | none => cases e; rw [VR_none.mp hx]; exact IsiPair.NoneType_str (key _)
  | bool y => cases e; rw [VR_bool.mp hx]; exact IsiPair.bool_str (key _)
  | int i => cases e; obtain ⟨t, rfl⟩ := VR_int.mp hx; exact IsiPair.int_str (key _)
  | str y => cases e; obtain ⟨_, t, rfl⟩ := VR_str.mp hx; exact IsiPair.str_str (key s.toks)
  | tup ys =>
    cases e
    obtain ⟨_, a, o, us, m, rfl, _, ho, hc, hd, _⟩ := VR_tup.mp hx
    exact IsiPair.tuple_str ho hc (key _)
  | ref a =>
    rw [VR_ref.mp hx]
    simp only [isiS] at e
    split at e
    · rename_i ys q
      cases e
      obtain ⟨_, us, n, ho, _⟩ := (R.own a _ q).2
      exact IsiPair.list_str ho rfl (key _)
    · rename_i kvs ep q
      cases e
      obtain ⟨_, us, hd, _⟩ := (R.own a _ q).2
      obtain ⟨o, es, ho, hc, _⟩ := hd
      exact IsiPair.dict_str ho hc.1 (key _)
    · cases e
  | _ => cases e
theorem sndE_isS {e : Expr} {p p' pos : Pos} {t : TE} (hm : (Str.ofString "isinstance", NameKind.globalImplicit) ∈ sc.names) (hb : Known g "isinstance" (.builtin "isinstance")) (hm' : (Str.ofString "str", NameKind.globalImplicit) ∈ sc.names) (hb' : Known g "str" (.type "str"))
    (h1 : SndE g sc r c e t) (hs : isStar e = false) : SndE g sc r c (.Call (.Name (Str.ofString "isinstance") p) [e, .Name (Str.ofString "str") p'] [] pos) (tIsS t) := .mk fun A env s ℓ σ Q E X h => by
  show wpAny _ A (do callWith pos (← eval (.Name (Str.ofString "isinstance") p) env) [] (backTo pos (starEach [e, .Name (Str.ofString "str") p'] env)) (backToKw pos (keywordEach [] env))) _ _ s
  refine wpAny_bind (name_global X hm hb ?_)
  rw [starEach_cons env hs, starEach_cons (es := []) env rfl]
  refine callWith_ok (.inr (.inl ⟨_, rfl⟩)) rfl ?_
  show wpAny _ A (spliced [(false, eval e env), (false, eval (.Name (Str.ofString "str") p') env)]) _ _ s
  refine Calls.spliced_cons (wpAny_mono (h1.run A env s ℓ σ _ E X h) (fun v s₁ p => ?_) fun _ _ p => p)
  refine Post.elim p fun x σ₁ hv hR hx hs1 hq => ?_
  refine Calls.spliced_cons (name_global (X.step hR hx) hm' hb' (Calls.spliced_nil ⟨fun a o e => hR.base a o e, ?_⟩))
  split at hq
  · rename_i b e
    exact wp_back hx hs1 (isS_ok hR hv e hq)
  · exact hq.elim
/-! ## the module's table of sizes -/
inductive SizesAt (g : Gr) (a : Addr) : Prop
  | mk (t1 t2 : Tok) (hm : g.b0.MapOf (strKind g.prog g.w) a fun x => if x = comeS' then some (.int 3 t1) else if x = goS' then some (.int 2 t2) else none) (hd : (a == sysModules) = false) : SizesAt g a
theorem mapOf_keeps {h h' : Heap} {K : Type} [DecidableEq K] {prog : Program} {w : World} {knd : KeyKind prog w K} {a : Addr} {f : K → Option Value} (m : h.MapOf knd a f) (k : ∀ b o, h.get? b = some o → h'.get? b = some o) : h'.MapOf knd a f :=
  let ⟨o, es, ep, e, r⟩ := m; ⟨o, es, ep, k _ _ e, r⟩
noncomputable def tInBase (t : TE) : TB := fun ℓ σ Q E => t ℓ σ (fun v σ₁ => ∃ x, v = .str x ∧ Q (!(sizeOf? x).isSome) σ₁) E
theorem sndB_inBase {n : String} {a : Addr} {e : Expr} {t : TE} {p pos : Pos} (hm : (Str.ofString n, NameKind.globalImplicit) ∈ sc.names) (hb : Known g n (.ref a)) (Z : SizesAt g a) (h1 : SndE g sc r c e t) :
    SndB g sc r c (.Compare e [.NotIn] [.Name (Str.ofString n) p] pos) (tInBase t) := .mk fun A env s ℓ σ Q E X h => by
  refine wpAny_isTrue_Compare1 (wpAny_mono (h1.run A env s ℓ σ _ E X h) (fun u s₁ p => ?_) fun _ _ p => p) rfl
  refine Post.elim p fun v σ₁ hu hR hx hs hq => ?_
  refine name_global (X.step hR hx) hm hb ?_
  obtain ⟨x, rfl, hq⟩ := hq
  obtain ⟨_, t', rfl⟩ := VR_str.mp hu
  obtain ⟨t1, t2, hmp, hd⟩ := Z
  refine wpAny_notIn_of (strKind_is _ _ x t') hd (mapOf_keeps hmp fun b o e => hR.base b o e) ?_
  refine wpAny_truthy_bool ⟨_, σ₁, rfl, hR, hx, hs.trans ⟨rfl, rfl, rfl⟩, ?_⟩
  have : (if x = comeS' then some (Value.int 3 t1) else if x = goS' then some (Value.int 2 t2) else none).isSome = (sizeOf? x).isSome := by
    unfold sizeOf?; split
    · rfl
    · split <;> rfl
  rw [this]; exact hq
noncomputable def tGetBase (t : TE) : TE := fun ℓ σ Q E => t ℓ σ (fun v σ₁ => ∃ (x : Str) (n : Nat), v = .str x ∧ sizeOf? x = some n ∧ Q (.int n) σ₁) E
theorem sndE_getBase {n : String} {a : Addr} {e : Expr} {t : TE} {p pos : Pos} (hm : (Str.ofString n, NameKind.globalImplicit) ∈ sc.names) (hb : Known g n (.ref a)) (Z : SizesAt g a) (h1 : SndE g sc r c e t) (hs : ∀ a b, subscripted e false a b = operate [a, b] (getItem a b)) :
    SndE g sc r c (.Subscript (.Name (Str.ofString n) p) e pos) (tGetBase t) := .mk fun A env s ℓ σ Q E X h => by
  refine Subscript_ (name_global X hm hb ?_)
  refine wpAny_mono (h1.run A env s ℓ σ _ E X h) (fun v s₂ p => ?_) fun _ _ p => p
  refine Post.elim p fun y σ₂ hv hR hx hs2 hq => ?_
  obtain ⟨x, k, rfl, ek, hq⟩ := hq
  obtain ⟨_, t', rfl⟩ := VR_str.mp hv
  obtain ⟨t1, t2, hmp, hd⟩ := Z
  have hmp' := mapOf_keeps (h' := s₂.heap) hmp fun b o e => hR.base b o e
  have fin : ∀ tok tk, PostE g s σ Q (.int k tok) { s₂ with toks := tk } := fun tok tk => ⟨.int k, σ₂, VR_int.mpr ⟨_, rfl⟩, hR, hx, hs2.trans ⟨rfl, rfl, rfl⟩, hq⟩
  have hT : s₂.TypeIs (.ref a) "dict" := let ⟨o, _, _, e, ex, _⟩ := hmp'; ⟨o, e, ex.1⟩
  unfold sizeOf? at ek
  by_cases h1 : x = comeS'
  · rw [if_pos h1] at ek; cases ek
    exact tail_any hT slot_dict_getitem.lookup (wpAny_getItem_of (strKind_is _ _ x t') hmp' (if_pos h1) (fin t1 _)) (hs _ _)
  · rw [if_neg h1] at ek
    by_cases h2 : x = goS'
    · rw [if_pos h2] at ek; cases ek
      exact tail_any hT slot_dict_getitem.lookup (wpAny_getItem_of (strKind_is _ _ x t') hmp' ((if_neg h1).trans (if_pos h2)) (fin t2 _)) (hs _ _)
    · rw [if_neg h2] at ek; cases ek
/-! ## a comprehension that may raise -/
noncomputable def optAll {α : Type} (F : α → Option V) : List α → Option (List V)
  | [] => some []
  | x :: xs => match F x, optAll F xs with
    | some v, some vs => some (v :: vs)
    | _, _ => none
theorem compT_exc {α : Type} {t : Tgt} {inv : AH → Prop} {telt : TE} {ℓ : Loc} {σ : AH} {Q : List V → AH → Prop} {E : Addr → AH → Prop} (C : Addr) (f : α → V) (F : α → Option V) (hinv : inv σ) :
    ∀ (xs : List α) (acc : List V), (∀ x ∈ xs, ∃ ℓ₁, (∀ P : Loc → Prop, P ℓ₁ → bindV t (f x) ℓ.bare σ P) ∧ ∀ Qv, (∀ v, F x = some v → Qv v σ) → (F x = none → E C σ) → telt ℓ₁ σ Qv E) →
      (∀ vs, optAll F xs = some vs → Q (acc ++ vs) σ) → (optAll F xs = none → E C σ) → compT t inv (tConstB true) telt ℓ (xs.map f) acc σ Q E
  | [], acc, _, h, _ => ⟨hinv, by simpa using h [] rfl⟩
  | x :: xs, acc, hs, h, he => by
    obtain ⟨ℓ₁, h1, h2⟩ := hs x (.head _)
    refine ⟨hinv, h1 _ (h2 _ (fun v ev => ?_) fun ev => he (by simp only [optAll, ev]))⟩
    refine compT_exc C f F hinv xs (acc ++ [v]) (fun y hy => hs y (.tail _ hy)) (fun vs evs => ?_) fun evs => he (by simp only [optAll, ev, evs])
    have := h (v :: vs) (by simp only [optAll, ev, evs])
    simpa using this
theorem optAll_num : ∀ ws : List Str, optAll (fun w => (num? w).map V.int) ws = (allNum ws).map (List.map V.int)
  | [] => rfl
  | w :: ws => by
    simp only [optAll, allNum, optAll_num ws]
    cases num? w with
    | none => simp
    | some n =>
      cases allNum ws with
      | none => simp
      | some ns => simp
end
section
open PySem PySem.W PyProof.Rows
variable {g : Gr} {sc : Scope} {r : Nat} {c : Bool}
/-! ## what the functions of the notes do -/
noncomputable def deedV (k : Str) (ns : List Int) : V := .tup (.str k :: ns.map V.int)
inductive NumberOfI (CB : Addr) (xs : List V) (σ : AH) (Q : V → AH → Prop) (E : Addr → AH → Prop) : Prop
  | mk (w : Str) (e : xs = [.str w]) (ha : AscB w) (hl : w.length ≤ 1000) (h1 : ∀ n, num? w = some n → Q (.int n) σ) (h2 : num? w = none → E CB σ) : NumberOfI CB xs σ Q E
noncomputable def sNumberOf (CB : Addr) : TF := NumberOfI CB
inductive NumberLI (xs : List V) (σ : AH) (Q : V → AH → Prop) : Prop
  | mk (w : Str) (e : xs = [.str w]) (ha : AscB w) (hl : w.length ≤ 1000) (h1 : ∀ n, num? w = some n → Q (.int n) σ) (h2 : num? w = none → Q .none σ) : NumberLI xs σ Q
noncomputable def sNumberL : TF := fun xs σ Q _ => NumberLI xs σ Q
/-- no text, but a thing that the law hands over in its stead -/
noncomputable def NoText (v : V) (σ : AH) : Prop := isiS v σ = some false
inductive DeedOfI (CB : Addr) (xs : List V) (σ : AH) (Q : V → AH → Prop) (E : Addr → AH → Prop) : Prop
  | text (t : Str) (e : xs = [.str t]) (ha : AscB t) (hl : t.length ≤ 1000) (h1 : ∀ k ns, due? t = some (k, ns) → Q (deedV k ns) σ) (h2 : due? t = none → E CB σ) : DeedOfI CB xs σ Q E
  | none (v : V) (e : xs = [v]) (hn : NoText v σ) (h2 : E CB σ) : DeedOfI CB xs σ Q E
noncomputable def sDeedOf (CB : Addr) : TF := DeedOfI CB
inductive DueLI (xs : List V) (σ : AH) (Q : V → AH → Prop) : Prop
  | mk (t : Str) (e : xs = [.str t]) (ha : AscB t) (hl : t.length ≤ 1000) (h1 : ∀ k ns, due? t = some (k, ns) → Q (deedV k ns) σ) (h2 : due? t = none → Q .none σ) : DueLI xs σ Q
noncomputable def sDueL : TF := fun xs σ Q _ => DueLI xs σ Q
noncomputable def refusedV : List V := [.bool false, .bool true, .bool true]
inductive ReadI (xs : List V) (σ : AH) (Q : V → AH → Prop) : Prop
  | text (t : Str) (e : xs = [.str t]) (ha : AscB t) (hl : t.length ≤ 1000) (h1 : ∀ k ns, due? t = some (k, ns) → Q (deedV k ns) σ) (h2 : due? t = none → ∀ a, σ a = none → Q (.ref a) (σ.set a (.list refusedV))) : ReadI xs σ Q
  | none (v : V) (e : xs = [v]) (hn : NoText v σ) (h2 : ∀ a, σ a = none → Q (.ref a) (σ.set a (.list refusedV))) : ReadI xs σ Q
noncomputable def sRead : TF := fun xs σ Q _ => ReadI xs σ Q
inductive RightI (xs : List V) (σ : AH) (Q : V → AH → Prop) : Prop
  | deed (t k : Str) (ns : List Int) (e : xs = [.str t, deedV k ns]) (ha : AscB t) (hl : t.length ≤ 1000) (hk : AscB k) (hd : due? t = some (k, ns)) (h : Q (.bool true) σ) : RightI xs σ Q
  | text (t : Str) (e : xs = [.str t, .none]) (ha : AscB t) (hl : t.length ≤ 1000) (hd : due? t = none) (h : Q (.bool true) σ) : RightI xs σ Q
  | none (v : V) (e : xs = [v, .none]) (hn : NoText v σ) (h : Q (.bool true) σ) : RightI xs σ Q
noncomputable def sRight : TF := fun xs σ Q _ => RightI xs σ Q
noncomputable def Deed (k : Str) (ns : List Int) : Prop := ((k = comeS' ∧ ns.length = 2) ∨ (k = goS' ∧ ns.length = 1)) ∧ ∀ n ∈ ns, 0 ≤ n ∧ n < 10 ^ 30
inductive LineOfI (xs : List V) (σ : AH) (Q : V → AH → Prop) : Prop
  | mk (k : Str) (ns : List Int) (e : xs = [deedV k ns]) (hd : Deed k ns) (h : Q (.str (textOf k ns)) σ) : LineOfI xs σ Q
noncomputable def sLineOf : TF := fun xs σ Q _ => LineOfI xs σ Q
inductive DeedLI (xs : List V) (σ : AH) (Q : V → AH → Prop) : Prop
  | mk (ns : List Int) (e : xs = [.frz (ns.map V.int)]) (h : ∀ k ms, Deed k ms → Q (deedV k ms) σ) : DeedLI xs σ Q
noncomputable def sDeedL : TF := fun xs σ Q _ => DeedLI xs σ Q
inductive BentI (xs : List V) (σ : AH) (Q : V → AH → Prop) : Prop
  | mk (t : Str) (cc : Int) (e : xs = [.str t, .int cc]) (ha : AscB t) (hl : t.length ≤ 100) (hc : 0 ≤ cc) (h : ∀ u, AscB u → u.length ≤ 1000 → Q (.str u) σ) : BentI xs σ Q
noncomputable def sBent : TF := fun xs σ Q _ => BentI xs σ Q
inductive Law10I (xs : List V) (σ : AH) (Q : V → AH → Prop) : Prop
  | mk (ns : List Int) (e : xs = [.frz (ns.map V.int)]) (h : ∀ σ', Q (.bool true) σ') : Law10I xs σ Q
noncomputable def sLaw10 : TF := fun xs σ Q _ => Law10I xs σ Q
/-! ## small facts -/
theorem figs_contains (ch : Nat) : Txt.contains (Str.ofString "0123456789") ⟨#[ch]⟩ = figB ch := by
  have h : Txt.contains (Str.ofString "0123456789") ⟨#[ch]⟩ = decide (ch ∈ (Str.ofString "0123456789").cps.toList) := StrLaws.found_one _ _
  rw [h, show (Str.ofString "0123456789").cps.toList = List.range' 48 10 from by decide +kernel]
  exact decide_eq_decide.mpr (List.mem_range'_1.trans (and_congr_right fun _ => Nat.lt_succ_iff))
theorem first_sign {w : Str} {ch : Nat} {rest : List Nat} (ew : sg w = ch :: rest) : (seqIndex? 0 w.length).bind (w.cps[·]?) = some ch := by
  have hl : 0 < w.length := by rw [← sg_length, ew]; simp
  have e : seqIndex? 0 w.length = some 0 := by
    unfold seqIndex?
    simp [hl]
  rw [e]
  show w.cps[0]? = some ch
  have : w.cps.toList[0]? = some ch := by rw [show w.cps.toList = ch :: rest from ew]; rfl
  simpa using this
theorem zeroS_eq : Str.ofString "0" = zeroS := by decide +kernel
theorem chr_zero (ch : Nat) : ((⟨#[ch]⟩ : Str) == zeroS) = decide (ch = 48) := by
  by_cases h : ch = 48
  · subst h; decide
  · rw [decide_eq_false h, beq_eq_false_iff_ne]
    intro e
    have := congrArg sg e
    simp [sg, zeroS] at this
    exact h this
theorem chr_ok {ch : Nat} (h : ch < 128) : PyData.strOk (⟨#[ch]⟩ : Str) = true := asc_strOk (by rw [asc_iff]; intro c hc; simp [sg] at hc; omega)
theorem word_cons {w : Str} (h : 1 ≤ w.length) : ∃ ch rest, sg w = ch :: rest := by
  cases q : sg w with
  | nil => have := sg_length w; rw [q] at this; simp at this; omega
  | cons a b => exact ⟨a, b, rfl⟩
theorem okW_of {w : Str} {ch : Nat} {rest : List Nat} (l1 : 1 ≤ w.length) (l2 : w.length ≤ 30) (hal : (sg w).all figB = true) (ew : sg w = ch :: rest) : okW w = !(decide (ch = 48) && !(w == zeroS)) := by
  have hh : ((sg w).head? == some 48) = decide (ch = 48) := by
    rw [ew]; show (some ch == some 48) = _
    by_cases h : ch = 48
    · subst h; rfl
    · rw [decide_eq_false h]; simpa using h
  unfold okW; rw [decide_eq_true l1, decide_eq_true l2, hal, hh]; simp
theorem num_ok {w : Str} (h : okW w = true) : num? w = some (valW w) := by unfold num?; rw [h]; rfl
theorem num_no {w : Str} (h : okW w = false) : num? w = none := by unfold num?; rw [h]; rfl
theorem data_strs {σ : AH} : ∀ xs : List Str, DataOfs σ (xs.map PyData.str) (xs.map V.str)
  | [] => by simp [DataOfs]
  | x :: xs => by
    simp only [List.map_cons, DataOfs]
    exact ⟨_, _, rfl, by simp [DataOf], data_strs xs⟩
theorem lays_strs : ∀ {xs : List Str}, (∀ x ∈ xs, PyData.strOk x = true) → PyData.canLayAll0 (xs.map PyData.str) = true ∧ PyData.depthAll (xs.map PyData.str) ≤ 1
  | [], _ => by simp [PyData.canLayAll0, PyData.depthAll]
  | x :: xs, h => by
    obtain ⟨h1, h2⟩ := lays_strs fun y hy => h y (.tail _ hy)
    have h3 := lay_str (h x (.head _))
    have h4 := h3.1
    refine ⟨by simp only [List.map_cons, PyData.canLayAll0, h4, h1, Bool.and_self], ?_⟩
    simp only [List.map_cons, PyData.depthAll, PyData.depth]
    omega
theorem lay_strs {xs : List Str} (h : ∀ x ∈ xs, PyData.strOk x = true) : Lay (.list (xs.map PyData.str)) := by
  obtain ⟨h1, h2⟩ := lays_strs h
  exact ⟨by simpa [PyData.canLay0] using h1, by simp only [PyData.depth]; omega⟩
theorem eqD_strs_nil {σ : AH} {a b : Addr} {xs : List Str} {Q : Bool → Prop} (ha : σ a = some (.list (xs.map V.str))) (hb : σ b = some (.list [])) (hx : ∀ x ∈ xs, PyData.strOk x = true) (h : Q xs.isEmpty) : eqD (.ref a) (.ref b) σ Q := by
  unfold eqD
  refine ⟨.list (xs.map PyData.str), .list [], data_list ha (data_strs xs), data_list (ds := []) hb (by simp [DataOfs]), lay_strs hx, lay_strs (xs := []) (fun _ h => nomatch h), ?_⟩
  cases xs with
  | nil => simpa [PyData.eqv, PyData.eqvAll] using h
  | cons x xs => simpa [PyData.eqv, PyData.eqvAll] using h
theorem empty_eq (w : Str) : (w == Str.ofString "") = decide (w.length = 0) := by
  have e : Str.ofString "" = ⟨#[]⟩ := by decide +kernel
  rw [e]
  by_cases h : w.length = 0
  · rw [decide_eq_true h, beq_iff_eq]
    refine str_ext ?_
    have := sg_length w
    rw [h] at this
    rw [List.length_eq_zero_iff.mp this]
  · rw [decide_eq_false h, beq_eq_false_iff_ne]
    intro q; rw [q] at h; exact h rfl
theorem filt_empty {l : List Nat} : (l.filter fun ch => !figB ch).isEmpty = l.all figB := by
  induction l with
  | nil => rfl
  | cons a l ih =>
    rw [List.filter_cons, List.all_cons]
    cases h : figB a <;> simp [ih]
theorem sp_eq : Str.ofString " " = spS := by decide +kernel
theorem words_cons (t : Str) : ∃ w ws, wordsOf t = w :: ws := by
  cases q : wordsOf t with
  | nil => exact absurd q (words_ne t)
  | cons w ws => exact ⟨w, ws, rfl⟩
theorem allNum_length : ∀ {ws : List Str} {ns : List Int}, allNum ws = some ns → ns.length = ws.length
  | [], ns, h => by cases h; rfl
  | w :: ws, ns, h => by
    simp only [allNum] at h
    split at h
    · rename_i n ms e1 e2
      cases h
      simp [allNum_length e2]
    · cases h
theorem any_strs (x : Str) : ∀ xs : List Str, ((xs.map PyData.str).any fun y => PyData.eqv y (.str x)) = xs.any (· == x)
  | [] => rfl
  | y :: ys => by simp only [List.map_cons, List.any_cons, any_strs x ys, PyData.eqv]
theorem inD_strs {σ : AH} {xs : List Str} {x : Str} {Q : Bool → Prop} (hx : ∀ y ∈ xs, PyData.strOk y = true) (h1 : PyData.strOk x = true) (h : Q (xs.any (· == x))) : inD (.str x) (.tup (xs.map V.str)) σ Q := by
  unfold inD
  obtain ⟨k1, k2⟩ := lays_strs hx
  refine ⟨xs.map PyData.str, .str x, data_strs xs, by simp [DataOf], ⟨by simpa [PyData.canLay0] using k1, by simp only [PyData.depth]; omega⟩, lay_str h1, ?_⟩
  rw [any_strs]; exact h
theorem size_any (w : Str) : ([Str.ofString "come", Str.ofString "go"].any (· == w)) = (sizeOf? w).isSome := by
  show (comeS' == w || (goS' == w || false)) = _
  unfold sizeOf?
  by_cases h1 : w = comeS'
  · rw [if_pos h1, h1]; simp
  · rw [if_neg h1, beq_eq_false_iff_ne.mpr (Ne.symm h1)]
    by_cases h2 : w = goS'
    · rw [if_pos h2, h2]; simp
    · rw [if_neg h2, beq_eq_false_iff_ne.mpr (Ne.symm h2)]; rfl
theorem size_lookup {w : Str} {k : Nat} (h : sizeOf? w = some k) : [(Str.ofString "come", V.int 3), (Str.ofString "go", V.int 2)].lookup w = some (V.int (k : Nat)) := by
  unfold sizeOf? at h
  by_cases h1 : w = comeS'
  · rw [if_pos h1] at h; cases h; subst h1; rfl
  · rw [if_neg h1] at h
    by_cases h2 : w = goS'
    · rw [if_pos h2] at h; cases h; subst h2; rfl
    · rw [if_neg h2] at h; cases h
theorem itemDS {σ : AH} {d : Addr} {kvs : List (Str × V)} {ep : Nat} {k : Str} {x : V} {Q : V → Prop} (h : σ d = some (.dictS kvs ep)) (e : kvs.lookup k = some x) (q : Q x) : itemV (.ref d) (.str k) σ Q := by
  simp only [itemV, h, e]; exact q
noncomputable def numW (w : Str) : V := match num? w with | some n => .int n | none => .none
noncomputable def numDt (w : Str) : PyData := match num? w with | some n => .int n | none => .none
theorem data_nums {σ : AH} : ∀ ws : List Str, DataOfs σ (ws.map numDt) (ws.map numW)
  | [] => by simp [DataOfs]
  | w :: ws => by
    simp only [List.map_cons, DataOfs]
    refine ⟨_, _, rfl, ?_, data_nums ws⟩
    unfold numDt numW
    cases num? w <;> simp [DataOf]
theorem lays_nums : ∀ ws : List Str, PyData.canLayAll0 (ws.map numDt) = true ∧ PyData.depthAll (ws.map numDt) ≤ 1
  | [] => by simp [PyData.canLayAll0, PyData.depthAll]
  | w :: ws => by
    obtain ⟨h1, h2⟩ := lays_nums ws
    have h3 : PyData.canLay0 (numDt w) = true ∧ PyData.depth (numDt w) ≤ 1 := by
      unfold numDt; cases num? w <;> simp [PyData.canLay0, PyData.depth]
    refine ⟨by simp only [List.map_cons, PyData.canLayAll0, h3.1, h1, Bool.and_self], ?_⟩
    simp only [List.map_cons, PyData.depthAll]
    have := h3.2
    omega
theorem any_nums : ∀ ws : List Str, ((ws.map numDt).any fun y => PyData.eqv y .none) = (allNum ws).isNone
  | [] => rfl
  | w :: ws => by
    have := any_nums ws
    simp only [List.map_cons, List.any_cons, this, allNum]
    unfold numDt
    cases h : num? w with
    | none => simp [PyData.eqv]
    | some n => cases allNum ws <;> simp [PyData.eqv]
theorem inD_nums {σ : AH} {a : Addr} {ws : List Str} {Q : Bool → Prop} (ha : σ a = some (.list (ws.map numW))) (h : Q (allNum ws).isNone) : inD .none (.ref a) σ Q := by
  unfold inD
  simp only [ha]
  obtain ⟨k1, k2⟩ := lays_nums ws
  refine ⟨ws.map numDt, .none, data_nums ws, by simp [DataOf], ⟨by simpa [PyData.canLay0] using k1, by simp only [PyData.depth]; omega⟩, lay_none, ?_⟩
  rw [any_nums]; exact h
theorem nums_ints : ∀ {ws : List Str} {ns : List Int}, allNum ws = some ns → ws.map numW = ns.map V.int
  | [], ns, h => by cases h; rfl
  | w :: ws, ns, h => by
    simp only [allNum] at h
    split at h
    · rename_i n ms e1 e2
      cases h
      simp only [List.map_cons, nums_ints e2, numW, e1]
    · cases h
theorem Sub.both {σ σ' : AH} {b : Addr} {o : AO} (x : Sub σ σ') : Sub (σ.set b o) (σ'.set b o) := fun a p e => by
  unfold AH.set at e ⊢
  split at e
  · rename_i h; rw [if_pos h]; exact e
  · rename_i h; rw [if_neg h]; exact x a p e
noncomputable def sWhole10 : TF := fun xs σ Q _ => ∃ n : Int, xs = [.int n] ∧ Q (.bool true) σ
theorem eqvAll_self : ∀ ns : List Int, PyData.eqvAll (ns.map PyData.int) (ns.map PyData.int) = true
  | ns => by rw [eqvAll_ints]; simp
theorem eqD_deed {σ : AH} {k : Str} {ns : List Int} {Q : Bool → Prop} (hk : AscB k) (h : Q true) : eqD (deedV k ns) (deedV k ns) σ Q := by
  have hl : Lay (.tuple (.str k :: ns.map PyData.int)) := by
    have h1 := canLay_ints ns
    have h2 := depth_ints ns
    have h3 := (lay_str (asc_strOk hk)).1
    refine ⟨by simp only [PyData.canLay0, PyData.canLayAll0, h1, Bool.and_true] at h3 ⊢; exact h3, ?_⟩
    simp only [PyData.depth, PyData.depthAll]
    omega
  have hd : DataOf σ (.tuple (.str k :: ns.map PyData.int)) (deedV k ns) := by
    unfold deedV; simp only [DataOf, DataOfs]
    exact ⟨_, rfl, _, _, rfl, rfl, data_ints ns⟩
  unfold eqD deedV at *
  refine ⟨_, _, hd, hd, hl, hl, ?_⟩
  have : PyData.eqv (.tuple (.str k :: ns.map PyData.int)) (.tuple (.str k :: ns.map PyData.int)) = true := by
    simp only [PyData.eqv, PyData.eqvAll, eqvAll_self, beq_self_eq_true, Bool.and_self]
  rw [this]; exact h
theorem eqD_refused {σ : AH} {a b : Addr} {Q : Bool → Prop} (ha : σ a = some (.list refusedV)) (hb : σ b = some (.list refusedV)) (h : Q true) : eqD (.ref a) (.ref b) σ Q := by
  have d : DataOfs σ [.bool false, .bool true, .bool true] refusedV := by simp [DataOfs, DataOf, refusedV]
  have l : Lay (.list [.bool false, .bool true, .bool true]) := ⟨by decide +kernel, by decide +kernel⟩
  unfold eqD
  exact ⟨_, _, data_list ha d, data_list hb d, l, l, h⟩
theorem nums_sum : ∀ {ns : List Int}, (∀ n ∈ ns, 0 ≤ n ∧ n < 10 ^ 30) → ((ns.map numS).map (·.length)).sum ≤ ns.length * 30
  | [], _ => by simp
  | n :: ns, h => by
    have h1 := nums_sum fun m hm => h m (.tail _ hm)
    have h2 := (numS_len (h n (.head _)).1 (h n (.head _)).2).2
    simp only [List.map_cons, List.sum_cons, List.length_cons]
    omega
theorem sign_at {x : Str} {k : Int} (h0 : 0 ≤ k) (h1 : k < (x.length : Int)) : ∃ ch, (seqIndex? k x.length).bind (x.cps[·]?) = some ch ∧ ch ∈ sg x := by
  have hk : k.toNat < x.length := by omega
  have e : seqIndex? k x.length = some k.toNat := by
    obtain ⟨n, rfl⟩ := Int.eq_ofNat_of_zero_le h0
    have hn : n < x.length := by omega
    unfold seqIndex?
    rw [if_neg (show ¬ ((n : Int) < 0) by omega)]
    simp only
    rw [if_pos (by simp; omega)]
  have hk' : k.toNat < x.cps.size := hk
  refine ⟨x.cps[k.toNat], ?_, by simp [sg]⟩
  rw [e]
  show x.cps[k.toNat]? = _
  simp [hk']
theorem asc_slice {x : Str} {l u : Option Int} (h : AscB x) : AscB (Txt.slice x l u) := by
  unfold Txt.slice
  split
  · exact h
  · rw [asc_iff] at h ⊢
    intro c hc
    simp only [sg, List.mem_filterMap] at hc
    obtain ⟨i, _, e⟩ := hc
    exact h c (by have := Array.mem_of_getElem? e; simpa [sg] using this)
theorem asc_append {x y : Str} (h : AscB x) (k : AscB y) : AscB (x ++ y) := by
  rw [asc_iff] at h k ⊢
  intro c hc
  rw [sg_append, List.mem_append] at hc
  rcases hc with hc | hc
  · exact h c hc
  · exact k c hc
theorem asc_one {ch : Nat} (h : ch < 128) : AscB (⟨#[ch]⟩ : Str) := by rw [asc_iff]; intro c hc; simp [sg] at hc; omega
theorem due_asc {t k : Str} {ns : List Int} (h : due? t = some (k, ns)) : AscB k := by
  unfold due? at h
  split at h
  · cases h
  · rename_i w ws e
    split at h
    · rename_i hs
      obtain ⟨ms, _, e2⟩ := Option.map_eq_some_iff.mp h
      cases e2
      unfold sizeOf? at hs
      split at hs
      · rename_i hk; rw [hk]; decide +kernel
      · split at hs
        · rename_i hk; rw [hk]; decide +kernel
        · cases hs
    · cases h
end
section
open PySem PySem.W PyProof.Rows
open_top hd for PySem.Challenge.rw_uf040033_10
end
section
open PySem PySem.W PyProof.Rows
variable {g : Gr} {P : Params}
noncomputable abbrev KK (P : Params) := hd.heap_39 P
/-- the names that the program finds -/
structure NT (g : Gr) : Prop where
  n_isinstance : Known g "isinstance" (.builtin "isinstance")
  n_len : Known g "len" (.builtin "len")
  n_all : Known g "all" (.builtin "all")
  n_str : Known g "str" (.type "str")
  n_int : Known g "int" (.type "int")
  n_bool : Known g "bool" (.type "bool")
  n_tuple : Known g "tuple" (.type "tuple")
  n_range : Known g "range" (.type "range")
  n_ValueError : Known g "ValueError" (.type "ValueError")
  n_FIGURES : Known g "FIGURES" (.str (Str.ofString "0123456789") 337)
  n_MOST_FIGURES : Known g "MOST_FIGURES" (.int 30 339)
  n_SIZES : Known g "SIZES" (.ref 124)
  n_PairError : Known g "PairError" (.ref 24)
  n_BadLine : Known g "BadLine" (.ref 121)
  n_BadCount : Known g "BadCount" (.ref 37)
  n_BadSide : Known g "BadSide" (.ref 49)
  n_BadEnd : Known g "BadEnd" (.ref 61)
  n_TooMany : Known g "TooMany" (.ref 73)
  n_NoPair : Known g "NoPair" (.ref 85)
  n_BadHue : Known g "BadHue" (.ref 97)
  n_NotFree : Known g "NotFree" (.ref 109)
noncomputable abbrev CB : Addr := 121
theorem f_number_of (hK : (KK P).In g.b0) (N : NT g) (hX : ExcC g CB) : SndC g 2 (.ref 134) (sNumberOf CB) := by
  refine SndC.mono (sndC_def (r := 1) (ps := ["word"]) (hK 134 _ rfl) rfl (CodeRec.mk' (hK 133 _ rfl) rfl rfl) rfl (by intro vs h; obtain ⟨a0, rfl⟩ := len1 h; rfl) rfl rfl rfl (by decide +kernel)
    (sndSs_cons (sndS_if (sndB_boolop (sndBs_or (sndB_not (sndB_cmp2 sndE_int (sndE_call (at_ (i := 1) rfl) (fn_builtin N.n_len sndF_lenT) (sndL_cons (sndE_name (.head _) rfl) sndL_nil) rfl) (sndE_global (at_ (i := 2) rfl) (N.n_MOST_FIGURES) (fun _ => VR_int.mpr ⟨_, rfl⟩)) rfl)) (sndBs_or (sndB_not (sndB_value (sndE_call (at_ (i := 3) rfl) (fn_builtin N.n_all sndF_all) (sndL_cons (sndE_comp (by decide +kernel) (sndI_text (sndE_name (.head _) rfl)) (.name (at_ (i := 1) rfl) rfl) (by decide +kernel) sndT_nil (sndE_cmpS (sndE_name (at_ (i := 1) rfl) rfl) (sndE_global (at_ (i := 2) rfl) (N.n_FIGURES) (fun _ => VR_str.mpr ⟨fitsS (by decide), _, rfl⟩)) rfl) (fun _ _ => rfl)) sndL_nil) rfl) (fun _ _ => rfl))) sndBs_or_nil))) (sndSs_cons (sndS_raise (at_ (i := 4) rfl) (N.n_BadLine) hX (sndL_cons (sndE_str (fitsS (by decide))) sndL_nil) rfl)
  sndSs_nil) sndSs_nil)
  (sndSs_cons (sndS_if (sndB_boolop (sndBs_and (sndB_cmp (sndE_itemS (sndE_name (.head _) rfl) sndE_int (fun _ _ => rfl)) (sndE_str (fitsS (by decide))) rfl) (sndBs_and (sndB_cmp (sndE_name (.head _) rfl) (sndE_str (fitsS (by decide))) rfl) sndBs_and_nil))) (sndSs_cons (sndS_raise (at_ (i := 4) rfl) (N.n_BadLine) hX (sndL_cons (sndE_str (fitsS (by decide))) sndL_nil) rfl)
  sndSs_nil) sndSs_nil)
  (sndSs_cons (sndS_return (sndE_call (at_ (i := 5) rfl) (fn_type N.n_int sndF_intT) (sndL_cons (sndE_name (.head _) rfl) sndL_nil) rfl))
  sndSs_nil)))) ?_
  rintro xs σ Q E ⟨w, rfl, ha, hl, h1, h2⟩
  refine tFun_k rfl fun K KE kret _ kexc => ?_
  simp only [Loc.setAll]
  refine tSeq_n fun K1 k1 => ?_
  dsimp only [tNop, tRet, tIfS, tCall, tLen, lenV, tLenT, tListComp, tComp, tNil, tCons, tConst, tName, tTruth, truthV, tNotB, tAndB, tOrB, tConstB, tCmpB, tCmp2B, cmpV, tCmpS, tCmpSB, cmpS, tItem, tItemS, itemS, tSliceT, sliceT, tIterT, tRaise, tTryAs, tIsS, tIsC, tIsCT, tInBase, tGetBase, Loc.setAll, Loc.set, Loc.bare, bindV, String.reduceBEq, cond_true, cond_false, List.length_cons, List.length_nil]
  have hr : ∀ {x : Str} {ℓ' : Loc} {σ' : AH} {Kx : Fl → Loc → AH → Prop}, okW w = false → Sub σ σ' → tSeq (tRaise CB (tCons (tConst (V.str x)) tNil)) tNop ℓ' σ' Kx KE := fun hn hs => by
    refine tSeq_n fun _ _ => ?_
    dsimp only [tNop, tRet, tIfS, tCall, tLen, lenV, tLenT, tListComp, tComp, tNil, tCons, tConst, tName, tTruth, truthV, tNotB, tAndB, tOrB, tConstB, tCmpB, tCmp2B, cmpV, tCmpS, tCmpSB, cmpS, tItem, tItemS, itemS, tSliceT, sliceT, tIterT, tRaise, tTryAs, tIsS, tIsC, tIsCT, tInBase, tGetBase, Loc.setAll, Loc.set, Loc.bare, bindV, String.reduceBEq, cond_true, cond_false, List.length_cons, List.length_nil]
    exact ⟨by simp, kexc _ _ _ _ hs (h2 (num_no hn))⟩
  by_cases l1 : (1 : Int) ≤ (w.length : Int)
  · simp only [decide_eq_true l1]
    by_cases l2 : (w.length : Int) ≤ 30
    · simp only [decide_eq_true l2, Bool.not_true]
      refine ⟨ha, fun h => (nomatch h), ?_⟩
      refine compT_each (fun ch => V.str ⟨#[ch]⟩) (fun ch => V.bool (figB ch)) trivial (sg w) (fun ch _ => ⟨_, fun P h => h, fun Qv h => ?_⟩) fun a han => ?_
      · dsimp only [tNop, tRet, tIfS, tCall, tLen, lenV, tLenT, tListComp, tComp, tNil, tCons, tConst, tName, tTruth, truthV, tNotB, tAndB, tOrB, tConstB, tCmpB, tCmp2B, cmpV, tCmpS, tCmpSB, cmpS, tItem, tItemS, itemS, tSliceT, sliceT, tIterT, tRaise, tTryAs, tIsS, tIsC, tIsCT, tInBase, tGetBase, Loc.setAll, Loc.set, Loc.bare, bindV, String.reduceBEq, cond_true, cond_false, List.length_cons, List.length_nil]
        rw [figs_contains]; exact h
      · refine ⟨a, (sg w).map figB, rfl, ?_, ?_⟩
        · rw [AH.set_same, List.map_map]; rfl
        · cases hall : ((sg w).map figB).all id with
          | false =>
            refine hr ?_ (Sub.refl.new han)
            have : (sg w).all figB = false := by rw [← hall, List.all_map]; rfl
            unfold okW; rw [this]; simp
          | true =>
            have hal : (sg w).all figB = true := by rw [← hall, List.all_map]; rfl
            refine k1 _ _ ?_
            refine tSeq_n fun K2 k2 => ?_
            dsimp only [tNop, tRet, tIfS, tCall, tLen, lenV, tLenT, tListComp, tComp, tNil, tCons, tConst, tName, tTruth, truthV, tNotB, tAndB, tOrB, tConstB, tCmpB, tCmp2B, cmpV, tCmpS, tCmpSB, cmpS, tItem, tItemS, itemS, tSliceT, sliceT, tIterT, tRaise, tTryAs, tIsS, tIsC, tIsCT, tInBase, tGetBase, Loc.setAll, Loc.set, Loc.bare, bindV, String.reduceBEq, cond_true, cond_false, List.length_cons, List.length_nil]
            obtain ⟨ch, rest, ew⟩ := word_cons (w := w) (by omega)
            have hok := okW_of (by omega) (by omega) hal ew
            have hch : ch < 128 := asc_iff.mp ha ch (by rw [ew]; exact .head _)
            have hint := int_of_word (w := w) (by omega) (by omega) (List.all_eq_true.mp hal)
            have fin : okW w = true → tSeq (tRet (tCall (tCons (tName "word") tNil) tIntT)) tNop (Loc.empty.set "word" (V.str w)) (σ.set a (AO.list (List.map (fun ch => V.bool (figB ch)) (sg w)))) K KE := fun q => by
              refine tSeq_e fun K3 r3 => ?_
              dsimp only [tNop, tRet, tIfS, tCall, tLen, lenV, tLenT, tListComp, tComp, tNil, tCons, tConst, tName, tTruth, truthV, tNotB, tAndB, tOrB, tConstB, tCmpB, tCmp2B, cmpV, tCmpS, tCmpSB, cmpS, tItem, tItemS, itemS, tSliceT, sliceT, tIterT, tRaise, tTryAs, tIsS, tIsC, tIsCT, tInBase, tGetBase, Loc.setAll, Loc.set, Loc.bare, bindV, String.reduceBEq, cond_true, cond_false, List.length_cons, List.length_nil]
              exact ⟨w, valW w, rfl, hint, by omega, r3 _ _ _ (kret _ _ _ _ (Sub.refl.new han) (h1 _ (num_ok q)))⟩
            refine ⟨ch, first_sign ew, ?_⟩
            rw [zeroS_eq]
            refine eqD_str (chr_ok hch) (by decide +kernel) ?_
            rw [chr_zero]
            by_cases hz : ch = 48
            · simp only [decide_eq_true hz]
              refine eqD_str (asc_strOk ha) (by decide +kernel) ?_
              cases hw : (w == zeroS) with
              | true => simp only [Bool.not_true]; exact k2 _ _ (fin (by rw [hok, hw]; simp))
              | false => simp only [Bool.not_false]; exact hr (by rw [hok, hw, decide_eq_true hz]; rfl) (Sub.refl.new han)
            · simp only [decide_eq_false hz]
              exact k2 _ _ (fin (by rw [hok, decide_eq_false hz]; rfl))
    · simp only [decide_eq_false l2, Bool.not_false]
      refine hr ?_ Sub.refl
      unfold okW; rw [decide_eq_false (p := w.length ≤ 30) (by omega)]; simp
  · simp only [decide_eq_false l1, Bool.not_false]
    refine hr ?_ Sub.refl
    unfold okW; rw [decide_eq_false (p := 1 ≤ w.length) (by omega)]; simp
end
section
open PySem PySem.W PyProof.Rows
variable {g : Gr} {P : Params}
theorem f_numberL (hK : (KK P).In g.b0) (N : NT g) : SndC g 2 (.ref 179) sNumberL := by
  refine SndC.mono (sndC_def (r := 1) (ps := ["_law_word"]) (hK 179 _ rfl) rfl (CodeRec.mk' (hK 178 _ rfl) rfl rfl) rfl (by intro vs h; obtain ⟨a0, rfl⟩ := len1 h; rfl) rfl rfl rfl (by decide +kernel)
    (sndSs_cons (sndS_if (sndB_boolop (sndBs_or (sndB_cmp (sndE_name (.head _) rfl) (sndE_str (fitsS (by decide))) rfl) (sndBs_or (sndB_cmp (sndE_call (at_ (i := 1) rfl) (fn_builtin N.n_len sndF_lenT) (sndL_cons (sndE_name (.head _) rfl) sndL_nil) rfl) sndE_int rfl) (sndBs_or (sndB_cmp (sndE_comp (by decide +kernel) (sndI_text (sndE_name (.head _) rfl)) (.name (at_ (i := 1) rfl) rfl) (by decide +kernel) (sndT_one (sndB_cmpS (sndE_name (at_ (i := 1) rfl) rfl) (sndE_str (fitsS (by decide))) rfl)) (sndE_name (at_ (i := 1) rfl) rfl) (fun _ _ => rfl)) (sndE_list sndL_nil) rfl) sndBs_or_nil)))) (sndSs_cons (sndS_return sndE_none)
  sndSs_nil) sndSs_nil)
  (sndSs_cons (sndS_return (sndE_if (sndB_boolop (sndBs_or (sndB_cmp (sndE_itemS (sndE_name (.head _) rfl) sndE_int (fun _ _ => rfl)) (sndE_str (fitsS (by decide))) rfl) (sndBs_or (sndB_cmp (sndE_name (.head _) rfl) (sndE_str (fitsS (by decide))) rfl) sndBs_or_nil))) (sndE_call (at_ (i := 2) rfl) (fn_type N.n_int sndF_intT) (sndL_cons (sndE_name (.head _) rfl) sndL_nil) rfl) sndE_none))
  sndSs_nil))) ?_
  rintro xs σ Q E ⟨w, rfl, ha, hl, h1, h2⟩
  refine tFun_k rfl fun K KE kret _ kexc => ?_
  simp only [Loc.setAll]
  refine tSeq_r fun K1 k1 r1 => ?_
  dsimp only [tNop, tRet, tIfS, tCall, tLen, lenV, tLenT, tListComp, tComp, tList, tNil, tCons, tConst, tName, tOrB, tConstB, tCmpB, cmpV, tCmpS, tCmpSB, cmpS, tIf, tItem, tItemS, itemS, tSliceT, sliceT, tIterT, tRaise, tTryAs, tIsS, tIsC, tIsCT, tInBase, tGetBase, Loc.setAll, Loc.set, Loc.bare, bindV, String.reduceBEq, cond_true, cond_false, List.length_cons, List.length_nil]
  have hno : ∀ {ℓ' : Loc} {σ' : AH}, okW w = false → Sub σ σ' → tSeq (tRet (tConst V.none)) tNop ℓ' σ' K1 KE := fun hn hs => by
    refine tSeq_e fun K2 r2 => ?_
    dsimp only [tNop, tRet, tIfS, tCall, tLen, lenV, tLenT, tListComp, tComp, tList, tNil, tCons, tConst, tName, tOrB, tConstB, tCmpB, cmpV, tCmpS, tCmpSB, cmpS, tIf, tItem, tItemS, itemS, tSliceT, sliceT, tIterT, tRaise, tTryAs, tIsS, tIsC, tIsCT, tInBase, tGetBase, Loc.setAll, Loc.set, Loc.bare, bindV, String.reduceBEq, cond_true, cond_false, List.length_cons, List.length_nil]
    exact r2 _ _ _ (r1 _ _ _ (kret _ _ _ _ hs (h2 (num_no hn))))
  refine eqD_str (asc_strOk ha) (by decide +kernel) ?_
  rw [empty_eq]
  by_cases l1 : w.length = 0
  · simp only [decide_eq_true l1]
    refine hno ?_ Sub.refl
    unfold okW; rw [decide_eq_false (p := 1 ≤ w.length) (by omega)]; simp
  · simp only [decide_eq_false l1]
    by_cases l2 : (30 : Int) < (w.length : Int)
    · simp only [decide_eq_true l2]
      refine hno ?_ Sub.refl
      unfold okW; rw [decide_eq_false (p := w.length ≤ 30) (by omega)]; simp
    · simp only [decide_eq_false l2]
      refine ⟨ha, fun h => (nomatch h), ?_⟩
      refine compT_some (fun ch => V.str ⟨#[ch]⟩) (fun ch => !figB ch) (fun ch => V.str ⟨#[ch]⟩) trivial (sg w) (fun ch _ => ⟨_, fun P h => h, fun Qb h => ?_, fun _ Qv h => ?_⟩) fun a han => ⟨by simp [Fits], fun b hb => ?_⟩
      · dsimp only [tNop, tRet, tIfS, tCall, tLen, lenV, tLenT, tListComp, tComp, tList, tNil, tCons, tConst, tName, tOrB, tConstB, tCmpB, cmpV, tCmpS, tCmpSB, cmpS, tIf, tItem, tItemS, itemS, tSliceT, sliceT, tIterT, tRaise, tTryAs, tIsS, tIsC, tIsCT, tInBase, tGetBase, Loc.setAll, Loc.set, Loc.bare, bindV, String.reduceBEq, cond_true, cond_false, List.length_cons, List.length_nil]
        rw [figs_contains]; exact h
      · dsimp only [tNop, tRet, tIfS, tCall, tLen, lenV, tLenT, tListComp, tComp, tList, tNil, tCons, tConst, tName, tOrB, tConstB, tCmpB, cmpV, tCmpS, tCmpSB, cmpS, tIf, tItem, tItemS, itemS, tSliceT, sliceT, tIterT, tRaise, tTryAs, tIsS, tIsC, tIsCT, tInBase, tGetBase, Loc.setAll, Loc.set, Loc.bare, bindV, String.reduceBEq, cond_true, cond_false, List.length_cons, List.length_nil]
        exact h
      · refine eqD_strs_nil (xs := ((sg w).filter fun ch => !figB ch).map fun ch => ⟨#[ch]⟩) ?_ AH.set_same (fun x hx => ?_) ?_
        · rw [new_keeps AH.set_same hb, List.map_map]; rfl
        · obtain ⟨ch, hc, rfl⟩ := List.mem_map.mp hx
          exact chr_ok (asc_iff.mp ha ch (List.mem_filter.mp hc).1)
        · rw [List.isEmpty_map, filt_empty]
          have hs : Sub σ ((σ.set a (AO.list (List.map (fun ch => V.str ⟨#[ch]⟩) (List.filter (fun ch => !figB ch) (sg w))))).set b (AO.list [])) := (Sub.refl.new han).new hb
          cases hal : (sg w).all figB with
          | false =>
            simp only [Bool.not_false]
            refine hno ?_ hs
            unfold okW; rw [hal]; simp
          | true =>
            simp only [Bool.not_true]
            refine k1 _ _ ?_
            obtain ⟨ch, rest, ew⟩ := word_cons (w := w) (by omega)
            have hok := okW_of (by omega) (by omega) hal ew
            have hch : ch < 128 := asc_iff.mp ha ch (by rw [ew]; exact .head _)
            have hint := int_of_word (w := w) (by omega) (by omega) (List.all_eq_true.mp hal)
            refine tSeq_e fun K3 r3 => ?_
            dsimp only [tNop, tRet, tIfS, tCall, tLen, lenV, tLenT, tListComp, tComp, tList, tNil, tCons, tConst, tName, tOrB, tConstB, tCmpB, cmpV, tCmpS, tCmpSB, cmpS, tIf, tItem, tItemS, itemS, tSliceT, sliceT, tIterT, tRaise, tTryAs, tIsS, tIsC, tIsCT, tInBase, tGetBase, Loc.setAll, Loc.set, Loc.bare, bindV, String.reduceBEq, cond_true, cond_false, List.length_cons, List.length_nil]
            refine ⟨ch, first_sign ew, ?_⟩
            rw [zeroS_eq]
            refine eqD_str (chr_ok hch) (by decide +kernel) ?_
            rw [chr_zero]
            by_cases hz : ch = 48
            · simp only [decide_eq_true hz, Bool.not_true]
              refine eqD_str (asc_strOk ha) (by decide +kernel) ?_
              cases hw : (w == zeroS) with
              | true =>
                exact ⟨w, valW w, rfl, hint, by omega, r3 _ _ _ (kret _ _ _ _ hs (h1 _ (num_ok (by rw [hok, hw]; simp))))⟩
              | false =>
                exact r3 _ _ _ (kret _ _ _ _ hs (h2 (num_no (by rw [hok, hw, decide_eq_true hz]; rfl))))
            · simp only [decide_eq_false hz, Bool.not_false]
              exact ⟨w, valW w, rfl, hint, by omega, r3 _ _ _ (kret _ _ _ _ hs (h1 _ (num_ok (by rw [hok, decide_eq_false hz]; rfl))))⟩
end
section
open PySem PySem.W PyProof.Rows
variable {g : Gr} {P : Params}
theorem f_deed_of (hK : (KK P).In g.b0) (N : NT g) (hX : ExcC g CB) (hZ : SizesAt g 124) (F_number_of : FnG g "number_of" 2 (sNumberOf CB)) : SndC g 3 (.ref 139) (sDeedOf CB) := by
  refine SndC.mono (sndC_def (r := 2) (ps := ["line"]) (hK 139 _ rfl) rfl (CodeRec.mk' (hK 138 _ rfl) rfl rfl) rfl (by intro vs h; obtain ⟨a0, rfl⟩ := len1 h; rfl) rfl rfl rfl (by decide +kernel)
    (sndSs_cons (sndS_if (sndB_not (sndB_value (sndE_isS (at_ (i := 2) rfl) (N.n_isinstance) (at_ (i := 3) rfl) (N.n_str) (sndE_name (.head _) rfl) rfl) (fun _ _ => rfl))) (sndSs_cons (sndS_raise (at_ (i := 4) rfl) (N.n_BadLine) hX (sndL_cons (sndE_str (fitsS (by decide))) sndL_nil) rfl)
  sndSs_nil) sndSs_nil)
  (sndSs_cons (sndS_assign (at_ (i := 1) rfl) rfl (mSplit (sndE_name (.head _) rfl) (sndL_cons (sndE_str (fitsS (by decide))) sndL_nil) rfl rfl rfl rfl) (fun _ => rfl))
  (sndSs_cons (sndS_if (sndB_boolop (sndBs_or (sndB_inBase (at_ (i := 5) rfl) (N.n_SIZES) hZ (sndE_item (sndE_name (at_ (i := 1) rfl) rfl) sndE_int (fun _ _ => rfl))) (sndBs_or (sndB_cmp (sndE_call (at_ (i := 6) rfl) (fn_builtin N.n_len sndF_lenT) (sndL_cons (sndE_name (at_ (i := 1) rfl) rfl) sndL_nil) rfl) (sndE_getBase (at_ (i := 5) rfl) (N.n_SIZES) hZ (sndE_item (sndE_name (at_ (i := 1) rfl) rfl) sndE_int (fun _ _ => rfl)) (fun _ _ => rfl)) rfl) sndBs_or_nil))) (sndSs_cons (sndS_raise (at_ (i := 4) rfl) (N.n_BadLine) hX (sndL_cons (sndE_str (fitsS (by decide))) sndL_nil) rfl)
  sndSs_nil) sndSs_nil)
  (sndSs_cons (sndS_return (sndE_call (at_ (i := 7) rfl) (fn_type N.n_tuple sndF_tupleOf) (sndL_cons (sndE_bin (sndE_list (sndL_cons (sndE_item (sndE_name (at_ (i := 1) rfl) rfl) sndE_int (fun _ _ => rfl)) sndL_nil)) (sndE_comp (by decide +kernel) (sndI_value (sndE_slice (sndE_name (at_ (i := 1) rfl) rfl) (sndO_some sndE_int) sndO_none)) (.name (at_ (i := 1) rfl) rfl) (by decide +kernel) sndT_nil (sndE_call (at_ (i := 2) rfl) F_number_of (sndL_cons (sndE_name (at_ (i := 1) rfl) rfl) sndL_nil) rfl) (fun _ _ => rfl))) sndL_nil) rfl))
  sndSs_nil))))) ?_
  rintro xs σ Q E hh
  have hlen : ∃ v, xs = [v] := by cases hh with | text t e => exact ⟨_, e⟩ | none v e => exact ⟨_, e⟩
  obtain ⟨v, rfl⟩ := hlen
  refine tFun_k rfl fun K KE kret _ kexc => ?_
  simp only [Loc.setAll]
  refine tSeq_n fun K1 k1 => ?_
  dsimp only [tNop, tRet, tIfS, tAssign, tIter, walkV, tMethod, tyIs, tCall, tLen, lenV, tLenT, tListComp, tComp, tList, tNil, tCons, tConst, tName, tTruth, truthV, tNotB, tOrB, tConstB, tCmpB, cmpV, tCmpS, tCmpSB, cmpS, tBin, binV, tItem, tItemS, itemS, tSlice, sliceV, tSliceT, sliceT, boundV, tIterT, tRaise, tTryAs, tIsS, tIsC, tIsCT, tInBase, tGetBase, Loc.setAll, Loc.set, Loc.bare, bindV, String.reduceBEq, cond_true, cond_false, List.length_cons, List.length_nil]
  have hr : ∀ {x : Str} {ℓ' : Loc} {σ' : AH} {Kx : Fl → Loc → AH → Prop}, E CB σ → Sub σ σ' → tSeq (tRaise CB (tCons (tConst (V.str x)) tNil)) tNop ℓ' σ' Kx KE := fun hn hs => by
    refine tSeq_n fun _ _ => ?_
    dsimp only [tNop, tRet, tIfS, tAssign, tIter, walkV, tMethod, tyIs, tCall, tLen, lenV, tLenT, tListComp, tComp, tList, tNil, tCons, tConst, tName, tTruth, truthV, tNotB, tOrB, tConstB, tCmpB, cmpV, tCmpS, tCmpSB, cmpS, tBin, binV, tItem, tItemS, itemS, tSlice, sliceV, tSliceT, sliceT, boundV, tIterT, tRaise, tTryAs, tIsS, tIsC, tIsCT, tInBase, tGetBase, Loc.setAll, Loc.set, Loc.bare, bindV, String.reduceBEq, cond_true, cond_false, List.length_cons, List.length_nil]
    exact ⟨by simp, kexc _ _ _ _ hs hn⟩
  cases hh with
  | none v' e hn h2 =>
    cases e
    rw [show isiS v σ = some false from hn]
    exact hr h2 Sub.refl
  | text t e ha hl h1 h2 =>
    cases e
    simp only [isiS, Bool.not_true]
    refine k1 _ _ ?_
    refine tSeq_n fun K2 k2 => ?_
    dsimp only [tNop, tRet, tIfS, tAssign, tIter, walkV, tMethod, tyIs, tCall, tLen, lenV, tLenT, tListComp, tComp, tList, tNil, tCons, tConst, tName, tTruth, truthV, tNotB, tOrB, tConstB, tCmpB, cmpV, tCmpS, tCmpSB, cmpS, tBin, binV, tItem, tItemS, itemS, tSlice, sliceV, tSliceT, sliceT, boundV, tIterT, tRaise, tTryAs, tIsS, tIsC, tIsCT, tInBase, tGetBase, Loc.setAll, Loc.set, Loc.bare, bindV, String.reduceBEq, cond_true, cond_false, List.length_cons, List.length_nil]
    refine ⟨trivial, t, _, rfl, sp_eq, hl, fun a han => k2 _ _ ?_⟩
    obtain ⟨w0, ws, ew⟩ := words_cons t
    have es : Txt.split t (Str.ofString " ") = w0 :: ws := by rw [sp_eq]; exact ew
    simp only [es]
    refine tSeq_n fun K3 k3 => ?_
    dsimp only [tNop, tRet, tIfS, tAssign, tIter, walkV, tMethod, tyIs, tCall, tLen, lenV, tLenT, tListComp, tComp, tList, tNil, tCons, tConst, tName, tTruth, truthV, tNotB, tOrB, tConstB, tCmpB, cmpV, tCmpS, tCmpSB, cmpS, tBin, binV, tItem, tItemS, itemS, tSlice, sliceV, tSliceT, sliceT, boundV, tIterT, tRaise, tTryAs, tIsS, tIsC, tIsCT, tInBase, tGetBase, Loc.setAll, Loc.set, Loc.bare, bindV, String.reduceBEq, cond_true, cond_false, List.length_cons, List.length_nil]
    have hat : atV ((w0 :: ws).map V.str) 0 = some (.str w0) := atV_nat (i := 0) rfl
    have hs := (Sub.refl (σ := σ)).new (o := AO.list ((w0 :: ws).map V.str)) han
    refine itemL AH.set_same hat ⟨w0, rfl, ?_⟩
    have hdue : due? t = if sizeOf? w0 = some (ws.length + 1) then (allNum ws).map fun ns => (w0, ns) else none := by unfold due?; rw [ew]
    cases hz : sizeOf? w0 with
    | none =>
      simp only [Option.isSome_none, Bool.not_false]
      exact hr (h2 (by rw [hdue, hz, if_neg (by simp)])) hs
    | some k =>
      simp only [Option.isSome_some, Bool.not_true, AH.set_same]
      refine itemL AH.set_same hat ⟨w0, k, rfl, hz, ?_⟩
      refine eqD_int ?_
      have hn : ((((w0 :: ws).map V.str).length : Nat) : Int) = ((ws.length + 1 : Nat) : Int) := by simp
      rw [hn]
      by_cases hk : ws.length + 1 = k
      · have hb : ((((ws.length + 1 : Nat) : Int)) == ((k : Nat) : Int)) = true := by rw [hk]; simp
        rw [hb]
        simp only [Bool.not_true]
        refine k3 _ _ ?_
        refine tSeq_e fun K4 r4 => ?_
        dsimp only [tNop, tRet, tIfS, tAssign, tIter, walkV, tMethod, tyIs, tCall, tLen, lenV, tLenT, tListComp, tComp, tList, tNil, tCons, tConst, tName, tTruth, truthV, tNotB, tOrB, tConstB, tCmpB, cmpV, tCmpS, tCmpSB, cmpS, tBin, binV, tItem, tItemS, itemS, tSlice, sliceV, tSliceT, sliceT, boundV, tIterT, tRaise, tTryAs, tIsS, tIsC, tIsCT, tInBase, tGetBase, Loc.setAll, Loc.set, Loc.bare, bindV, String.reduceBEq, cond_true, cond_false, List.length_cons, List.length_nil]
        have hasc : ∀ w ∈ ws, AscB w ∧ w.length ≤ 1000 := fun w hw => have hm : w ∈ wordsOf t := by rw [ew]; exact .tail _ hw
          ⟨words_asc ha hm, Nat.le_trans (words_len hm) hl⟩
        have hcnt : ws.length ≤ 1001 := by have := words_count t; rw [ew] at this; simp at this; omega
        have hdue' : due? t = (allNum ws).map fun ns => (w0, ns) := by rw [hdue, hz, if_pos (by rw [hk])]
        refine itemL AH.set_same hat ⟨by simp [Fits], fun a1 ha1 => ⟨by simp [Nonneg], trivial, ?_⟩⟩
        simp only [new_keeps AH.set_same ha1]
        intro a3 ha3
        simp only [AH.set_same]
        rw [show cutV (some 1) none ((w0 :: ws).map V.str) = ws.map V.str from rfl]
        have hs3 := (hs.new (o := AO.list [V.str w0]) ha1).new (o := AO.list (ws.map V.str)) ha3
        refine ⟨fun h => (nomatch h), ?_⟩
        refine compT_exc CB V.str (fun w => (num? w).map V.int) AH.set_same ws [] (fun w hw => ⟨_, fun P h => h, fun Qv hv he => ?_⟩) (fun vs hvs a5 ha5 => ?_) (fun hnone => ?_)
        · dsimp only [tNop, tRet, tIfS, tAssign, tIter, walkV, tMethod, tyIs, tCall, tLen, lenV, tLenT, tListComp, tComp, tList, tNil, tCons, tConst, tName, tTruth, truthV, tNotB, tOrB, tConstB, tCmpB, cmpV, tCmpS, tCmpSB, cmpS, tBin, binV, tItem, tItemS, itemS, tSlice, sliceV, tSliceT, sliceT, boundV, tIterT, tRaise, tTryAs, tIsS, tIsC, tIsCT, tInBase, tGetBase, Loc.setAll, Loc.set, Loc.bare, bindV, String.reduceBEq, cond_true, cond_false, List.length_cons, List.length_nil]
          exact ⟨w, rfl, (hasc w hw).1, (hasc w hw).2, fun n hn => hv _ (by rw [hn]; rfl), fun hn => he (by rw [hn]; rfl)⟩
        · rw [optAll_num] at hvs
          obtain ⟨ns, hns, rfl⟩ := Option.map_eq_some_iff.mp hvs
          have hnl : ns.length = ws.length := allNum_length hns
          refine ⟨[V.str w0], ns.map V.int, ?_, rfl, by simp only [Fits, List.length_cons, List.length_nil, List.length_map]; omega, fun a7 ha7 => ⟨a7, _, rfl, AH.set_same, r4 _ _ _ (kret _ _ _ _ ((hs3.new ha5).new ha7) (h1 w0 ns ?_))⟩⟩
          · rw [new_keeps _ ha5]
            exact new_keeps AH.set_same ha3
          · rw [hdue', hns]; rfl
        · rw [optAll_num, Option.map_eq_none_iff] at hnone
          exact kexc _ _ _ _ hs3 (h2 (by rw [hdue', hnone]; rfl))
      · have hb : ((((ws.length + 1 : Nat) : Int)) == ((k : Nat) : Int)) = false := by rw [beq_eq_false_iff_ne]; omega
        rw [hb]
        simp only [Bool.not_false]
        exact hr (h2 (by rw [hdue, hz, if_neg (by simp; omega)])) hs
end
section
open PySem PySem.W PyProof.Rows
variable {g : Gr} {P : Params}
theorem f_dueL (hK : (KK P).In g.b0) (N : NT g) (F_law_number : FnG g "_law_number" 2 sNumberL) : SndC g 3 (.ref 184) sDueL := by
  refine SndC.mono (sndC_def (r := 2) (ps := ["_law_text"]) (hK 184 _ rfl) rfl (CodeRec.mk' (hK 183 _ rfl) rfl rfl) rfl (by intro vs h; obtain ⟨a0, rfl⟩ := len1 h; rfl) rfl rfl rfl (by decide +kernel)
    (sndSs_cons (sndS_assign (at_ (i := 1) rfl) rfl (mSplit (sndE_name (.head _) rfl) (sndL_cons (sndE_str (fitsS (by decide))) sndL_nil) rfl rfl rfl rfl) (fun _ => rfl))
  (sndSs_cons (sndS_if (sndB_boolop (sndBs_or (sndB_cmp (sndE_item (sndE_name (at_ (i := 1) rfl) rfl) sndE_int (fun _ _ => rfl)) (sndE_tuple (sndL_cons (sndE_str (fitsS (by decide))) (sndL_cons (sndE_str (fitsS (by decide))) sndL_nil))) rfl) (sndBs_or (sndB_cmp (sndE_call (at_ (i := 3) rfl) (fn_builtin N.n_len sndF_lenT) (sndL_cons (sndE_name (at_ (i := 1) rfl) rfl) sndL_nil) rfl) (sndE_item (sndE_dict2 unmoved_const unmoved_const unmoved_const unmoved_const (sndE_str (fitsS (by decide))) sndE_int (sndE_str (fitsS (by decide))) sndE_int) (sndE_item (sndE_name (at_ (i := 1) rfl) rfl) sndE_int (fun _ _ => rfl)) (fun _ _ => rfl)) rfl) sndBs_or_nil))) (sndSs_cons (sndS_return sndE_none)
  sndSs_nil) sndSs_nil)
  (sndSs_cons (sndS_assignComp (at_ (i := 2) rfl) rfl (by decide +kernel) (sndI_value (sndE_slice (sndE_name (at_ (i := 1) rfl) rfl) (sndO_some sndE_int) sndO_none)) (.name (at_ (i := 1) rfl) rfl) (by decide +kernel) sndT_nil (sndE_call (at_ (i := 2) rfl) F_law_number (sndL_cons (sndE_name (at_ (i := 1) rfl) rfl) sndL_nil) rfl) (fun _ _ => rfl))
  (sndSs_cons (sndS_return (sndE_if (sndB_cmp sndE_none (sndE_name (at_ (i := 2) rfl) rfl) rfl) sndE_none (sndE_call (at_ (i := 4) rfl) (fn_type N.n_tuple sndF_tupleOf) (sndL_cons (sndE_bin (sndE_slice (sndE_name (at_ (i := 1) rfl) rfl) sndO_none (sndO_some sndE_int)) (sndE_name (at_ (i := 2) rfl) rfl)) sndL_nil) rfl)))
  sndSs_nil))))) ?_
  rintro xs σ Q E ⟨t, rfl, ha, hl, h1, h2⟩
  refine tFun_k rfl fun K KE kret _ kexc => ?_
  simp only [Loc.setAll]
  refine tSeq_n fun K2 k2 => ?_
  dsimp only [tNop, tRet, tIfS, tAssign, tAssignComp, tIter, walkV, tMethod, tyIs, tCall, tLen, lenV, tLenT, tComp, tTuple, tNil, tCons, tConst, tName, tOrB, tConstB, tCmpB, cmpV, tCmpS, tCmpSB, cmpS, tBin, binV, tIf, tItem, tItemS, itemS, tSlice, sliceV, tSliceT, sliceT, boundV, tIterT, tRaise, tTryAs, tIsS, tIsC, tIsCT, tInBase, tGetBase, Loc.setAll, Loc.set, Loc.bare, bindV, String.reduceBEq, cond_true, cond_false, List.length_cons, List.length_nil, tDict2]
  refine ⟨trivial, t, _, rfl, sp_eq, hl, fun a han => k2 _ _ ?_⟩
  obtain ⟨w0, ws, ew⟩ := words_cons t
  have es : Txt.split t (Str.ofString " ") = w0 :: ws := by rw [sp_eq]; exact ew
  simp only [es]
  refine tSeq_r fun K3 k3 r3 => ?_
  dsimp only [tNop, tRet, tIfS, tAssign, tAssignComp, tIter, walkV, tMethod, tyIs, tCall, tLen, lenV, tLenT, tComp, tTuple, tNil, tCons, tConst, tName, tOrB, tConstB, tCmpB, cmpV, tCmpS, tCmpSB, cmpS, tBin, binV, tIf, tItem, tItemS, itemS, tSlice, sliceV, tSliceT, sliceT, boundV, tIterT, tRaise, tTryAs, tIsS, tIsC, tIsCT, tInBase, tGetBase, Loc.setAll, Loc.set, Loc.bare, bindV, String.reduceBEq, cond_true, cond_false, List.length_cons, List.length_nil, tDict2]
  have hat : atV ((w0 :: ws).map V.str) 0 = some (.str w0) := atV_nat (i := 0) rfl
  have hs := (Sub.refl (σ := σ)).new (o := AO.list ((w0 :: ws).map V.str)) han
  have hasc : ∀ w ∈ w0 :: ws, AscB w ∧ w.length ≤ 1000 := fun w hw => have hm : w ∈ wordsOf t := by rw [ew]; exact hw
    ⟨words_asc ha hm, Nat.le_trans (words_len hm) hl⟩
  have hcnt : ws.length ≤ 1001 := by have := words_count t; rw [ew] at this; simp at this; omega
  have hdue : due? t = if sizeOf? w0 = some (ws.length + 1) then (allNum ws).map fun ns => (w0, ns) else none := by unfold due?; rw [ew]
  have hno : ∀ {ℓ' : Loc} {σ' : AH}, due? t = none → Sub σ σ' → tSeq (tRet (tConst V.none)) tNop ℓ' σ' K3 KE := fun hn hs => by
    refine tSeq_e fun K2 r2 => ?_
    dsimp only [tNop, tRet, tIfS, tAssign, tAssignComp, tIter, walkV, tMethod, tyIs, tCall, tLen, lenV, tLenT, tComp, tTuple, tNil, tCons, tConst, tName, tOrB, tConstB, tCmpB, cmpV, tCmpS, tCmpSB, cmpS, tBin, binV, tIf, tItem, tItemS, itemS, tSlice, sliceV, tSliceT, sliceT, boundV, tIterT, tRaise, tTryAs, tIsS, tIsC, tIsCT, tInBase, tGetBase, Loc.setAll, Loc.set, Loc.bare, bindV, String.reduceBEq, cond_true, cond_false, List.length_cons, List.length_nil, tDict2]
    exact r2 _ _ _ (r3 _ _ _ (kret _ _ _ _ hs (h2 hn)))
  refine itemL AH.set_same hat ?_
  refine ⟨by simp [Fits], inD_strs (xs := [Str.ofString "come", Str.ofString "go"]) (by decide +kernel) (asc_strOk (hasc w0 (.head _)).1) ?_⟩
  rw [size_any]
  cases hz : sizeOf? w0 with
  | none =>
    simp only [Option.isSome_none, Bool.not_false]
    exact hno (by rw [hdue, hz, if_neg (by simp)]) hs
  | some k =>
    simp only [Option.isSome_some, Bool.not_true, AH.set_same]
    refine ⟨_, _, rfl, rfl, by decide +kernel, fun d ep hd => ?_⟩
    refine itemL (new_keeps AH.set_same hd) hat (itemDS AH.set_same (size_lookup hz) (eqD_int ?_))
    have hs2 := hs.new (o := AO.dictS [(Str.ofString "come", V.int 3), (Str.ofString "go", V.int 2)] ep) hd
    have hn : ((((w0 :: ws).map V.str).length : Nat) : Int) = ((ws.length + 1 : Nat) : Int) := by simp
    rw [hn]
    by_cases hk : ws.length + 1 = k
    · have hb : ((((ws.length + 1 : Nat) : Int)) == ((k : Nat) : Int)) = true := by rw [hk]; simp
      rw [hb]
      simp only [Bool.not_true]
      refine k3 _ _ ?_
      have hdue' : due? t = (allNum ws).map fun ns => (w0, ns) := by rw [hdue, hz, if_pos (by rw [hk])]
      refine tSeq_n fun K4 k4 => ?_
      dsimp only [tNop, tRet, tIfS, tAssign, tAssignComp, tIter, walkV, tMethod, tyIs, tCall, tLen, lenV, tLenT, tComp, tTuple, tNil, tCons, tConst, tName, tOrB, tConstB, tCmpB, cmpV, tCmpS, tCmpSB, cmpS, tBin, binV, tIf, tItem, tItemS, itemS, tSlice, sliceV, tSliceT, sliceT, boundV, tIterT, tRaise, tTryAs, tIsS, tIsC, tIsCT, tInBase, tGetBase, Loc.setAll, Loc.set, Loc.bare, bindV, String.reduceBEq, cond_true, cond_false, List.length_cons, List.length_nil, tDict2]
      refine ⟨by simp [Nonneg], trivial, ?_⟩
      simp only [new_keeps AH.set_same hd]
      intro a3 ha3
      simp only [AH.set_same]
      rw [show cutV (some 1) none ((w0 :: ws).map V.str) = ws.map V.str from rfl]
      have hs3 := hs2.new (o := AO.list (ws.map V.str)) ha3
      refine ⟨fun h => (nomatch h), ?_⟩
      refine compT_each V.str numW AH.set_same ws (fun w hw => ⟨_, fun P h => h, fun Qv h => ?_⟩) fun a5 ha5 => k4 _ _ ?_
      · dsimp only [tNop, tRet, tIfS, tAssign, tAssignComp, tIter, walkV, tMethod, tyIs, tCall, tLen, lenV, tLenT, tComp, tTuple, tNil, tCons, tConst, tName, tOrB, tConstB, tCmpB, cmpV, tCmpS, tCmpSB, cmpS, tBin, binV, tIf, tItem, tItemS, itemS, tSlice, sliceV, tSliceT, sliceT, boundV, tIterT, tRaise, tTryAs, tIsS, tIsC, tIsCT, tInBase, tGetBase, Loc.setAll, Loc.set, Loc.bare, bindV, String.reduceBEq, cond_true, cond_false, List.length_cons, List.length_nil, tDict2]
        exact ⟨w, rfl, (hasc w (.tail _ hw)).1, (hasc w (.tail _ hw)).2, fun n hn => by rw [numW, hn] at h; exact h, fun hn => by rw [numW, hn] at h; exact h⟩
      have hs4 := hs3.new (o := AO.list (ws.map numW)) ha5
      refine tSeq_e fun K5 r5 => ?_
      dsimp only [tNop, tRet, tIfS, tAssign, tAssignComp, tIter, walkV, tMethod, tyIs, tCall, tLen, lenV, tLenT, tComp, tTuple, tNil, tCons, tConst, tName, tOrB, tConstB, tCmpB, cmpV, tCmpS, tCmpSB, cmpS, tBin, binV, tIf, tItem, tItemS, itemS, tSlice, sliceV, tSliceT, sliceT, boundV, tIterT, tRaise, tTryAs, tIsS, tIsC, tIsCT, tInBase, tGetBase, Loc.setAll, Loc.set, Loc.bare, bindV, String.reduceBEq, cond_true, cond_false, List.length_cons, List.length_nil, tDict2]
      refine inD_nums AH.set_same ?_
      cases hns : allNum ws with
      | none => exact r5 _ _ _ (kret _ _ _ _ hs4 (h2 (by rw [hdue', hns]; rfl)))
      | some ns =>
        dsimp only [Option.isNone_some]
        refine ⟨trivial, by simp [Nonneg], ?_⟩
        rw [new_keeps (new_keeps (new_keeps AH.set_same hd) ha3) ha5]
        intro a6 ha6
        rw [show cutV none (some 1) ((w0 :: ws).map V.str) = [V.str w0] from rfl]
        have hnl := allNum_length hns
        refine ⟨[V.str w0], ws.map numW, AH.set_same, new_keeps AH.set_same ha6, by simp only [Fits, List.length_cons, List.length_nil, List.length_map]; omega, fun a7 ha7 => ⟨a7, _, rfl, AH.set_same, r5 _ _ _ (kret _ _ _ _ ((hs4.new ha6).new ha7) ?_)⟩⟩
        rw [nums_ints hns]
        exact h1 w0 ns (by rw [hdue', hns]; rfl)
    · have hb : ((((ws.length + 1 : Nat) : Int)) == ((k : Nat) : Int)) = false := by rw [beq_eq_false_iff_ne]; omega
      rw [hb]
      simp only [Bool.not_false]
      exact hno (by rw [hdue, hz, if_neg (by simp; omega)]) hs2
end
section
open PySem PySem.W PyProof.Rows
variable {g : Gr} {P : Params}
theorem f_read (hK : (KK P).In g.b0) (N : NT g) (hE : ExcK (KK P) CB) (hP : ∀ C, C = CB → exmOne (KK P) (.ref C) (.ref 24) = some true) (F_deed_of : FnG g "deed_of" 3 (sDeedOf CB)) : SndC g 4 (.ref 191) sRead := by
  refine SndC.mono (sndC_def (r := 3) (ps := ["_law_line"]) (hK 191 _ rfl) rfl (CodeRec.mk' (hK 190 _ rfl) rfl rfl) rfl (by intro vs h; obtain ⟨a0, rfl⟩ := len1 h; rfl) rfl rfl rfl (by decide +kernel)
    (sndSs_cons (sndS_tryAs hK (at_ (i := 4) rfl) (N.n_PairError) hP (at_ (i := 1) rfl) (sndSs_cons (sndS_return (sndE_call (at_ (i := 3) rfl) F_deed_of (sndL_cons (sndE_name (.head _) rfl) sndL_nil) rfl))
  sndSs_nil)
  (sndSs_cons (sndS_assign (at_ (i := 2) rfl) rfl (sndE_isCT (b := false) (cs := [37, 61, 97, 49, 85, 109, 73]) hK hE (at_ (i := 5) rfl) (N.n_isinstance) (sndE_name (at_ (i := 1) rfl) rfl) (sndE_tuple (sndL_cons (sndE_global (at_ (i := 6) rfl) (N.n_BadCount) (fun _ => VR_ref.mpr rfl)) (sndL_cons (sndE_global (at_ (i := 7) rfl) (N.n_BadEnd) (fun _ => VR_ref.mpr rfl)) (sndL_cons (sndE_global (at_ (i := 8) rfl) (N.n_BadHue) (fun _ => VR_ref.mpr rfl)) (sndL_cons (sndE_global (at_ (i := 9) rfl) (N.n_BadSide) (fun _ => VR_ref.mpr rfl)) (sndL_cons (sndE_global (at_ (i := 10) rfl) (N.n_NoPair) (fun _ => VR_ref.mpr rfl)) (sndL_cons (sndE_global (at_ (i := 11) rfl) (N.n_NotFree) (fun _ => VR_ref.mpr rfl)) (sndL_cons (sndE_global (at_ (i := 12) rfl) (N.n_TooMany) (fun _ => VR_ref.mpr rfl)) sndL_nil)))))))) (by kernel_rfl) rfl rfl) (fun _ => rfl))
  (sndSs_cons (sndS_return (sndE_list (sndL_cons (sndE_name (at_ (i := 2) rfl) rfl) (sndL_cons (sndE_isC (b := true) hK hE (at_ (i := 5) rfl) (N.n_isinstance) (at_ (i := 13) rfl) (N.n_BadLine) (sndE_name (at_ (i := 1) rfl) rfl) (by kernel_rfl) rfl) (sndL_cons (sndE_isC (b := true) hK hE (at_ (i := 5) rfl) (N.n_isinstance) (at_ (i := 14) rfl) (N.n_ValueError) (sndE_name (at_ (i := 1) rfl) rfl) (by kernel_rfl) rfl) sndL_nil)))))
  sndSs_nil)))
  sndSs_nil)) ?_
  rintro xs σ Q E hh
  have hlen : ∃ v, xs = [v] := by cases hh with | text t e => exact ⟨_, e⟩ | none v e => exact ⟨_, e⟩
  obtain ⟨v, rfl⟩ := hlen
  refine tFun_k rfl fun K KE kret _ kexc => ?_
  simp only [Loc.setAll]
  refine tSeq_r fun K1 k1 r1 => ?_
  dsimp only [tNop, tRet, tAssign, tCall, tLenT, tList, tTuple, tNil, tCons, tConst, tName, tConstB, tCmpS, tCmpSB, cmpS, tItemS, itemS, tSliceT, sliceT, tIterT, tRaise, tTryAs, tIsS, tIsC, tIsCT, tInBase, tGetBase, Loc.setAll, Loc.set, Loc.bare, bindV, String.reduceBEq, cond_true, cond_false, List.length_cons, List.length_nil]
  have hand : (∀ a, σ a = none → Q (.ref a) (σ.set a (.list refusedV))) → ∀ a, σ a = none → tSeq
            (tAssign "_law_other"
              (tIsCT CB false [37, 61, 97, 49, 85, 109, 73] (tName "error")
                (tTuple
                  (tCons (tConst (V.ref 37))
                    (tCons (tConst (V.ref 61))
                      (tCons (tConst (V.ref 97))
                        (tCons (tConst (V.ref 49))
                          (tCons (tConst (V.ref 85))
                            (tCons (tConst (V.ref 109)) (tCons (tConst (V.ref 73)) tNil))))))))))
            (tSeq
              (tRet
                (tList
                  (tCons (tName "_law_other")
                    (tCons (tIsC CB true (tName "error")) (tCons (tIsC CB true (tName "error")) tNil)))))
              tNop)
            ((Loc.empty.set "_law_line" v).set "error" (V.ref a)) (σ.set a (AO.exc CB)) (fun f x σ'' => K1 f Loc.empty σ'') (fun x x_1 x_2 => False) := fun hq a ha => by
    refine tSeq_n fun K2 k2 => ?_
    dsimp only [tNop, tRet, tAssign, tCall, tLenT, tList, tTuple, tNil, tCons, tConst, tName, tConstB, tCmpS, tCmpSB, cmpS, tItemS, itemS, tSliceT, sliceT, tIterT, tRaise, tTryAs, tIsS, tIsC, tIsCT, tInBase, tGetBase, Loc.setAll, Loc.set, Loc.bare, bindV, String.reduceBEq, cond_true, cond_false, List.length_cons, List.length_nil]
    refine ⟨by simp [Fits], a, rfl, AH.set_same, rfl, k2 _ _ ?_⟩
    refine tSeq_e fun K3 r3 => ?_
    dsimp only [tNop, tRet, tAssign, tCall, tLenT, tList, tTuple, tNil, tCons, tConst, tName, tConstB, tCmpS, tCmpSB, cmpS, tItemS, itemS, tSliceT, sliceT, tIterT, tRaise, tTryAs, tIsS, tIsC, tIsCT, tInBase, tGetBase, Loc.setAll, Loc.set, Loc.bare, bindV, String.reduceBEq, cond_true, cond_false, List.length_cons, List.length_nil]
    refine ⟨a, rfl, AH.set_same, a, rfl, AH.set_same, by simp [Fits], fun b hb => r3 _ _ _ (r1 _ _ _ (kret _ _ _ _ ((Sub.refl.new ha).both) (hq b ((Sub.refl.new ha).none hb))))⟩
  cases hh with
  | none v' e hn h2 =>
    cases e
    refine tSeq_e fun K4 r4 => ?_
    dsimp only [tNop, tRet, tAssign, tCall, tLenT, tList, tTuple, tNil, tCons, tConst, tName, tConstB, tCmpS, tCmpSB, cmpS, tItemS, itemS, tSliceT, sliceT, tIterT, tRaise, tTryAs, tIsS, tIsC, tIsCT, tInBase, tGetBase, Loc.setAll, Loc.set, Loc.bare, bindV, String.reduceBEq, cond_true, cond_false, List.length_cons, List.length_nil]
    exact DeedOfI.none v rfl hn ⟨rfl, hand h2⟩
  | text t e ha hl h1 h2 =>
    cases e
    refine tSeq_e fun K4 r4 => ?_
    dsimp only [tNop, tRet, tAssign, tCall, tLenT, tList, tTuple, tNil, tCons, tConst, tName, tConstB, tCmpS, tCmpSB, cmpS, tItemS, itemS, tSliceT, sliceT, tIterT, tRaise, tTryAs, tIsS, tIsC, tIsCT, tInBase, tGetBase, Loc.setAll, Loc.set, Loc.bare, bindV, String.reduceBEq, cond_true, cond_false, List.length_cons, List.length_nil]
    exact DeedOfI.text t rfl ha hl (fun k ns hd => r4 _ _ _ (r1 _ _ _ (kret _ _ _ _ Sub.refl (h1 k ns hd)))) fun hn => ⟨rfl, hand (h2 hn)⟩
end
section
open PySem PySem.W PyProof.Rows
variable {g : Gr} {P : Params}
theorem f_whole10 (hK : (KK P).In g.b0) (N : NT g) : SndC g 2 (.ref 160) sWhole10 := by
  refine SndC.mono (sndC_def (r := 1) (ps := ["_law_found"]) (hK 160 _ rfl) rfl (CodeRec.mk' (hK 159 _ rfl) rfl rfl) rfl (by intro vs h; obtain ⟨a0, rfl⟩ := len1 h; rfl) rfl rfl rfl (by decide +kernel)
    (sndSs_cons (sndS_return (sndE_boolop (sndV_and (sndE_isinstance (k := .int) (at_ (i := 1) rfl) (N.n_isinstance) (at_ (i := 2) rfl) (N.n_int) (sndE_name (.head _) rfl) rfl) (sndV_one (sndE_not (sndE_isinstance (k := .bool) (at_ (i := 1) rfl) (N.n_isinstance) (at_ (i := 3) rfl) (N.n_bool) (sndE_name (.head _) rfl) rfl))))))
  sndSs_nil)) ?_
  rintro xs σ Q E ⟨n, rfl, h⟩
  refine tFun_k rfl fun K KE kret _ kexc => ?_
  simp only [Loc.setAll]
  refine tSeq_e fun K1 r1 => ?_
  dsimp only [tNop, tRet, tLenT, tIsI, isiV, tNil, tCons, tConst, tName, truthV, tConstB, tCmpS, tCmpSB, cmpS, tNot, tAnd, tItemS, itemS, tSliceT, sliceT, tIterT, tRaise, tTryAs, tIsS, tIsC, tIsCT, tInBase, tGetBase, Loc.setAll, Loc.set, Loc.bare, bindV, String.reduceBEq, cond_true, cond_false, List.length_cons, List.length_nil]
  exact r1 _ _ _ (kret _ _ _ _ Sub.refl h)
theorem f_right (hK : (KK P).In g.b0) (N : NT g) (F_law_read : FnG g "_law_read" 4 sRead) (F_law_whole : FnG g "_law_whole" 4 sWhole10) : SndC g 5 (.ref 196) sRight := by
  refine SndC.mono (sndC_def (r := 4) (ps := ["_law_line", "_law_due_here"]) (hK 196 _ rfl) rfl (CodeRec.mk' (hK 195 _ rfl) rfl rfl) rfl (by intro vs h; obtain ⟨a0, a1, rfl⟩ := len2 h; rfl) rfl rfl rfl (by decide +kernel)
    (sndSs_cons (sndS_assign (at_ (i := 2) rfl) rfl (sndE_call (at_ (i := 3) rfl) F_law_read (sndL_cons (sndE_name (.head _) rfl) sndL_nil) rfl) (fun _ => rfl))
  (sndSs_cons (sndS_if (sndB_cmp (sndE_name (at_ (i := 1) rfl) rfl) sndE_none rfl) (sndSs_cons (sndS_return (sndE_cmp (sndE_name (at_ (i := 2) rfl) rfl) (sndE_list (sndL_cons sndE_bool (sndL_cons sndE_bool (sndL_cons sndE_bool sndL_nil)))) rfl))
  sndSs_nil) sndSs_nil)
  (sndSs_cons (sndS_return (sndE_boolop (sndV_and (sndE_isinstance (k := .tuple) (at_ (i := 4) rfl) (N.n_isinstance) (at_ (i := 5) rfl) (N.n_tuple) (sndE_name (at_ (i := 2) rfl) rfl) rfl) (sndV_and (sndE_cmp (sndE_name (at_ (i := 2) rfl) rfl) (sndE_name (at_ (i := 1) rfl) rfl) rfl) (sndV_one (sndE_call (at_ (i := 6) rfl) (fn_builtin N.n_all sndF_all) (sndL_cons (sndE_comp (by decide +kernel) (sndI_value (sndE_slice (sndE_name (at_ (i := 2) rfl) rfl) (sndO_some sndE_int) sndO_none)) (.name (at_ (i := 1) rfl) rfl) (by decide +kernel) sndT_nil (sndE_call (at_ (i := 2) rfl) F_law_whole (sndL_cons (sndE_name (at_ (i := 1) rfl) rfl) sndL_nil) rfl) (fun _ _ => rfl)) sndL_nil) rfl))))))
  sndSs_nil)))) ?_
  rintro xs σ Q E hh
  cases hh with
  | deed t k ns e ha hl hk hd h =>
    subst e
    refine tFun_k rfl fun K KE kret _ kexc => ?_
    simp only [Loc.setAll]
    refine tSeq_n fun K1 k1 => ?_
    dsimp only [tNop, tRet, tIfS, tAssign, tIter, walkV, tCall, tLenT, tIsI, isiV, tListComp, tComp, tList, tNil, tCons, tConst, tName, truthV, tConstB, tCmp, tCmpB, cmpV, tCmpS, tCmpSB, cmpS, tAnd, tItemS, itemS, tSlice, sliceV, tSliceT, sliceT, boundV, tIterT, tRaise, tTryAs, tIsS, tIsC, tIsCT, tInBase, tGetBase, Loc.setAll, Loc.set, Loc.bare, bindV, String.reduceBEq, cond_true, cond_false, List.length_cons, List.length_nil]
    refine ReadI.text t rfl ha hl (fun k' ns' hd' => ?_) fun hn => absurd hd (by rw [hn]; simp)
    rw [hd] at hd'
    cases hd'
    refine k1 _ _ ?_
    refine tSeq_n fun K2 k2 => ?_
    dsimp only [tNop, tRet, tIfS, tAssign, tIter, walkV, tCall, tLenT, tIsI, isiV, tListComp, tComp, tList, tNil, tCons, tConst, tName, truthV, tConstB, tCmp, tCmpB, cmpV, tCmpS, tCmpSB, cmpS, tAnd, tItemS, itemS, tSlice, sliceV, tSliceT, sliceT, boundV, tIterT, tRaise, tTryAs, tIsS, tIsC, tIsCT, tInBase, tGetBase, Loc.setAll, Loc.set, Loc.bare, bindV, String.reduceBEq, cond_true, cond_false, List.length_cons, List.length_nil]
    refine k2 _ _ ?_
    refine tSeq_e fun K3 r3 => ?_
    dsimp only [tNop, tRet, tIfS, tAssign, tIter, walkV, tCall, tLenT, tIsI, isiV, tListComp, tComp, tList, tNil, tCons, tConst, tName, truthV, tConstB, tCmp, tCmpB, cmpV, tCmpS, tCmpSB, cmpS, tAnd, tItemS, itemS, tSlice, sliceV, tSliceT, sliceT, boundV, tIterT, tRaise, tTryAs, tIsS, tIsC, tIsCT, tInBase, tGetBase, Loc.setAll, Loc.set, Loc.bare, bindV, String.reduceBEq, cond_true, cond_false, List.length_cons, List.length_nil]
    refine eqD_deed hk ?_
    refine ⟨by simp [Nonneg], trivial, ?_⟩
    show (_ → _) ∧ compT _ _ _ _ _ (ns.map V.int) _ _ _ _
    refine ⟨fun h => (nomatch h), ?_⟩
    refine compT_each V.int (fun _ => V.bool true) trivial ns (fun n _ => ⟨_, fun P h => h, fun Qv h => ?_⟩) fun a han => ?_
    · dsimp only [tNop, tRet, tIfS, tAssign, tIter, walkV, tCall, tLenT, tIsI, isiV, tListComp, tComp, tList, tNil, tCons, tConst, tName, truthV, tConstB, tCmp, tCmpB, cmpV, tCmpS, tCmpSB, cmpS, tAnd, tItemS, itemS, tSlice, sliceV, tSliceT, sliceT, boundV, tIterT, tRaise, tTryAs, tIsS, tIsC, tIsCT, tInBase, tGetBase, Loc.setAll, Loc.set, Loc.bare, bindV, String.reduceBEq, cond_true, cond_false, List.length_cons, List.length_nil]
      exact ⟨n, rfl, h⟩
    · refine ⟨a, ns.map fun _ => true, rfl, ?_, ?_⟩
      · rw [AH.set_same, List.map_map]; rfl
      · rw [show (ns.map fun _ => true).all id = true from by rw [List.all_map]; simp]
        exact r3 _ _ _ (kret _ _ _ _ (Sub.refl.new han) h)
  | text t e ha hl hd h =>
    subst e
    refine tFun_k rfl fun K KE kret _ kexc => ?_
    simp only [Loc.setAll]
    refine tSeq_n fun K1 k1 => ?_
    dsimp only [tNop, tRet, tIfS, tAssign, tIter, walkV, tCall, tLenT, tIsI, isiV, tListComp, tComp, tList, tNil, tCons, tConst, tName, truthV, tConstB, tCmp, tCmpB, cmpV, tCmpS, tCmpSB, cmpS, tAnd, tItemS, itemS, tSlice, sliceV, tSliceT, sliceT, boundV, tIterT, tRaise, tTryAs, tIsS, tIsC, tIsCT, tInBase, tGetBase, Loc.setAll, Loc.set, Loc.bare, bindV, String.reduceBEq, cond_true, cond_false, List.length_cons, List.length_nil]
    refine ReadI.text t rfl ha hl (fun k' ns' hd' => absurd hd (by rw [hd']; simp)) fun hn a han => k1 _ _ ?_
    refine tSeq_r fun K2 k2 r2 => ?_
    dsimp only [tNop, tRet, tIfS, tAssign, tIter, walkV, tCall, tLenT, tIsI, isiV, tListComp, tComp, tList, tNil, tCons, tConst, tName, truthV, tConstB, tCmp, tCmpB, cmpV, tCmpS, tCmpSB, cmpS, tAnd, tItemS, itemS, tSlice, sliceV, tSliceT, sliceT, boundV, tIterT, tRaise, tTryAs, tIsS, tIsC, tIsCT, tInBase, tGetBase, Loc.setAll, Loc.set, Loc.bare, bindV, String.reduceBEq, cond_true, cond_false, List.length_cons, List.length_nil]
    refine tSeq_e fun K3 r3 => ?_
    dsimp only [tNop, tRet, tIfS, tAssign, tIter, walkV, tCall, tLenT, tIsI, isiV, tListComp, tComp, tList, tNil, tCons, tConst, tName, truthV, tConstB, tCmp, tCmpB, cmpV, tCmpS, tCmpSB, cmpS, tAnd, tItemS, itemS, tSlice, sliceV, tSliceT, sliceT, boundV, tIterT, tRaise, tTryAs, tIsS, tIsC, tIsCT, tInBase, tGetBase, Loc.setAll, Loc.set, Loc.bare, bindV, String.reduceBEq, cond_true, cond_false, List.length_cons, List.length_nil]
    refine ⟨by simp [Fits], fun b hb => eqD_refused (new_keeps AH.set_same hb) AH.set_same (r3 _ _ _ (r2 _ _ _ (kret _ _ _ _ ((Sub.refl.new han).new hb) h)))⟩
  | none v e hn h =>
    subst e
    refine tFun_k rfl fun K KE kret _ kexc => ?_
    simp only [Loc.setAll]
    refine tSeq_n fun K1 k1 => ?_
    dsimp only [tNop, tRet, tIfS, tAssign, tIter, walkV, tCall, tLenT, tIsI, isiV, tListComp, tComp, tList, tNil, tCons, tConst, tName, truthV, tConstB, tCmp, tCmpB, cmpV, tCmpS, tCmpSB, cmpS, tAnd, tItemS, itemS, tSlice, sliceV, tSliceT, sliceT, boundV, tIterT, tRaise, tTryAs, tIsS, tIsC, tIsCT, tInBase, tGetBase, Loc.setAll, Loc.set, Loc.bare, bindV, String.reduceBEq, cond_true, cond_false, List.length_cons, List.length_nil]
    refine ReadI.none v rfl hn fun a han => k1 _ _ ?_
    refine tSeq_r fun K2 k2 r2 => ?_
    dsimp only [tNop, tRet, tIfS, tAssign, tIter, walkV, tCall, tLenT, tIsI, isiV, tListComp, tComp, tList, tNil, tCons, tConst, tName, truthV, tConstB, tCmp, tCmpB, cmpV, tCmpS, tCmpSB, cmpS, tAnd, tItemS, itemS, tSlice, sliceV, tSliceT, sliceT, boundV, tIterT, tRaise, tTryAs, tIsS, tIsC, tIsCT, tInBase, tGetBase, Loc.setAll, Loc.set, Loc.bare, bindV, String.reduceBEq, cond_true, cond_false, List.length_cons, List.length_nil]
    refine tSeq_e fun K3 r3 => ?_
    dsimp only [tNop, tRet, tIfS, tAssign, tIter, walkV, tCall, tLenT, tIsI, isiV, tListComp, tComp, tList, tNil, tCons, tConst, tName, truthV, tConstB, tCmp, tCmpB, cmpV, tCmpS, tCmpSB, cmpS, tAnd, tItemS, itemS, tSlice, sliceV, tSliceT, sliceT, boundV, tIterT, tRaise, tTryAs, tIsS, tIsC, tIsCT, tInBase, tGetBase, Loc.setAll, Loc.set, Loc.bare, bindV, String.reduceBEq, cond_true, cond_false, List.length_cons, List.length_nil]
    refine ⟨by simp [Fits], fun b hb => eqD_refused (new_keeps AH.set_same hb) AH.set_same (r3 _ _ _ (r2 _ _ _ (kret _ _ _ _ ((Sub.refl.new han).new hb) h)))⟩
end
section
open PySem PySem.W PyProof.Rows
variable {g : Gr} {P : Params}
theorem f_cell_at (hK : (KK P).In g.b0) (N : NT g) : SndC g 2 (.ref 146) sCellAt := by
  refine SndC.mono (sndC_def (r := 1) (ps := ["_law_script", "_law_k"]) (hK 146 _ rfl) rfl (CodeRec.mk' (hK 145 _ rfl) rfl rfl) rfl (by intro vs h; obtain ⟨a0, a1, rfl⟩ := len2 h; rfl) rfl rfl rfl (by decide +kernel)
    (sndSs_cons (sndS_if (sndB_cmp (sndE_name (at_ (i := 1) rfl) rfl) (sndE_call (at_ (i := 2) rfl) (fn_builtin N.n_len sndF_lenT) (sndL_cons (sndE_name (.head _) rfl) sndL_nil) rfl) rfl) (sndSs_cons (sndS_return (sndE_item (sndE_name (.head _) rfl) (sndE_name (at_ (i := 1) rfl) rfl) (fun _ _ => rfl)))
  sndSs_nil) sndSs_nil)
  (sndSs_cons (sndS_return sndE_int)
  sndSs_nil))) ?_
  rintro xs σ Q E ⟨ns, k, rfl, h⟩
  refine tFun_k rfl fun K KE kret _ _ => ?_
  simp only [Loc.setAll]
  refine tSeq_r fun K1 k1 r1 => ?_
  dsimp only [tNop, tRet, tIfS, tCall, tLen, lenV, tLenT, tNil, tCons, tConst, tName, tConstB, tCmpB, cmpV, tCmpS, tCmpSB, cmpS, tItem, tItemS, itemS, tSliceT, sliceT, tIterT, tRaise, tTryAs, tIsS, tIsC, tIsCT, tInBase, tGetBase, Loc.setAll, Loc.set, Loc.bare, bindV, String.reduceBEq, cond_true, cond_false, List.length_cons, List.length_nil]
  simp only [List.length_map]
  by_cases hk : (k : Int) < (ns.length : Int)
  · simp only [decide_eq_true hk]
    refine tSeq_e fun K2 r2 => ?_
    dsimp only [tNop, tRet, tIfS, tCall, tLen, lenV, tLenT, tNil, tCons, tConst, tName, tConstB, tCmpB, cmpV, tCmpS, tCmpSB, cmpS, tItem, tItemS, itemS, tSliceT, sliceT, tIterT, tRaise, tTryAs, tIsS, tIsC, tIsCT, tInBase, tGetBase, Loc.setAll, Loc.set, Loc.bare, bindV, String.reduceBEq, cond_true, cond_false, List.length_cons, List.length_nil]
    simp only [itemV, row_at (r := ns) (show k < ns.length by omega)]
    exact r2 _ _ _ (r1 _ _ _ (kret _ _ _ _ Sub.refl (h _)))
  · simp only [decide_eq_false hk]
    refine k1 _ _ ?_
    refine tSeq_e fun K2 r2 => ?_
    dsimp only [tNop, tRet, tIfS, tCall, tLen, lenV, tLenT, tNil, tCons, tConst, tName, tConstB, tCmpB, cmpV, tCmpS, tCmpSB, cmpS, tItem, tItemS, itemS, tSliceT, sliceT, tIterT, tRaise, tTryAs, tIsS, tIsC, tIsCT, tInBase, tGetBase, Loc.setAll, Loc.set, Loc.bare, bindV, String.reduceBEq, cond_true, cond_false, List.length_cons, List.length_nil]
    exact r2 _ _ _ (kret _ _ _ _ Sub.refl (h _))
theorem f_mixed (hK : (KK P).In g.b0) (N : NT g) : SndC g 2 (.ref 153) sMixed := by
  refine SndC.mono (sndC_def (r := 1) (ps := ["_law_cell", "_law_k"]) (hK 153 _ rfl) rfl (CodeRec.mk' (hK 152 _ rfl) rfl rfl) rfl (by intro vs h; obtain ⟨a0, a1, rfl⟩ := len2 h; rfl) rfl rfl rfl (by decide +kernel)
    (sndSs_cons (sndS_return (sndE_bin (sndE_bin (sndE_bin (sndE_bin (sndE_bin (sndE_name (.head _) rfl) sndE_int) (sndE_bin (sndE_bin sndE_int (sndE_name (at_ (i := 1) rfl) rfl)) (sndE_name (at_ (i := 1) rfl) rfl))) (sndE_bin sndE_int (sndE_name (at_ (i := 1) rfl) rfl))) sndE_int) sndE_int))
  sndSs_nil)) ?_
  rintro xs σ Q E ⟨c, k, rfl, h0, h1, h⟩
  refine tFun_k rfl fun K KE kret _ _ => ?_
  simp only [Loc.setAll]
  refine tSeq_e fun K1 r1 => ?_
  dsimp only [tNop, tRet, tLenT, tNil, tCons, tConst, tName, tConstB, tCmpS, tCmpSB, cmpS, tBin, binV, tItemS, itemS, tSliceT, sliceT, tIterT, tRaise, tTryAs, tIsS, tIsC, tIsCT, tInBase, tGetBase, Loc.setAll, Loc.set, Loc.bare, bindV, String.reduceBEq, cond_true, cond_false, List.length_cons, List.length_nil]
  have hb : Builtin.Int.intBits k ≤ 64 := intBits_le_64 (by omega) (by omega)
  refine ⟨.of_right (by decide), .of_right hb, .of_right hb, .of_right hb, by decide, by decide, r1 _ _ _ (kret _ _ _ _ Sub.refl (h _ ?_))⟩
  exact Int.fdiv_nonneg (Int.fmod_nonneg_of_pos _ (by decide)) (by decide)
theorem f_line_of (hK : (KK P).In g.b0) (N : NT g) : SndC g 2 (.ref 129) sLineOf := by
  refine SndC.mono (sndC_def (r := 1) (ps := ["deed"]) (hK 129 _ rfl) rfl (CodeRec.mk' (hK 128 _ rfl) rfl rfl) rfl (by intro vs h; obtain ⟨a0, rfl⟩ := len1 h; rfl) rfl rfl rfl (by decide +kernel)
    (sndSs_cons (sndS_return (mJoin (sndE_str (fitsS (by decide))) (sndL_cons (sndE_bin (sndE_list (sndL_cons (sndE_item (sndE_name (.head _) rfl) sndE_int (fun _ _ => rfl)) sndL_nil)) (sndE_comp (by decide +kernel) (sndI_value (sndE_slice (sndE_name (.head _) rfl) (sndO_some sndE_int) sndO_none)) (.name (at_ (i := 1) rfl) rfl) (by decide +kernel) sndT_nil (sndE_call (at_ (i := 2) rfl) (fn_type N.n_str sndF_strI) (sndL_cons (sndE_name (at_ (i := 1) rfl) rfl) sndL_nil) rfl) (fun _ _ => rfl))) sndL_nil) rfl rfl rfl rfl))
  sndSs_nil)) ?_
  rintro xs σ Q E ⟨k, ns, rfl, hd, h⟩
  refine tFun_k rfl fun K KE kret _ _ => ?_
  simp only [Loc.setAll]
  refine tSeq_e fun K1 r1 => ?_
  dsimp only [tNop, tRet, tIter, walkV, tMethod, tyIs, tCall, tLenT, tListComp, tComp, tList, tNil, tCons, tConst, tName, tConstB, tCmpS, tCmpSB, cmpS, tBin, binV, tItem, tItemS, itemS, tSlice, sliceV, tSliceT, sliceT, boundV, tIterT, tRaise, tTryAs, tIsS, tIsC, tIsCT, tInBase, tGetBase, Loc.setAll, Loc.set, Loc.bare, bindV, String.reduceBEq, cond_true, cond_false, List.length_cons, List.length_nil]
  obtain ⟨hkl, hnb⟩ := hd
  have hk4 : k.length ≤ 4 ∧ ns.length ≤ 2 := by
    rcases hkl with ⟨rfl, e⟩ | ⟨rfl, e⟩
    · exact ⟨by decide +kernel, by omega⟩
    · exact ⟨by decide +kernel, by omega⟩
  refine ⟨trivial, itemT (atV_nat (i := 0) rfl) ⟨by simp [Fits], fun a ha => ⟨by simp [Nonneg], trivial, ?_⟩⟩⟩
  show (_ → _) ∧ compT _ _ _ _ _ (ns.map V.int) _ _ _ _
  refine ⟨fun h => (nomatch h), compT_each V.int (fun n => V.str (numS n)) trivial ns (fun n hn => ⟨_, fun P h => h, fun Qv h => ?_⟩) fun b hb => ?_⟩
  · dsimp only [tNop, tRet, tIter, walkV, tMethod, tyIs, tCall, tLenT, tListComp, tComp, tList, tNil, tCons, tConst, tName, tConstB, tCmpS, tCmpSB, cmpS, tBin, binV, tItem, tItemS, itemS, tSlice, sliceV, tSliceT, sliceT, boundV, tIterT, tRaise, tTryAs, tIsS, tIsC, tIsCT, tInBase, tGetBase, Loc.setAll, Loc.set, Loc.bare, bindV, String.reduceBEq, cond_true, cond_false, List.length_cons, List.length_nil]
    exact ⟨n, rfl, (hnb n hn).1, (hnb n hn).2, h⟩
  · refine ⟨[V.str k], ns.map (fun n => V.str (numS n)), new_keeps AH.set_same hb, AH.set_same, by simp only [Fits, List.length_cons, List.length_nil, List.length_map]; omega, fun d hd => ?_⟩
    refine ⟨_, d, k :: ns.map numS, rfl, ?_, ?_, ?_⟩
    · rw [AH.set_same, List.map_cons, List.map_map]; rfl
    · have := nums_sum hnb
      simp only [List.map_cons, List.sum_cons, List.length_cons, List.length_map]
      rw [show (Str.ofString " ").length = 1 from by decide +kernel]
      omega
    · rw [sp_eq, text_join]
      exact r1 _ _ _ (kret _ _ _ _ (((Sub.refl.new ha).new hb).new hd) h)
theorem f_deedL (hK : (KK P).In g.b0) (N : NT g) (F_law_cell_at : FnG g "_law_cell_at" 2 sCellAt) : SndC g 3 (.ref 167) sDeedL := by
  refine SndC.mono (sndC_def (r := 2) (ps := ["_law_script"]) (hK 167 _ rfl) rfl (CodeRec.mk' (hK 166 _ rfl) rfl rfl) rfl (by intro vs h; obtain ⟨a0, rfl⟩ := len1 h; rfl) rfl rfl rfl (by decide +kernel)
    (sndSs_cons (sndS_assign (at_ (i := 1) rfl) rfl (sndE_list sndL_nil) (fun _ => rfl))
  (sndSs_cons (sndS_for (sndI_range1 (at_ (i := 4) rfl) (N.n_range) sndE_int rfl) (.name (at_ (i := 2) rfl) rfl) (sndSs_cons (sndS_assign (at_ (i := 3) rfl) rfl (sndE_call (at_ (i := 5) rfl) F_law_cell_at (sndL_cons (sndE_name (.head _) rfl) (sndL_cons (sndE_bin sndE_int (sndE_name (at_ (i := 2) rfl) rfl)) sndL_nil)) rfl) (fun _ => rfl))
  (sndSs_cons (sndS_expr (mAppend (sndE_name (at_ (i := 1) rfl) rfl) (sndL_cons (sndE_item (sndE_list (sndL_cons (sndE_bin (sndE_bin (sndE_name (at_ (i := 3) rfl) rfl) sndE_int) sndE_int) (sndL_cons (sndE_bin (sndE_bin (sndE_name (at_ (i := 3) rfl) rfl) sndE_int) (sndE_bin sndE_int sndE_int)) (sndL_cons (sndE_bin (sndE_bin (sndE_name (at_ (i := 3) rfl) rfl) sndE_int) sndE_int) sndL_nil)))) (sndE_bin (sndE_name (at_ (i := 3) rfl) rfl) sndE_int) (fun _ _ => rfl)) sndL_nil) rfl rfl rfl rfl) (fun _ => rfl))
  sndSs_nil)) (fun _ _ => rfl))
  (sndSs_cons (sndS_return (sndE_item (sndE_list (sndL_cons (sndE_tuple (sndL_cons (sndE_str (fitsS (by decide))) (sndL_cons (sndE_item (sndE_name (at_ (i := 1) rfl) rfl) sndE_int (fun _ _ => rfl)) (sndL_cons (sndE_item (sndE_name (at_ (i := 1) rfl) rfl) sndE_int (fun _ _ => rfl)) sndL_nil)))) (sndL_cons (sndE_tuple (sndL_cons (sndE_str (fitsS (by decide))) (sndL_cons (sndE_item (sndE_name (at_ (i := 1) rfl) rfl) sndE_int (fun _ _ => rfl)) sndL_nil))) sndL_nil))) (sndE_bin (sndE_call (at_ (i := 5) rfl) F_law_cell_at (sndL_cons (sndE_name (.head _) rfl) (sndL_cons sndE_int sndL_nil)) rfl) sndE_int) (fun _ _ => rfl)))
  sndSs_nil)))) ?_
  rintro xs σ Q E ⟨ns, rfl, h⟩
  refine tFun_k rfl fun K KE kret _ _ => ?_
  simp only [Loc.setAll]
  refine tSeq_n fun K1 k1 => ?_
  dsimp only [tNop, tRet, tDo, tAssign, tFor, tRange1, tMethod, tyIs, tAppend, tCall, tLenT, tList, tTuple, tNil, tCons, tConst, tName, tConstB, tCmpS, tCmpSB, cmpS, tBin, binV, tItem, tItemS, itemS, tSliceT, sliceT, tIterT, tRaise, tTryAs, tIsS, tIsC, tIsCT, tInBase, tGetBase, Loc.setAll, Loc.set, Loc.bare, bindV, String.reduceBEq, cond_true, cond_false, List.length_cons, List.length_nil]
  refine ⟨by simp [Fits], fun a ha => k1 _ _ ?_⟩
  refine tSeq_n fun K2 k2 => ?_
  dsimp only [tNop, tRet, tDo, tAssign, tFor, tRange1, tMethod, tyIs, tAppend, tCall, tLenT, tList, tTuple, tNil, tCons, tConst, tName, tConstB, tCmpS, tCmpSB, cmpS, tBin, binV, tItem, tItemS, itemS, tSliceT, sliceT, tIterT, tRaise, tTryAs, tIsS, tIsC, tIsCT, tInBase, tGetBase, Loc.setAll, Loc.set, Loc.bare, bindV, String.reduceBEq, cond_true, cond_false, List.length_cons, List.length_nil]
  refine ⟨by decide, by simp [Fits], fun h => (nomatch h), ?_⟩
  refine loopT_rangeK (fun i ℓ σ' => ∃ fs : List Int, fs.length = i ∧ (∀ v ∈ fs, 0 ≤ v ∧ v < 10 ^ 30) ∧ Sub σ σ' ∧ σ' a = some (.list (fs.map V.int)) ∧ ℓ "_law_some" = some (.ref a) ∧ ℓ "_law_script" = some (.frz (ns.map V.int))) ?_ ?_
    ⟨[], rfl, fun v e => (nomatch e), Sub.refl.new ha, AH.set_same, rfl, rfl⟩
  · rintro ℓ σ' ⟨fs, h1, h2, h3, h4, e1, e2⟩
    refine ⟨trivial, k2 _ _ ?_⟩
    obtain ⟨l, r, rfl⟩ : ∃ l r, fs = [l, r] := by
      match fs, h1 with
      | [l, r], _ => exact ⟨l, r, rfl⟩
    refine tSeq_e fun K2 r2 => ?_
    dsimp only [tNop, tRet, tDo, tAssign, tFor, tRange1, tMethod, tyIs, tAppend, tCall, tLenT, tList, tTuple, tNil, tCons, tConst, tName, tConstB, tCmpS, tCmpSB, cmpS, tBin, binV, tItem, tItemS, itemS, tSliceT, sliceT, tIterT, tRaise, tTryAs, tIsS, tIsC, tIsCT, tInBase, tGetBase, Loc.setAll, Loc.set, Loc.bare, bindV, String.reduceBEq, cond_true, cond_false, List.length_cons, List.length_nil]
    simp only [e1, e2]
    refine itemL h4 (atV_int (by decide) rfl) (itemL h4 (atV_int (by decide) rfl) ⟨by simp [Fits], itemL h4 (atV_int (by decide) rfl) ⟨by simp [Fits], by simp [Fits], fun b hb => ⟨ns, 0, rfl, fun c => ⟨by decide, ?_⟩⟩⟩⟩)
    have q0 := Int.fmod_nonneg_of_pos c (show (0 : Int) < 2 by decide)
    have q1 := Int.fmod_lt_of_pos c (show (0 : Int) < 2 by decide)
    have hc : c.fmod 2 = 0 ∨ c.fmod 2 = 1 := by omega
    rcases hc with hc | hc <;> rw [hc]
    · exact itemL AH.set_same (atV_int (by decide) rfl) (r2 _ _ _ (kret _ _ _ _ (h3.new hb) (h comeS' [l, r] ⟨.inl ⟨rfl, rfl⟩, h2⟩)))
    · exact itemL AH.set_same (atV_int (by decide) rfl) (r2 _ _ _ (kret _ _ _ _ (h3.new hb) (h goS' [l] ⟨.inr ⟨rfl, rfl⟩, fun n hn => h2 n (by simp at hn; simp [hn])⟩)))
  · rintro i ℓ σ' K2 hi k2 r2 ⟨fs, h1, h2, h3, h4, e1, e2⟩
    have hi2 : i < 2 := hi
    refine ⟨trivial, ?_⟩
    simp only [bindV]
    refine tSeq_n fun K3 k3 => ?_
    dsimp only [tNop, tRet, tDo, tAssign, tFor, tRange1, tMethod, tyIs, tAppend, tCall, tLenT, tList, tTuple, tNil, tCons, tConst, tName, tConstB, tCmpS, tCmpSB, cmpS, tBin, binV, tItem, tItemS, itemS, tSliceT, sliceT, tIterT, tRaise, tTryAs, tIsS, tIsC, tIsCT, tInBase, tGetBase, Loc.setAll, Loc.set, Loc.bare, bindV, String.reduceBEq, cond_true, cond_false, List.length_cons, List.length_nil]
    simp only [e2]
    refine ⟨ns, 1 + i, by simp, fun c => k3 _ _ ?_⟩
    refine tSeq_n fun K4 k4 => ?_
    dsimp only [tNop, tRet, tDo, tAssign, tFor, tRange1, tMethod, tyIs, tAppend, tCall, tLenT, tList, tTuple, tNil, tCons, tConst, tName, tConstB, tCmpS, tCmpSB, cmpS, tBin, binV, tItem, tItemS, itemS, tSliceT, sliceT, tIterT, tRaise, tTryAs, tIsS, tIsC, tIsCT, tInBase, tGetBase, Loc.setAll, Loc.set, Loc.bare, bindV, String.reduceBEq, cond_true, cond_false, List.length_cons, List.length_nil]
    simp only [e1, h4]
    refine ⟨trivial, by decide, by decide, by decide, ⟨by decide, by decide, by decide⟩, by decide +kernel, by decide, by decide, by simp [Fits], fun b hb => ⟨by decide, ?_⟩⟩
    have q0 := Int.fmod_nonneg_of_pos c (show (0 : Int) < 3 by decide)
    have q1 := Int.fmod_lt_of_pos c (show (0 : Int) < 3 by decide)
    obtain ⟨v, hv, hm⟩ := atV_mem (xs := [V.int ((c.fdiv 3).fmod 12), V.int ((c.fdiv 3).fmod (10 ^ Int.toNat 30)), V.int ((c.fdiv 3).fmod 1000)]) q0 (by simpa using q1)
    have hz : ∃ z : Int, v = .int z ∧ 0 ≤ z ∧ z < 10 ^ 30 := by
      have bd : ∀ m : Int, 0 < m → m ≤ 10 ^ 30 → 0 ≤ (c.fdiv 3).fmod m ∧ (c.fdiv 3).fmod m < 10 ^ 30 := fun m h0 h1 =>
        ⟨Int.fmod_nonneg_of_pos _ h0, Int.lt_of_lt_of_le (Int.fmod_lt_of_pos _ h0) h1⟩
      simp only [List.mem_cons, List.not_mem_nil, or_false] at hm
      rcases hm with rfl | rfl | rfl
      · exact ⟨_, rfl, bd _ (by decide) (by decide)⟩
      · exact ⟨_, rfl, bd _ (by decide +kernel) (by decide +kernel)⟩
      · exact ⟨_, rfl, bd _ (by decide) (by decide)⟩
    obtain ⟨z, rfl, z0, z1⟩ := hz
    refine itemL AH.set_same hv ?_
    rw [new_keeps h4 hb]
    refine ⟨by simp only [Fits, List.length_map]; omega, k4 _ _ (k2 _ _ ⟨fs ++ [z], by simp [h1], fun u hu => ?_, (h3.new hb).upd ha, ?_, e1, e2⟩)⟩
    · rcases List.mem_append.mp hu with hu | hu
      · exact h2 u hu
      · simp at hu; subst hu; exact ⟨z0, z1⟩
    · rw [AH.set_same]; simp
end
section
open PySem PySem.W PyProof.Rows
variable {g : Gr} {P : Params}
theorem f_bent (hK : (KK P).In g.b0) (N : NT g) : SndC g 2 (.ref 174) sBent := by
  refine SndC.mono (sndC_def (r := 1) (ps := ["_law_text", "_law_cell"]) (hK 174 _ rfl) rfl (CodeRec.mk' (hK 173 _ rfl) rfl rfl) rfl (by intro vs h; obtain ⟨a0, a1, rfl⟩ := len2 h; rfl) rfl rfl rfl (by decide +kernel)
    (sndSs_cons (sndS_assign (at_ (i := 2) rfl) rfl (sndE_str (fitsS (by decide))) (fun _ => rfl))
  (sndSs_cons (sndS_assign (at_ (i := 3) rfl) rfl (sndE_bin (sndE_bin (sndE_name (at_ (i := 1) rfl) rfl) sndE_int) (sndE_bin (sndE_call (at_ (i := 6) rfl) (fn_builtin N.n_len sndF_lenT) (sndL_cons (sndE_name (.head _) rfl) sndL_nil) rfl) sndE_int)) (fun _ => rfl))
  (sndSs_cons (sndS_assign (at_ (i := 4) rfl) rfl (sndE_itemS (sndE_name (at_ (i := 2) rfl) rfl) (sndE_bin (sndE_bin (sndE_name (at_ (i := 1) rfl) rfl) sndE_int) (sndE_call (at_ (i := 6) rfl) (fn_builtin N.n_len sndF_lenT) (sndL_cons (sndE_name (at_ (i := 2) rfl) rfl) sndL_nil) rfl)) (fun _ _ => rfl)) (fun _ => rfl))
  (sndSs_cons (sndS_if (sndB_cmp (sndE_bin (sndE_bin (sndE_name (at_ (i := 1) rfl) rfl) sndE_int) sndE_int) sndE_int rfl) (sndSs_cons (sndS_assign (at_ (i := 4) rfl) rfl (sndE_itemS (sndE_str (fitsS (by decide))) (sndE_bin (sndE_bin (sndE_name (at_ (i := 1) rfl) rfl) sndE_int) sndE_int) (fun _ _ => rfl)) (fun _ => rfl))
  sndSs_nil) sndSs_nil)
  (sndSs_cons (sndS_if (sndB_cmp (sndE_bin (sndE_name (at_ (i := 1) rfl) rfl) sndE_int) sndE_int rfl) (sndSs_cons (sndS_return (sndE_bin (sndE_bin (sndE_sliceT (sndE_name (.head _) rfl) sndO_none (sndO_some (sndE_name (at_ (i := 3) rfl) rfl))) (sndE_name (at_ (i := 4) rfl) rfl)) (sndE_sliceT (sndE_name (.head _) rfl) (sndO_some (sndE_name (at_ (i := 3) rfl) rfl)) sndO_none)))
  sndSs_nil) sndSs_nil)
  (sndSs_cons (sndS_if (sndB_cmp (sndE_bin (sndE_name (at_ (i := 1) rfl) rfl) sndE_int) sndE_int rfl) (sndSs_cons (sndS_return (sndE_bin (sndE_sliceT (sndE_name (.head _) rfl) sndO_none (sndO_some (sndE_name (at_ (i := 3) rfl) rfl))) (sndE_sliceT (sndE_name (.head _) rfl) (sndO_some (sndE_bin (sndE_name (at_ (i := 3) rfl) rfl) sndE_int)) sndO_none)))
  sndSs_nil) sndSs_nil)
  (sndSs_cons (sndS_if (sndB_cmp (sndE_bin (sndE_name (at_ (i := 1) rfl) rfl) sndE_int) sndE_int rfl) (sndSs_cons (sndS_return (sndE_bin (sndE_bin (sndE_sliceT (sndE_name (.head _) rfl) sndO_none (sndO_some (sndE_name (at_ (i := 3) rfl) rfl))) (sndE_name (at_ (i := 4) rfl) rfl)) (sndE_sliceT (sndE_name (.head _) rfl) (sndO_some (sndE_bin (sndE_name (at_ (i := 3) rfl) rfl) sndE_int)) sndO_none)))
  sndSs_nil) sndSs_nil)
  (sndSs_cons (sndS_assign (at_ (i := 5) rfl) rfl (sndE_list (sndL_cons (sndE_str (fitsS (by decide))) (sndL_cons (sndE_str (fitsS (by decide))) (sndL_cons (sndE_str (fitsS (by decide))) (sndL_cons (sndE_str (fitsS (by decide))) (sndL_cons (sndE_str (fitsS (by decide))) (sndL_cons (sndE_str (fitsS (by decide))) (sndL_cons (sndE_str (fitsS (by decide))) (sndL_cons (sndE_str (fitsS (by decide))) (sndL_cons (sndE_str (fitsS (by decide))) (sndL_cons (sndE_str (fitsS (by decide))) (sndL_cons (sndE_str (fitsS (by decide))) (sndL_cons (sndE_str (fitsS (by decide))) sndL_nil))))))))))))) (fun _ => rfl))
  (sndSs_cons (sndS_return (sndE_item (sndE_name (at_ (i := 5) rfl) rfl) (sndE_bin (sndE_bin (sndE_name (at_ (i := 1) rfl) rfl) sndE_int) sndE_int) (fun _ _ => rfl)))
  sndSs_nil)))))))))) ?_
  rintro xs σ Q E ⟨t, cc, rfl, ha, hl, hc, h⟩
  refine tFun_k rfl fun K KE kret _ _ => ?_
  simp only [Loc.setAll]
  refine tSeq_n fun K1 k1 => ?_
  dsimp only [tNop, tRet, tIfS, tAssign, tCall, tLen, lenV, tLenT, tList, tNil, tCons, tConst, tName, tConstB, tCmpB, cmpV, tCmpS, tCmpSB, cmpS, tBin, binV, tItem, tItemS, itemS, tSliceT, sliceT, boundV, tIterT, tRaise, tTryAs, tIsS, tIsC, tIsCT, tInBase, tGetBase, Loc.setAll, Loc.set, Loc.bare, bindV, String.reduceBEq, cond_true, cond_false, List.length_cons, List.length_nil]
  refine k1 _ _ ?_
  refine tSeq_n fun K2 k2 => ?_
  dsimp only [tNop, tRet, tIfS, tAssign, tCall, tLen, lenV, tLenT, tList, tNil, tCons, tConst, tName, tConstB, tCmpB, cmpV, tCmpS, tCmpSB, cmpS, tBin, binV, tItem, tItemS, itemS, tSliceT, sliceT, boundV, tIterT, tRaise, tTryAs, tIsS, tIsC, tIsCT, tInBase, tGetBase, Loc.setAll, Loc.set, Loc.bare, bindV, String.reduceBEq, cond_true, cond_false, List.length_cons, List.length_nil]
  refine ⟨by decide, by omega, k2 _ _ ?_⟩
  generalize (cc.fdiv 4).fmod (↑t.length + 1) = at'
  have hSG : AscB (Str.ofString " !\"#$&'()*+,-./0123456789:;<=>?@ABCDEFGHIJKLMNOPQRSTUVWXYZ[\\]^_`abcdefghijklmnopqrstuvwxyz{|}~\n\t") ∧ 0 < (Str.ofString " !\"#$&'()*+,-./0123456789:;<=>?@ABCDEFGHIJKLMNOPQRSTUVWXYZ[\\]^_`abcdefghijklmnopqrstuvwxyz{|}~\n\t").length := by decide +kernel
  generalize Str.ofString " !\"#$&'()*+,-./0123456789:;<=>?@ABCDEFGHIJKLMNOPQRSTUVWXYZ[\\]^_`abcdefghijklmnopqrstuvwxyz{|}~\n\t" = SG at hSG ⊢
  refine tSeq_n fun K3 k3 => ?_
  dsimp only [tNop, tRet, tIfS, tAssign, tCall, tLen, lenV, tLenT, tList, tNil, tCons, tConst, tName, tConstB, tCmpB, cmpV, tCmpS, tCmpSB, cmpS, tBin, binV, tItem, tItemS, itemS, tSliceT, sliceT, boundV, tIterT, tRaise, tTryAs, tIsS, tIsC, tIsCT, tInBase, tGetBase, Loc.setAll, Loc.set, Loc.bare, bindV, String.reduceBEq, cond_true, cond_false, List.length_cons, List.length_nil]
  have hidx : ∀ m : Int, 0 < m → 0 ≤ (cc.fdiv 400).fmod m ∧ (cc.fdiv 400).fmod m < m := fun m hm => ⟨Int.fmod_nonneg_of_pos _ hm, Int.fmod_lt_of_pos _ hm⟩
  obtain ⟨c1, hc1, hm1⟩ := sign_at (hidx (SG.length : Int) (by omega)).1 (hidx (SG.length : Int) (by omega)).2
  refine ⟨by decide, by omega, c1, hc1, k3 _ _ ?_⟩
  have hb1 := asc_iff.mp hSG.1 c1 hm1
  refine tSeq_n fun K4 k4 => ?_
  have rest : ∀ (ℓ : Loc) (ch : Nat), ch < 128 → ℓ "_law_text" = some (.str t) → ℓ "_law_at" = some (.int at') → ℓ "_law_cell" = some (.int cc) → ℓ "_law_sign" = some (.str ⟨#[ch]⟩) → K4 .next ℓ σ := fun ℓ ch hch e1 e2 e3 e4 => k4 _ _ (by
    refine tSeq_r fun K5 k5 r5 => ?_
    have hs1 := Txt.slice_le t none (some at')
    have hs2 := Txt.slice_le t (some at') none
    have hs3 := Txt.slice_le t (some (at' + 1)) none
    have l1 : (⟨#[ch]⟩ : Str).length = 1 := rfl
    dsimp only [tNop, tRet, tIfS, tAssign, tCall, tLen, lenV, tLenT, tList, tNil, tCons, tConst, tName, tConstB, tCmpB, cmpV, tCmpS, tCmpSB, cmpS, tBin, binV, tItem, tItemS, itemS, tSliceT, sliceT, boundV, tIterT, tRaise, tTryAs, tIsS, tIsC, tIsCT, tInBase, tGetBase, Loc.setAll, Loc.set, Loc.bare, bindV, String.reduceBEq, cond_true, cond_false, List.length_cons, List.length_nil]
    simp only [e3]
    refine ⟨by decide, eqD_int ?_⟩
    cases (cc.fmod 4 == 0) with
    | true =>
      refine tSeq_e fun K6 r6 => ?_
      dsimp only [tNop, tRet, tIfS, tAssign, tCall, tLen, lenV, tLenT, tList, tNil, tCons, tConst, tName, tConstB, tCmpB, cmpV, tCmpS, tCmpSB, cmpS, tBin, binV, tItem, tItemS, itemS, tSliceT, sliceT, boundV, tIterT, tRaise, tTryAs, tIsS, tIsC, tIsCT, tInBase, tGetBase, Loc.setAll, Loc.set, Loc.bare, bindV, String.reduceBEq, cond_true, cond_false, List.length_cons, List.length_nil]
      simp only [e1, e2, e4]
      exact ⟨by simp only [Fits]; omega, by simp only [Fits, Str.length_append]; omega, r6 _ _ _ (r5 _ _ _ (kret _ _ _ _ Sub.refl (h _ (asc_append (asc_append (asc_slice ha) (asc_one hch)) (asc_slice ha)) (by simp only [Str.length_append]; omega))))⟩
    | false =>
      refine k5 _ _ ?_
      refine tSeq_r fun K5 k5 r5 => ?_
      dsimp only [tNop, tRet, tIfS, tAssign, tCall, tLen, lenV, tLenT, tList, tNil, tCons, tConst, tName, tConstB, tCmpB, cmpV, tCmpS, tCmpSB, cmpS, tBin, binV, tItem, tItemS, itemS, tSliceT, sliceT, boundV, tIterT, tRaise, tTryAs, tIsS, tIsC, tIsCT, tInBase, tGetBase, Loc.setAll, Loc.set, Loc.bare, bindV, String.reduceBEq, cond_true, cond_false, List.length_cons, List.length_nil]
      simp only [e3]
      refine ⟨by decide, eqD_int ?_⟩
      cases (cc.fmod 4 == 1) with
      | true =>
        refine tSeq_e fun K6 r6 => ?_
        dsimp only [tNop, tRet, tIfS, tAssign, tCall, tLen, lenV, tLenT, tList, tNil, tCons, tConst, tName, tConstB, tCmpB, cmpV, tCmpS, tCmpSB, cmpS, tBin, binV, tItem, tItemS, itemS, tSliceT, sliceT, boundV, tIterT, tRaise, tTryAs, tIsS, tIsC, tIsCT, tInBase, tGetBase, Loc.setAll, Loc.set, Loc.bare, bindV, String.reduceBEq, cond_true, cond_false, List.length_cons, List.length_nil]
        simp only [e1, e2, e4]
        exact ⟨by simp only [Fits]; omega, r6 _ _ _ (r5 _ _ _ (kret _ _ _ _ Sub.refl (h _ (asc_append (asc_slice ha) (asc_slice ha)) (by simp only [Str.length_append]; omega))))⟩
      | false =>
        refine k5 _ _ ?_
        refine tSeq_r fun K5 k5 r5 => ?_
        dsimp only [tNop, tRet, tIfS, tAssign, tCall, tLen, lenV, tLenT, tList, tNil, tCons, tConst, tName, tConstB, tCmpB, cmpV, tCmpS, tCmpSB, cmpS, tBin, binV, tItem, tItemS, itemS, tSliceT, sliceT, boundV, tIterT, tRaise, tTryAs, tIsS, tIsC, tIsCT, tInBase, tGetBase, Loc.setAll, Loc.set, Loc.bare, bindV, String.reduceBEq, cond_true, cond_false, List.length_cons, List.length_nil]
        simp only [e3]
        refine ⟨by decide, eqD_int ?_⟩
        cases (cc.fmod 4 == 2) with
        | true =>
          refine tSeq_e fun K6 r6 => ?_
          dsimp only [tNop, tRet, tIfS, tAssign, tCall, tLen, lenV, tLenT, tList, tNil, tCons, tConst, tName, tConstB, tCmpB, cmpV, tCmpS, tCmpSB, cmpS, tBin, binV, tItem, tItemS, itemS, tSliceT, sliceT, boundV, tIterT, tRaise, tTryAs, tIsS, tIsC, tIsCT, tInBase, tGetBase, Loc.setAll, Loc.set, Loc.bare, bindV, String.reduceBEq, cond_true, cond_false, List.length_cons, List.length_nil]
          simp only [e1, e2, e4]
          exact ⟨by simp only [Fits]; omega, by simp only [Fits, Str.length_append]; omega, r6 _ _ _ (r5 _ _ _ (kret _ _ _ _ Sub.refl (h _ (asc_append (asc_append (asc_slice ha) (asc_one hch)) (asc_slice ha)) (by simp only [Str.length_append]; omega))))⟩
        | false =>
          refine k5 _ _ ?_
          refine tSeq_n fun K7 k7 => ?_
          dsimp only [tNop, tRet, tIfS, tAssign, tCall, tLen, lenV, tLenT, tList, tNil, tCons, tConst, tName, tConstB, tCmpB, cmpV, tCmpS, tCmpSB, cmpS, tBin, binV, tItem, tItemS, itemS, tSliceT, sliceT, boundV, tIterT, tRaise, tTryAs, tIsS, tIsC, tIsCT, tInBase, tGetBase, Loc.setAll, Loc.set, Loc.bare, bindV, String.reduceBEq, cond_true, cond_false, List.length_cons, List.length_nil]
          refine ⟨by simp [Fits], fun b hb => k7 _ _ ?_⟩
          refine tSeq_e fun K8 r8 => ?_
          dsimp only [tNop, tRet, tIfS, tAssign, tCall, tLen, lenV, tLenT, tList, tNil, tCons, tConst, tName, tConstB, tCmpB, cmpV, tCmpS, tCmpSB, cmpS, tBin, binV, tItem, tItemS, itemS, tSliceT, sliceT, boundV, tIterT, tRaise, tTryAs, tIsS, tIsC, tIsCT, tInBase, tGetBase, Loc.setAll, Loc.set, Loc.bare, bindV, String.reduceBEq, cond_true, cond_false, List.length_cons, List.length_nil]
          simp only [e3]
          refine ⟨by decide, by decide, ?_⟩
          have q0 := Int.fmod_nonneg_of_pos (cc.fdiv 4) (show (0 : Int) < 12 by decide)
          have q1 := Int.fmod_lt_of_pos (cc.fdiv 4) (show (0 : Int) < 12 by decide)
          obtain ⟨v, hv, hm⟩ := atV_mem (xs := ["", " ", "come", "go", "come 1", "go 1 2", "come 1 2 3", "go -1", "Go 1", "come  1 2", "go 01", "go 1 "].map fun x => V.str (Str.ofString x)) q0 (by simpa using q1)
          obtain ⟨x, hx, rfl⟩ := List.mem_map.mp hm
          have ok : ∀ x ∈ ["", " ", "come", "go", "come 1", "go 1 2", "come 1 2 3", "go -1", "Go 1", "come  1 2", "go 01", "go 1 "], AscB (Str.ofString x) ∧ (Str.ofString x).length ≤ 1000 := by decide +kernel
          exact itemL AH.set_same hv (r8 _ _ _ (kret _ _ _ _ (Sub.refl.new hb) (h _ (ok x hx).1 (ok x hx).2))))
  dsimp only [tNop, tRet, tIfS, tAssign, tCall, tLen, lenV, tLenT, tList, tNil, tCons, tConst, tName, tConstB, tCmpB, cmpV, tCmpS, tCmpSB, cmpS, tBin, binV, tItem, tItemS, itemS, tSliceT, sliceT, boundV, tIterT, tRaise, tTryAs, tIsS, tIsC, tIsCT, tInBase, tGetBase, Loc.setAll, Loc.set, Loc.bare, bindV, String.reduceBEq, cond_true, cond_false, List.length_cons, List.length_nil]
  refine ⟨by decide, by decide, eqD_int ?_⟩
  cases ((cc.fdiv 7).fmod 3 == 1) with
  | false => exact rest _ c1 hb1 rfl rfl rfl rfl
  | true =>
    refine tSeq_n fun K6 k6 => ?_
    dsimp only [tNop, tRet, tIfS, tAssign, tCall, tLen, lenV, tLenT, tList, tNil, tCons, tConst, tName, tConstB, tCmpB, cmpV, tCmpS, tCmpSB, cmpS, tBin, binV, tItem, tItemS, itemS, tSliceT, sliceT, boundV, tIterT, tRaise, tTryAs, tIsS, tIsC, tIsCT, tInBase, tGetBase, Loc.setAll, Loc.set, Loc.bare, bindV, String.reduceBEq, cond_true, cond_false, List.length_cons, List.length_nil]
    obtain ⟨c2, hc2, hm2⟩ := sign_at (x := Str.ofString " 0123456789") (hidx 11 (by decide)).1 (by rw [show ((Str.ofString " 0123456789").length : Int) = 11 from by decide +kernel]; exact (hidx 11 (by decide)).2)
    have hb2 : c2 < 128 := (asc_iff (x := Str.ofString " 0123456789")).mp (by decide +kernel) c2 hm2
    exact ⟨by decide, by decide, c2, hc2, k6 _ _ (rest _ c2 hb2 rfl rfl rfl rfl)⟩
end
section
open PySem PySem.W PyProof.Rows
variable {g : Gr} {P : Params}
theorem f_law10 (hK : (KK P).In g.b0) (N : NT g) (F_law_deed : FnG g "_law_deed" 5 sDeedL) (F_line_of : FnG g "line_of" 5 sLineOf) (F_law_right : FnG g "_law_right" 5 sRight) (F_law_cell_at : FnG g "_law_cell_at" 5 sCellAt) (F_law_bent : FnG g "_law_bent" 5 sBent) (F_law_mixed : FnG g "_law_mixed" 5 sMixed) (F_law_due : FnG g "_law_due" 5 sDueL) : SndC g 6 (.ref 203) sLaw10 := by
  refine SndC.mono (sndC_def (r := 5) (ps := ["_law_script"]) (hK 203 _ rfl) rfl (CodeRec.mk' (hK 202 _ rfl) rfl rfl) rfl (by intro vs h; obtain ⟨a0, rfl⟩ := len1 h; rfl) rfl rfl rfl (by decide +kernel)
    (sndSs_cons (sndS_assign (at_ (i := 1) rfl) rfl (sndE_call (at_ (i := 7) rfl) F_law_deed (sndL_cons (sndE_name (.head _) rfl) sndL_nil) rfl) (fun _ => rfl))
  (sndSs_cons (sndS_assign (at_ (i := 2) rfl) rfl (sndE_item (sndE_name (at_ (i := 1) rfl) rfl) sndE_int (fun _ _ => rfl)) (fun _ => rfl))
  (sndSs_cons (sndS_for (sndI_value (sndE_slice (sndE_name (at_ (i := 1) rfl) rfl) (sndO_some sndE_int) sndO_none)) (.name (at_ (i := 3) rfl) rfl) (sndSs_cons (sndS_assign (at_ (i := 2) rfl) rfl (sndE_bin (sndE_bin (sndE_name (at_ (i := 2) rfl) rfl) (sndE_str (fitsS (by decide)))) (sndE_call (at_ (i := 8) rfl) (fn_type N.n_str sndF_strI) (sndL_cons (sndE_name (at_ (i := 3) rfl) rfl) sndL_nil) rfl)) (fun _ => rfl))
  sndSs_nil) (fun _ _ => rfl))
  (sndSs_cons (sndS_assign (at_ (i := 4) rfl) rfl (sndE_call (at_ (i := 9) rfl) F_line_of (sndL_cons (sndE_name (at_ (i := 1) rfl) rfl) sndL_nil) rfl) (fun _ => rfl))
  (sndSs_cons (sndS_if (sndB_boolop (sndBs_or (sndB_not (sndB_value (sndE_isS (at_ (i := 10) rfl) (N.n_isinstance) (at_ (i := 8) rfl) (N.n_str) (sndE_name (at_ (i := 4) rfl) rfl) rfl) (fun _ _ => rfl))) (sndBs_or (sndB_cmp (sndE_name (at_ (i := 4) rfl) rfl) (sndE_name (at_ (i := 2) rfl) rfl) rfl) (sndBs_or (sndB_not (sndB_value (sndE_call (at_ (i := 11) rfl) F_law_right (sndL_cons (sndE_name (at_ (i := 2) rfl) rfl) (sndL_cons (sndE_name (at_ (i := 1) rfl) rfl) sndL_nil)) rfl) (fun _ _ => rfl))) sndBs_or_nil)))) (sndSs_cons (sndS_return sndE_bool)
  sndSs_nil) sndSs_nil)
  (sndSs_cons (sndS_assign (at_ (i := 5) rfl) rfl (sndE_item (sndE_list (sndL_cons sndE_none (sndL_cons sndE_int (sndL_cons sndE_bool (sndL_cons (sndE_list (sndL_cons (sndE_str (fitsS (by decide))) sndL_nil)) (sndL_cons (sndE_tuple (sndL_cons (sndE_str (fitsS (by decide))) (sndL_cons sndE_int sndL_nil))) (sndL_cons sndE_dict0 (sndL_cons sndE_int (sndL_cons (sndE_list (sndL_cons (sndE_name (at_ (i := 1) rfl) rfl) sndL_nil)) sndL_nil))))))))) (sndE_bin (sndE_call (at_ (i := 12) rfl) F_law_cell_at (sndL_cons (sndE_name (.head _) rfl) (sndL_cons sndE_int sndL_nil)) rfl) sndE_int) (fun _ _ => rfl)) (fun _ => rfl))
  (sndSs_cons (sndS_if (sndB_not (sndB_value (sndE_call (at_ (i := 11) rfl) F_law_right (sndL_cons (sndE_name (at_ (i := 5) rfl) rfl) (sndL_cons sndE_none sndL_nil)) rfl) (fun _ _ => rfl))) (sndSs_cons (sndS_return sndE_bool)
  sndSs_nil) sndSs_nil)
  (sndSs_cons (sndS_assign (at_ (i := 6) rfl) rfl (sndE_name (at_ (i := 2) rfl) rfl) (fun _ => rfl))
  (sndSs_cons (sndS_if (sndB_cmp (sndE_bin (sndE_call (at_ (i := 12) rfl) F_law_cell_at (sndL_cons (sndE_name (.head _) rfl) (sndL_cons sndE_int sndL_nil)) rfl) sndE_int) sndE_int rfl) (sndSs_cons (sndS_assign (at_ (i := 6) rfl) rfl (sndE_call (at_ (i := 13) rfl) F_law_bent (sndL_cons (sndE_name (at_ (i := 2) rfl) rfl) (sndL_cons (sndE_call (at_ (i := 14) rfl) F_law_mixed (sndL_cons (sndE_call (at_ (i := 12) rfl) F_law_cell_at (sndL_cons (sndE_name (.head _) rfl) (sndL_cons sndE_int sndL_nil)) rfl) (sndL_cons sndE_int sndL_nil)) rfl) sndL_nil)) rfl) (fun _ => rfl))
  sndSs_nil) sndSs_nil)
  (sndSs_cons (sndS_return (sndE_call (at_ (i := 11) rfl) F_law_right (sndL_cons (sndE_name (at_ (i := 6) rfl) rfl) (sndL_cons (sndE_call (at_ (i := 15) rfl) F_law_due (sndL_cons (sndE_name (at_ (i := 6) rfl) rfl) sndL_nil) rfl) sndL_nil)) rfl))
  sndSs_nil))))))))))) ?_
  rintro xs σ Q E ⟨ns, rfl, h⟩
  refine tFun_k rfl fun K KE kret _ _ => ?_
  simp only [Loc.setAll]
  refine tSeq_n fun K1 k1 => ?_
  dsimp only [tNop, tRet, tIfS, tAssign, tFor, tIter, walkV, tCall, tLenT, tList, tTuple, tNil, tCons, tConst, tName, tTruth, truthV, tNotB, tOrB, tConstB, tCmpB, cmpV, tCmpS, tCmpSB, cmpS, tBin, binV, tItem, tItemS, itemS, tSlice, sliceV, tSliceT, sliceT, boundV, tIterT, tRaise, tTryAs, tIsS, tIsC, tIsCT, tInBase, tGetBase, Loc.setAll, Loc.set, Loc.bare, bindV, String.reduceBEq, cond_true, cond_false, List.length_cons, List.length_nil, tDict0]
  refine ⟨ns, rfl, fun k ms hd => k1 _ _ ?_⟩
  have hk : AscB k ∧ k.length ≤ 4 ∧ ms.length ≤ 2 := by
    rcases hd.1 with ⟨rfl, e⟩ | ⟨rfl, e⟩
    · exact ⟨by decide +kernel, by decide +kernel, by omega⟩
    · exact ⟨by decide +kernel, by decide +kernel, by omega⟩
  have htx : AscB (textOf k ms) ∧ (textOf k ms).length ≤ 66 := by
    refine ⟨textOf_asc hk.1 fun n hn => (hd.2 n hn).1, ?_⟩
    have := textOf_len (k := k) hd.2
    omega
  refine tSeq_n fun K2 k2 => ?_
  dsimp only [tNop, tRet, tIfS, tAssign, tFor, tIter, walkV, tCall, tLenT, tList, tTuple, tNil, tCons, tConst, tName, tTruth, truthV, tNotB, tOrB, tConstB, tCmpB, cmpV, tCmpS, tCmpSB, cmpS, tBin, binV, tItem, tItemS, itemS, tSlice, sliceV, tSliceT, sliceT, boundV, tIterT, tRaise, tTryAs, tIsS, tIsC, tIsCT, tInBase, tGetBase, Loc.setAll, Loc.set, Loc.bare, bindV, String.reduceBEq, cond_true, cond_false, List.length_cons, List.length_nil, tDict0]
  refine itemT (atV_nat (i := 0) rfl) (k2 _ _ ?_)
  refine tSeq_n fun K3 k3 => ?_
  dsimp only [tNop, tRet, tIfS, tAssign, tFor, tIter, walkV, tCall, tLenT, tList, tTuple, tNil, tCons, tConst, tName, tTruth, truthV, tNotB, tOrB, tConstB, tCmpB, cmpV, tCmpS, tCmpSB, cmpS, tBin, binV, tItem, tItemS, itemS, tSlice, sliceV, tSliceT, sliceT, boundV, tIterT, tRaise, tTryAs, tIsS, tIsC, tIsCT, tInBase, tGetBase, Loc.setAll, Loc.set, Loc.bare, bindV, String.reduceBEq, cond_true, cond_false, List.length_cons, List.length_nil, tDict0]
  refine ⟨by simp [Nonneg], trivial, ?_⟩
  show (_ → _) ∧ loopT _ _ _ (ms.map V.int) _ _ _ _
  refine ⟨fun h => (nomatch h), ?_⟩
  refine loopT_k (fun xs ℓ σ' => ∃ as bs : List Int, ms = as ++ bs ∧ xs = bs.map V.int ∧ σ' = σ ∧ ℓ "_law_text" = some (.str (textOf k as)) ∧ ℓ "_law_deed_here" = some (deedV k ms) ∧ ℓ "_law_script" = some (.frz (ns.map V.int))) ?_ ?_
    ⟨[], ms, rfl, rfl, rfl, rfl, rfl, rfl⟩
  · rintro ℓ σ' ⟨as, bs, e0, e1, rfl, e2, e3, e4⟩
    cases map_nil_inv e1
    rw [List.append_nil] at e0
    subst e0
    refine ⟨trivial, k3 _ _ ?_⟩
    refine tSeq_n fun K4 k4 => ?_
    dsimp only [tNop, tRet, tIfS, tAssign, tFor, tIter, walkV, tCall, tLenT, tList, tTuple, tNil, tCons, tConst, tName, tTruth, truthV, tNotB, tOrB, tConstB, tCmpB, cmpV, tCmpS, tCmpSB, cmpS, tBin, binV, tItem, tItemS, itemS, tSlice, sliceV, tSliceT, sliceT, boundV, tIterT, tRaise, tTryAs, tIsS, tIsC, tIsCT, tInBase, tGetBase, Loc.setAll, Loc.set, Loc.bare, bindV, String.reduceBEq, cond_true, cond_false, List.length_cons, List.length_nil, tDict0]
    simp only [e3]
    refine ⟨k, ms, rfl, hd, k4 _ _ ?_⟩
    refine tSeq_n fun K5 k5 => ?_
    dsimp only [tNop, tRet, tIfS, tAssign, tFor, tIter, walkV, tCall, tLenT, tList, tTuple, tNil, tCons, tConst, tName, tTruth, truthV, tNotB, tOrB, tConstB, tCmpB, cmpV, tCmpS, tCmpSB, cmpS, tBin, binV, tItem, tItemS, itemS, tSlice, sliceV, tSliceT, sliceT, boundV, tIterT, tRaise, tTryAs, tIsS, tIsC, tIsCT, tInBase, tGetBase, Loc.setAll, Loc.set, Loc.bare, bindV, String.reduceBEq, cond_true, cond_false, List.length_cons, List.length_nil, tDict0]
    simp only [isiS, e2, e3, Bool.not_true]
    refine eqD_str (asc_strOk htx.1) (asc_strOk htx.1) ?_
    rw [beq_self_eq_true]
    simp only [Bool.not_true]
    refine RightI.deed (textOf k ms) k ms rfl htx.1 (by omega) hk.1 (due_text hd.1 hd.2) ?_
    dsimp only [Bool.not_true]
    refine k5 _ _ ?_
    refine tSeq_n fun K6 k6 => ?_
    dsimp only [tNop, tRet, tIfS, tAssign, tFor, tIter, walkV, tCall, tLenT, tList, tTuple, tNil, tCons, tConst, tName, tTruth, truthV, tNotB, tOrB, tConstB, tCmpB, cmpV, tCmpS, tCmpSB, cmpS, tBin, binV, tItem, tItemS, itemS, tSlice, sliceV, tSliceT, sliceT, boundV, tIterT, tRaise, tTryAs, tIsS, tIsC, tIsCT, tInBase, tGetBase, Loc.setAll, Loc.set, Loc.bare, bindV, String.reduceBEq, cond_true, cond_false, List.length_cons, List.length_nil, tDict0]
    refine ⟨by simp [Fits], fun a1 h1 => ⟨by simp [Fits], fun a2 ep h2 => ?_⟩⟩
    simp only [e3, e4]
    refine ⟨by simp [Fits], fun a3 h3 => ⟨by simp [Fits], fun a4 h4 => ⟨ns, 4, rfl, fun c => ⟨by decide, ?_⟩⟩⟩⟩
    have q0 := Int.fmod_nonneg_of_pos c (show (0 : Int) < 8 by decide)
    have q1 := Int.fmod_lt_of_pos c (show (0 : Int) < 8 by decide)
    obtain ⟨odd, hv, hm⟩ := atV_mem (xs := [V.none, V.int 5, V.bool true, V.ref a1, V.tup [V.str (Str.ofString "go"), V.int 1], V.ref a2, V.int 0, V.ref a3]) q0 (by simpa using q1)
    refine itemL AH.set_same hv (k6 _ _ ?_)
    have l1 := new_keeps (p := AO.list [V.none, V.int 5, V.bool true, V.ref a1, V.tup [V.str (Str.ofString "go"), V.int 1], V.ref a2, V.int 0, V.ref a3]) (new_keeps (p := AO.list [deedV k ms]) (new_keeps (p := AO.dictI [] ep) (AH.set_same (σ := σ') (a := a1) (o := AO.list [V.str (Str.ofString "go 1")])) h2) h3) h4
    have l2 := new_keeps (p := AO.list [V.none, V.int 5, V.bool true, V.ref a1, V.tup [V.str (Str.ofString "go"), V.int 1], V.ref a2, V.int 0, V.ref a3]) (new_keeps (p := AO.list [deedV k ms]) (AH.set_same (σ := σ'.set a1 (AO.list [V.str (Str.ofString "go 1")])) (a := a2) (o := AO.dictI [] ep)) h3) h4
    have l3 := new_keeps (p := AO.list [V.none, V.int 5, V.bool true, V.ref a1, V.tup [V.str (Str.ofString "go"), V.int 1], V.ref a2, V.int 0, V.ref a3]) (AH.set_same (σ := (σ'.set a1 (AO.list [V.str (Str.ofString "go 1")])).set a2 (AO.dictI [] ep)) (a := a3) (o := AO.list [deedV k ms])) h4
    have hnt : NoText odd ((((σ'.set a1 (AO.list [V.str (Str.ofString "go 1")])).set a2 (AO.dictI [] ep)).set a3 (AO.list [deedV k ms])).set a4 (AO.list [V.none, V.int 5, V.bool true, V.ref a1, V.tup [V.str (Str.ofString "go"), V.int 1], V.ref a2, V.int 0, V.ref a3])) := by
      unfold NoText
      simp only [List.mem_cons, List.not_mem_nil, or_false] at hm
      rcases hm with rfl | rfl | rfl | rfl | rfl | rfl | rfl | rfl
      · rfl
      · rfl
      · rfl
      · simp only [isiS, l1]
      · rfl
      · simp only [isiS, l2]
      · rfl
      · simp only [isiS, l3]
    generalize (((σ'.set a1 (AO.list [V.str (Str.ofString "go 1")])).set a2 (AO.dictI [] ep)).set a3 (AO.list [deedV k ms])).set a4 (AO.list [V.none, V.int 5, V.bool true, V.ref a1, V.tup [V.str (Str.ofString "go"), V.int 1], V.ref a2, V.int 0, V.ref a3]) = σ2 at hnt ⊢
    refine tSeq_n fun K7 k7 => ?_
    dsimp only [tNop, tRet, tIfS, tAssign, tFor, tIter, walkV, tCall, tLenT, tList, tTuple, tNil, tCons, tConst, tName, tTruth, truthV, tNotB, tOrB, tConstB, tCmpB, cmpV, tCmpS, tCmpSB, cmpS, tBin, binV, tItem, tItemS, itemS, tSlice, sliceV, tSliceT, sliceT, boundV, tIterT, tRaise, tTryAs, tIsS, tIsC, tIsCT, tInBase, tGetBase, Loc.setAll, Loc.set, Loc.bare, bindV, String.reduceBEq, cond_true, cond_false, List.length_cons, List.length_nil, tDict0]
    refine RightI.none odd rfl hnt ?_
    dsimp only [Bool.not_true]
    refine k7 _ _ ?_
    refine tSeq_n fun K8 k8 => ?_
    dsimp only [tNop, tRet, tIfS, tAssign, tFor, tIter, walkV, tCall, tLenT, tList, tTuple, tNil, tCons, tConst, tName, tTruth, truthV, tNotB, tOrB, tConstB, tCmpB, cmpV, tCmpS, tCmpSB, cmpS, tBin, binV, tItem, tItemS, itemS, tSlice, sliceV, tSliceT, sliceT, boundV, tIterT, tRaise, tTryAs, tIsS, tIsC, tIsCT, tInBase, tGetBase, Loc.setAll, Loc.set, Loc.bare, bindV, String.reduceBEq, cond_true, cond_false, List.length_cons, List.length_nil, tDict0]
    simp only [e2]
    refine k8 _ _ ?_
    refine tSeq_n fun K9 k9 => ?_
    have last : ∀ (ℓ : Loc) (u : Str), AscB u → u.length ≤ 1000 → ℓ "_law_bent_here" = some (.str u) → K9 .next ℓ σ2 := fun ℓ u hu hul e => k9 _ _ (by
      refine tSeq_e fun K10 r10 => ?_
      dsimp only [tNop, tRet, tIfS, tAssign, tFor, tIter, walkV, tCall, tLenT, tList, tTuple, tNil, tCons, tConst, tName, tTruth, truthV, tNotB, tOrB, tConstB, tCmpB, cmpV, tCmpS, tCmpSB, cmpS, tBin, binV, tItem, tItemS, itemS, tSlice, sliceV, tSliceT, sliceT, boundV, tIterT, tRaise, tTryAs, tIsS, tIsC, tIsCT, tInBase, tGetBase, Loc.setAll, Loc.set, Loc.bare, bindV, String.reduceBEq, cond_true, cond_false, List.length_cons, List.length_nil, tDict0]
      simp only [e]
      refine ⟨u, rfl, hu, hul, fun k' ns' hd' => ?_, fun hn => ?_⟩
      · exact RightI.deed u k' ns' rfl hu hul (due_asc hd') hd' (r10 _ _ _ (kret _ _ _ _ Sub.refl (h _)))
      · exact RightI.text u rfl hu hul hn (r10 _ _ _ (kret _ _ _ _ Sub.refl (h _))))
    dsimp only [tNop, tRet, tIfS, tAssign, tFor, tIter, walkV, tCall, tLenT, tList, tTuple, tNil, tCons, tConst, tName, tTruth, truthV, tNotB, tOrB, tConstB, tCmpB, cmpV, tCmpS, tCmpSB, cmpS, tBin, binV, tItem, tItemS, itemS, tSlice, sliceV, tSliceT, sliceT, boundV, tIterT, tRaise, tTryAs, tIsS, tIsC, tIsCT, tInBase, tGetBase, Loc.setAll, Loc.set, Loc.bare, bindV, String.reduceBEq, cond_true, cond_false, List.length_cons, List.length_nil, tDict0]
    simp only [e4]
    refine ⟨ns, 3, rfl, fun c => ⟨by decide, ?_⟩⟩
    cases hc : decide (0 < c.fmod 3) with
    | false => exact last _ _ htx.1 (by omega) rfl
    | true =>
      refine tSeq_n fun K11 k11 => ?_
      dsimp only [tNop, tRet, tIfS, tAssign, tFor, tIter, walkV, tCall, tLenT, tList, tTuple, tNil, tCons, tConst, tName, tTruth, truthV, tNotB, tOrB, tConstB, tCmpB, cmpV, tCmpS, tCmpSB, cmpS, tBin, binV, tItem, tItemS, itemS, tSlice, sliceV, tSliceT, sliceT, boundV, tIterT, tRaise, tTryAs, tIsS, tIsC, tIsCT, tInBase, tGetBase, Loc.setAll, Loc.set, Loc.bare, bindV, String.reduceBEq, cond_true, cond_false, List.length_cons, List.length_nil, tDict0]
      simp only [e2, e4]
      exact ⟨ns, 3, rfl, fun c' => ⟨c', 2, rfl, by decide, by decide, fun m hm0 => ⟨_, m, rfl, htx.1, by omega, hm0, fun u hu hul => k11 _ _ (last _ u hu hul rfl)⟩⟩⟩
  · rintro v vs ℓ σ' K4 k4 r4 ⟨as, bs, e0, e1, rfl, e2, e3, e4⟩
    obtain ⟨n, bs', rfl, rfl, rfl⟩ := map_cons_inv e1
    refine ⟨trivial, ?_⟩
    simp only [bindV]
    refine tSeq_n fun K5 k5 => ?_
    dsimp only [tNop, tRet, tIfS, tAssign, tFor, tIter, walkV, tCall, tLenT, tList, tTuple, tNil, tCons, tConst, tName, tTruth, truthV, tNotB, tOrB, tConstB, tCmpB, cmpV, tCmpS, tCmpSB, cmpS, tBin, binV, tItem, tItemS, itemS, tSlice, sliceV, tSliceT, sliceT, boundV, tIterT, tRaise, tTryAs, tIsS, tIsC, tIsCT, tInBase, tGetBase, Loc.setAll, Loc.set, Loc.bare, bindV, String.reduceBEq, cond_true, cond_false, List.length_cons, List.length_nil, tDict0]
    simp only [e2]
    have hn := hd.2 n (by rw [e0]; simp)
    have hl : (textOf k as).length ≤ 66 := by
      have := textOf_len (k := k) (ns := as) fun m hm => hd.2 m (by rw [e0]; simp [hm])
      have h2 := hk.2.2
      rw [e0] at h2
      simp at h2
      omega
    have hnl := numS_len hn.1 hn.2
    have h1s : (Str.ofString " ").length = 1 := by decide +kernel
    refine ⟨by simp only [Fits]; omega, n, rfl, hn.1, hn.2, by simp only [Fits, Str.length_append]; omega, k5 _ _ (k4 _ _ ⟨as ++ [n], bs', by rw [e0]; simp, rfl, rfl, ?_, e3, e4⟩)⟩
    show some (V.str (textOf k as ++ Str.ofString " " ++ numS n)) = _
    rw [sp_eq]
    unfold textOf
    rw [List.foldl_append]; rfl
end
section
open PySem PySem.W PyProof.Rows
theorem ns_at {h : Heap} {mg : Str → Option Value} {o : Obj} {es : Array DictEntry} {ep : Nat} {n : Str} {v : Value} (hN : h.Ns mainGlobals mg) (h3 : h.get? mainGlobals = some o) (hd : o.data = .dict es ep) (e : nsFind es n = some v) : mg n = some v := by
  obtain ⟨o', es', ep', ho, hd', hk, hf⟩ := id hN
  rw [h3] at ho; cases ho
  rw [hd] at hd'; cases hd'
  exact (hf _).symm.trans e
theorem fa_of {mg : Str → Option Value} {n : Str} {a b : Addr} (e : mg n = some (.ref a)) (h : mg n = some (.ref b)) : b = a := (Value.ref.inj (Option.some.inj (e.symm.trans h))).symm
theorem vr_script {g : Gr} {h : Heap} {l : Addr} {vs : List Value} {ns : List Int} (hL : g.b0.IsList l vs.toArray) (hI : IntsAre vs ns) (hn : ns.length ≤ 1000) : VRs g h [V.frz (ns.map V.int)] [.ref l] := by
  obtain ⟨o, ho, hc, n, hd⟩ := hL
  refine VRs_cons (VR_frz.mpr ⟨by simp [Fits]; omega, l, o, vs.toArray, n, rfl, ho, hc, hd, ?_⟩) VRs_nil
  clear ho hc hd hn
  show VRs g h _ vs
  induction hI with
  | nil => exact VRs_nil
  | cons n t _ ih => exact VRs_cons (VR_int.mpr ⟨t, rfl⟩) ih
theorem caller_room : Room callerA 6 true := ⟨by decide, by decide, fun _ => rfl⟩
theorem names_of {g : Gr} {P : Params} {mg mb : Str → Option Value} (hK : (KK P).In g.b0) (hN : g.b0.Ns mainGlobals mg) (hB : g.b0.Ns builtinsNs mb) (hb : ∀ x : Str, x ≠ "__name__" → mb x = bootBuiltins x) : NT g := by
  have h3 := hK mainGlobals _ rfl
  exact ⟨bui_of hN h3 rfl (by kernel_rfl) hB hb (by decide) (by kernel_rfl), bui_of hN h3 rfl (by kernel_rfl) hB hb (by decide) (by kernel_rfl), bui_of hN h3 rfl (by kernel_rfl) hB hb (by decide) (by kernel_rfl), bui_of hN h3 rfl (by kernel_rfl) hB hb (by decide) (by kernel_rfl), bui_of hN h3 rfl (by kernel_rfl) hB hb (by decide) (by kernel_rfl), bui_of hN h3 rfl (by kernel_rfl) hB hb (by decide) (by kernel_rfl), bui_of hN h3 rfl (by kernel_rfl) hB hb (by decide) (by kernel_rfl), bui_of hN h3 rfl (by kernel_rfl) hB hb (by decide) (by kernel_rfl), bui_of hN h3 rfl (by kernel_rfl) hB hb (by decide) (by kernel_rfl), glo_of hN h3 rfl (by kernel_rfl), glo_of hN h3 rfl (by kernel_rfl), glo_of hN h3 rfl (by kernel_rfl), glo_of hN h3 rfl (by kernel_rfl), glo_of hN h3 rfl (by kernel_rfl), glo_of hN h3 rfl (by kernel_rfl), glo_of hN h3 rfl (by kernel_rfl), glo_of hN h3 rfl (by kernel_rfl), glo_of hN h3 rfl (by kernel_rfl), glo_of hN h3 rfl (by kernel_rfl), glo_of hN h3 rfl (by kernel_rfl), glo_of hN h3 rfl (by kernel_rfl)⟩
variable {g : Gr} {P : Params}
theorem exc_of (hK : (KK P).In g.b0) : ExcC g CB :=
  ⟨_, _, _, _, _, _, _, _, _, _, _, _, _, _, _, _, _, hK CB _ rfl, .of_isNs (isNs_of_in hK (by kernel_rfl)), nsMap_none_of_in hK (by kernel_rfl) (by kernel_rfl),
    .own (hK 24 _ rfl) (.of_isNs (isNs_of_in hK (by kernel_rfl))) (nsMap_none_of_in hK (by kernel_rfl) (by kernel_rfl)) .base⟩
theorem exck : ExcK (KK P) CB := ⟨by kernel_rfl, by kernel_rfl, by kernel_rfl, by kernel_rfl, by kernel_rfl, by kernel_rfl⟩
theorem sizes_of (hK : (KK g.w.params).In g.b0) : SizesAt g 124 := by
  refine ⟨342, 344, ⟨_, _, _, hK 124 _ rfl, ⟨rfl, rfl, rfl⟩, rfl, fun e he => ?_, fun x => ?_⟩, by decide +kernel⟩
  · simp only [List.mem_toArray, List.mem_cons, List.not_mem_nil, or_false] at he
    rcases he with rfl | rfl
    · exact ⟨comeS', rfl, rfl⟩
    · exact ⟨goS', rfl, rfl⟩
  · show (Array.find? (fun e : DictEntry => Value.isStrOf x e.key) #[_, _]).map (fun e : DictEntry => e.val) = _
    by_cases h1 : x = comeS'
    · subst h1; rfl
    · have e1 : (comeS' == x) = false := beq_eq_false_iff_ne.mpr (Ne.symm h1)
      by_cases h2 : x = goS'
      · subst h2; rfl
      · have e2 : (goS' == x) = false := beq_eq_false_iff_ne.mpr (Ne.symm h2)
        dsimp only; rw [if_neg h1, if_neg h2]
        have q1 : Value.isStrOf x (.str (Str.ofString "come") 341) = false := e1
        have q2 : Value.isStrOf x (.str (Str.ofString "go") 343) = false := e2
        simp [q1, q2]
theorem law_runs (hK : (KK P).In g.b0) (N : NT g) (hZ : SizesAt g 124) (Kn : ∀ {n : String} {v : Value} {o : Obj} {es : Array DictEntry} {ep : Nat}, g.b0.get? mainGlobals = some o → o.data = .dict es ep → nsFind es (Str.ofString n) = some v → Known g n v) : SndC g 6 (.ref 203) sLaw10 := by
  have h3 := hK mainGlobals _ rfl
  have hX := exc_of hK
  have F_num : FnG g "number_of" 2 (sNumberOf CB) := fn_def (Kn h3 rfl (by kernel_rfl)) (hK 134 _ rfl) rfl (f_number_of hK N hX).toF
  have F_numL : FnG g "_law_number" 2 sNumberL := fn_def (Kn h3 rfl (by kernel_rfl)) (hK 179 _ rfl) rfl (f_numberL hK N).toF
  have F_deedof : FnG g "deed_of" 3 (sDeedOf CB) := fn_def (Kn h3 rfl (by kernel_rfl)) (hK 139 _ rfl) rfl (f_deed_of hK N hX hZ F_num).toF
  have F_due : FnG g "_law_due" 3 sDueL := fn_def (Kn h3 rfl (by kernel_rfl)) (hK 184 _ rfl) rfl (f_dueL hK N F_numL).toF
  have F_read : FnG g "_law_read" 4 sRead := fn_def (Kn h3 rfl (by kernel_rfl)) (hK 191 _ rfl) rfl (f_read hK N exck (fun C e => by subst e; kernel_rfl) F_deedof).toF
  have F_whole : FnG g "_law_whole" 2 sWhole10 := fn_def (Kn h3 rfl (by kernel_rfl)) (hK 160 _ rfl) rfl (f_whole10 hK N).toF
  have F_right : FnG g "_law_right" 5 sRight := fn_def (Kn h3 rfl (by kernel_rfl)) (hK 196 _ rfl) rfl (f_right hK N F_read (F_whole.le (by decide))).toF
  have F_cell : FnG g "_law_cell_at" 2 sCellAt := fn_def (Kn h3 rfl (by kernel_rfl)) (hK 146 _ rfl) rfl (f_cell_at hK N).toF
  have F_mix : FnG g "_law_mixed" 2 sMixed := fn_def (Kn h3 rfl (by kernel_rfl)) (hK 153 _ rfl) rfl (f_mixed hK N).toF
  have F_line : FnG g "line_of" 2 sLineOf := fn_def (Kn h3 rfl (by kernel_rfl)) (hK 129 _ rfl) rfl (f_line_of hK N).toF
  have F_deed : FnG g "_law_deed" 3 sDeedL := fn_def (Kn h3 rfl (by kernel_rfl)) (hK 167 _ rfl) rfl (f_deedL hK N F_cell).toF
  have F_bent : FnG g "_law_bent" 2 sBent := fn_def (Kn h3 rfl (by kernel_rfl)) (hK 174 _ rfl) rfl (f_bent hK N).toF
  exact f_law10 hK N (F_deed.le (by decide)) (F_line.le (by decide)) F_right (F_cell.le (by decide)) (F_bent.le (by decide)) (F_mix.le (by decide)) (F_due.le (by decide))
end
end Mine
open PySem PySem.W PyProof.Rows Mine
theorem PySem.Challenge.cw_uf040033_10_holds : PySem.Challenge.rw_uf040033_10.Holds := by
  refine Mine.hd ?_
  k_fill
  intro w s₀ s₁ mg mb G Y fa o pm cd doc dV kV ho hd hcd hD hmg hg args vals as hpre hlay hrd hwl hlo
  have KX := kIn_of Y
  refine Ground.open G ?_
  intro T B D TE TW
  try (refine guard_noD D (by decide +kernel) ?_; clear D)
  wrow_args hpre hlay hrd hwl hlo
  first | refine callC_kw (enter_call ?_) | refine enter_call ?_ | refine callC_kw (enter_callW ?_) | refine enter_callW ?_
  w_top on
  try refine codeAny_mono ?_ (fun _ _ g => GoodW.toG g)
  rename_i ns hs hlay0 hL1 hr1 hl2 as1 as2 l vs as3 hL ra w1 r0 hI hr hc1 hc2
  have hlen : ns.length ≤ 63 := by omega
  let g : Gr := ⟨PySem.Challenge.rw_uf040033_10.row.prog, w, s₁.heap, fun _ => False⟩
  have hK : (KK w.params).In g.b0 := KX
  have h3 := hK mainGlobals _ rfl
  obtain rfl : fa = 203 := fa_of (ns_at (n := Str.ofString "law") (v := .ref 203) T.g h3 rfl (by kernel_rfl)) hmg
  have N : NT g := names_of hK T.g T.b T.builtins
  have L := law_runs hK N (sizes_of (g := g) hK) fun h hd e => glo_of T.g h hd e
  have Gk : GOk g := ⟨T.nolimit, T.seer (by decide +kernel), rfl⟩
  have R0 : Rel g s₁.heap (fun _ => none) := ⟨fun _ h => h.elim, fun _ _ h => h, fun _ _ h => nomatch h⟩
  refine codeAny_mono (L.run callerA s₁ (fun _ => none) [.frz (ns.map V.int)] [.ref l] (fun v _ => v = .bool true) (fun _ _ => False) Gk ⟨[], rfl, trivial, fun _ h => nomatch h⟩ caller_room R0 (vr_script hL hI (by omega)) ⟨ns, rfl, fun _ => rfl⟩) fun r s' p => ?_
  match r, p with
  | .ok (.ret v), p =>
    obtain ⟨x, σ', hv, hR, hx, hsm, rfl⟩ := p
    rw [VR_bool.mp hv]
    exact ⟨.inl ⟨.bool true, .bool true, [], rfl, fun _ => rfl, .bool true, (by wrow_post), fun _ => ⟨List.nodup_nil, fun _ h => nomatch h⟩⟩, hR.base, hsm.2.1, hsm.1.trans hg⟩
  | .error e, p => obtain ⟨_, _, _, _, _, _, h⟩ := p; exact h.elim
