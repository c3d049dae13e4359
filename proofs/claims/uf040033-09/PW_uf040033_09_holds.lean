import PyProof.Rows.All
import Wide.All
import OpenK.AllK
import Open.Boot
import PyProof.DictRoads
import PyProof.DictRoadsH
import PyProof.DictIter
import PyProof.CompFree
import PyProof.ForAny
import PyProof.DefCall
import PyProof.RaisesMany
import PyProof.Rules3
import PyProof.Ns1
import PyProof.Cells
import PyProof.NoPylong
import PyProof.Rows.TupAssign
import PyProof.WalksPairs
import PyProof.WalksMore
import PyProof.EnumStmt
import PyProof.DictWalks
import PyProof.RangeIter
import PyProof.PlainList
import PyProof.CompMap
import PyProof.CompUse
import PyProof.MinMaxWalk
import PyProof.WalkInts
import PyProof.IsiPairs
import PyProof.CallRoads
import PyProof.ListCopy
import PyProof.RangeFor
import PyProof.IsiHeapPairs
import PyProof.AssignAttr
import PyProof.ListIndex
import PyProof.MeetsDict
import PyProof.DictValues
import PyProof.ListRange
import PyProof.ListMulAny
import PyProof.ListMulRoad
import PyProof.Rows.ListMulArg
import PyProof.Rows.SetFrom
import PyProof.DictDisplay
import PyProof.MeetsDictList
import KE.KDictSum
import KE.KDictOf
import PyProof.RulesAs
import PyProof.ExcClass3
import PyProof.ExcBaseAll.ValueError
import KE.KTryMore
import KE.KIsAll
import PyProof.SetScanFacts
import PyProof.SetKind
import PyProof.DictKinds
import PyProof.FactsAll.set_1
import PyProof.ZipIter
import PyProof.AttrMissHeap
import PyProof.FactsAll.enumerate
import KE.KEqDict
import PyProof.Conv_int_bool
import PyProof.ConsumeWalk
import PySem.Challenge.RW_uf040033_09
set_option Elab.async false
set_option linter.all false
set_option maxRecDepth 100000
set_option maxHeartbeats 8000000
set_option genSizeOf false
set_option genInjectivity false
set_option backward.eqns.nonrecursive false
namespace Mine
section
open PySem
inductive V where
  | none
  | bool (b : Bool)
  | int (i : Int)
  | str (x : Str)
  | ref (a : Addr)
  | tup (xs : List V)
  | frz (xs : List V)
inductive AO where
  | list (xs : List V)
  | dictI (kvs : List (Int × V)) (ep : Nat)
  | dictS (kvs : List (Str × V)) (ep : Nat)
  | dictT (kvs : List (List Int × V)) (ep : Nat)
  | inst (C d : Addr)
  | attrs (kvs : List (Str × V))
  | exc (C : Addr)
noncomputable abbrev AH := Addr → Option AO
noncomputable abbrev Loc := String → Option V
noncomputable def AH.set (σ : AH) (a : Addr) (o : AO) : AH := fun b => if b = a then some o else σ b
noncomputable def Loc.set (ℓ : Loc) (i : String) (v : V) : Loc := fun j => cond (j == i) (some v) (ℓ j)
theorem Loc.set_at {ℓ : Loc} {i j : String} {v : V} : (ℓ.set i v) j = if j = i then some v else ℓ j := by
  unfold Loc.set
  by_cases h : j = i
  · rw [if_pos h, beq_iff_eq.mpr h]; rfl
  · rw [if_neg h, beq_eq_false_iff_ne.mpr h]; rfl
structure Gr where
  prog : Program
  w : World
  b0 : Heap
  /-- tuples that the interpreter keeps to itself: no value is one of them -/
  hid : Addr → Prop
noncomputable def Gr.wh (g : Gr) (H : Addr → Prop) : Gr := { g with hid := H }
noncomputable def Ym (n : Nat) : Prop := n ≤ 1000000
theorem Ym.line {n : Nat} (h : Ym n) : n ≤ sizeLine := by unfold Ym at h; have : sizeLine = 16777216 := rfl; omega
theorem Ym.le {n m : Nat} (h : Ym n) (k : m ≤ n) : Ym m := Nat.le_trans k h
theorem Ym.fit {n : Nat} (h : Ym n) : (n : Int) < 2 ^ 63 := by unfold Ym at h; omega
mutual
noncomputable def VR (g : Gr) (h : Heap) : V → Value → Prop
  | .none, v => v = .none
  | .bool b, v => v = .bool b
  | .int i, v => ∃ t, v = .int i t
  | .str x, v => Ym x.length ∧ ∃ t, v = .str x t
  | .ref a, v => v = .ref a
  | .tup xs, v => Ym xs.length ∧ ∃ a o vs n, v = .ref a ∧ ¬ g.hid a ∧ h.get? a = some o ∧ o.cls = .type "tuple" ∧ o.data = .seq vs n ∧ VRs g h xs vs.toList
  | .frz xs, v => Ym xs.length ∧ ∃ a o vs n, v = .ref a ∧ g.b0.get? a = some o ∧ o.cls = .type "list" ∧ o.data = .seq vs n ∧ VRs g h xs vs.toList
noncomputable def VRs (g : Gr) (h : Heap) : List V → List Value → Prop
  | [], vs => vs = []
  | x :: xs, vs => ∃ v r, vs = v :: r ∧ VR g h x v ∧ VRs g h xs r
end
section
variable {g : Gr} {h h' : Heap}
theorem Wj {v : Value} : VR g h .none v ↔ v = .none := by unfold VR; exact Iff.rfl
theorem Wk {b : Bool} {v : Value} : VR g h (.bool b) v ↔ v = .bool b := by unfold VR; exact Iff.rfl
theorem Yl {i : Int} {v : Value} : VR g h (.int i) v ↔ ∃ t, v = .int i t := by unfold VR; exact Iff.rfl
theorem Xp {x : Str} {v : Value} : VR g h (.str x) v ↔ Ym x.length ∧ ∃ t, v = .str x t := by unfold VR; exact Iff.rfl
theorem Yt {a : Addr} {v : Value} : VR g h (.ref a) v ↔ v = .ref a := by unfold VR; exact Iff.rfl
inductive TupAt (g : Gr) (h : Heap) (xs : List V) (v : Value) : Prop
  | mk (hf : Ym xs.length) (a : Addr) (o : Obj) (vs : Array Value) (n : Nat) (e : v = .ref a) (nh : ¬ g.hid a) (ho : h.get? a = some o) (hc : o.cls = .type "tuple") (hd : o.data = .seq vs n) (r : VRs g h xs vs.toList) : TupAt g h xs v
inductive FrzAt (g : Gr) (h : Heap) (xs : List V) (v : Value) : Prop
  | mk (hf : Ym xs.length) (a : Addr) (o : Obj) (vs : Array Value) (n : Nat) (e : v = .ref a) (ho : g.b0.get? a = some o) (hc : o.cls = .type "list") (hd : o.data = .seq vs n) (r : VRs g h xs vs.toList) : FrzAt g h xs v
inductive ConsAt (g : Gr) (h : Heap) (x : V) (xs : List V) (vs : List Value) : Prop
  | mk (v : Value) (r : List Value) (e : vs = v :: r) (a : VR g h x v) (b : VRs g h xs r) : ConsAt g h x xs vs
theorem Wd {xs : List V} {v : Value} : VR g h (.tup xs) v ↔ TupAt g h xs v := by
  rw [VR]; exact ⟨fun ⟨a, b, c, d, e, f, g, h, i, j, k⟩ => ⟨a, b, c, d, e, f, g, h, i, j, k⟩, fun ⟨a, b, c, d, e, f, g, h, i, j, k⟩ => ⟨a, b, c, d, e, f, g, h, i, j, k⟩⟩
theorem VR_frz {xs : List V} {v : Value} : VR g h (.frz xs) v ↔ FrzAt g h xs v := by
  rw [VR]; exact ⟨fun ⟨a, b, c, d, e, f, g, h, i, j⟩ => ⟨a, b, c, d, e, f, g, h, i, j⟩, fun ⟨a, b, c, d, e, f, g, h, i, j⟩ => ⟨a, b, c, d, e, f, g, h, i, j⟩⟩
theorem Xs : VRs g h [] [] := by unfold VRs; rfl
theorem Y4 {x : V} {xs : List V} {v : Value} {vs : List Value} (a : VR g h x v) (b : VRs g h xs vs) : VRs g h (x :: xs) (v :: vs) := by
  unfold VRs; exact ⟨v, vs, rfl, a, b⟩
theorem Zv {x : V} {xs : List V} {vs : List Value} (a : VRs g h (x :: xs) vs) : ConsAt g h x xs vs := by
  unfold VRs at a; exact let ⟨v, r, e, a, b⟩ := a; ⟨v, r, e, a, b⟩
theorem Yr {vs : List Value} (a : VRs g h [] vs) : vs = [] := by
  unfold VRs at a; exact a
theorem Yb : ∀ {xs : List V} {vs : List Value}, VRs g h xs vs → xs.length = vs.length
  | [], vs, a => by rw [Yr a]; rfl
  | x :: xs, vs, a => by obtain ⟨v, r, rfl, _, b⟩ := Zv a; simp [Yb b]
theorem VRs_get : ∀ {xs : List V} {vs : List Value}, VRs g h xs vs → ∀ {i : Nat} {x : V}, xs[i]? = some x → ∃ v, vs[i]? = some v ∧ VR g h x v
  | [], vs, a, i, x, e => by simp at e
  | y :: xs, vs, a, i, x, e => by
    obtain ⟨v, r, rfl, hv, b⟩ := Zv a
    cases i with
    | zero => simp at e; subst e; exact ⟨v, by simp, hv⟩
    | succ i => simp at e; obtain ⟨w, h1, h2⟩ := VRs_get b e; exact ⟨w, by simpa using h1, h2⟩
theorem VRs_append : ∀ {xs ys : List V} {vs us : List Value}, VRs g h xs vs → VRs g h ys us → VRs g h (xs ++ ys) (vs ++ us)
  | [], ys, vs, us, a, b => by rw [Yr a]; exact b
  | x :: xs, ys, vs, us, a, b => by obtain ⟨v, r, rfl, hv, c⟩ := Zv a; exact Y4 hv (VRs_append c b)
theorem VRs_snoc {xs : List V} {x : V} {vs : List Value} {v : Value} (a : VRs g h xs vs) (b : VR g h x v) : VRs g h (xs ++ [x]) (vs ++ [v]) :=
  VRs_append a (Y4 b Xs)
theorem VRs_drop : ∀ {xs : List V} {vs : List Value} (n : Nat), VRs g h xs vs → VRs g h (xs.drop n) (vs.drop n)
  | xs, vs, 0, a => a
  | [], vs, n + 1, a => by rw [Yr a]; exact Xs
  | x :: xs, vs, n + 1, a => by obtain ⟨v, r, rfl, hv, b⟩ := Zv a; exact VRs_drop n b
theorem VRs_take : ∀ {xs : List V} {vs : List Value} (n : Nat), VRs g h xs vs → VRs g h (xs.take n) (vs.take n)
  | xs, vs, 0, a => Xs
  | [], vs, n + 1, a => by rw [Yr a]; exact Xs
  | x :: xs, vs, n + 1, a => by obtain ⟨v, r, rfl, hv, b⟩ := Zv a; exact Y4 hv (VRs_take n b)
end
noncomputable def UpTo (h' : Heap) (a : Addr) (o : Obj) : Prop := h'.get? a = some o ∨ ∃ es n sl, o.data = .dict es n ∧ h'.get? a = some { o with slots := sl }
theorem UpTo.of {h' : Heap} {a : Addr} {o : Obj} (e : h'.get? a = some o) : UpTo h' a o := .inl e
theorem UpTo.sl {h' : Heap} {a : Addr} {o : Obj} (x : UpTo h' a o) : ∃ sl, h'.get? a = some { o with slots := sl } := by
  rcases x with e | ⟨_, _, sl, _, e⟩
  · exact ⟨o.slots, e⟩
  · exact ⟨sl, e⟩
theorem UpTo.exact {h' : Heap} {a : Addr} {o : Obj} (x : UpTo h' a o) (hd : ∀ es n, o.data ≠ .dict es n) : h'.get? a = some o := by
  rcases x with e | ⟨es, n, _, e, _⟩
  · exact e
  · exact absurd e (hd es n)
theorem UpTo.then {h' h'' : Heap} {a : Addr} {o : Obj} (x : UpTo h' a o) (k : ∀ o', h'.get? a = some o' → UpTo h'' a o') : UpTo h'' a o := by
  rcases x with e | ⟨es, n, sl, d, e⟩
  · exact k o e
  · obtain ⟨sl', e'⟩ := (k _ e).sl
    exact .inr ⟨es, n, sl', d, e'⟩
noncomputable def Y8 (g : Gr) (h h' : Heap) : Prop := ∀ a o vs n, ¬ g.hid a → h.get? a = some o → o.cls = .type "tuple" → o.data = .seq vs n → UpTo h' a o
mutual
theorem VR.mono {g : Gr} {h h' : Heap} (k : Y8 g h h') : ∀ {x : V} {v : Value}, VR g h x v → VR g h' x v
  | .none, v, a => by rw [Wj] at a ⊢; exact a
  | .bool b, v, a => by rw [Wk] at a ⊢; exact a
  | .int i, v, a => by rw [Yl] at a ⊢; exact a
  | .str x, v, a => by rw [Xp] at a ⊢; exact a
  | .ref b, v, a => by rw [Yt] at a ⊢; exact a
  | .tup xs, v, a => by
    rw [Wd] at a ⊢
    obtain ⟨hf, b, o, vs, n, e, nh, ho, hc, hd, r⟩ := a
    have ho' := (k _ _ _ _ nh ho hc hd).exact (by rw [hd]; intros; exact Data.noConfusion)
    exact ⟨hf, b, _, vs, n, e, nh, ho', hc, hd, VRs.mono k r⟩
  | .frz xs, v, a => by
    rw [VR_frz] at a ⊢
    obtain ⟨hf, b, o, vs, n, e, ho, hc, hd, r⟩ := a
    exact ⟨hf, b, o, vs, n, e, ho, hc, hd, VRs.mono k r⟩
theorem VRs.mono {g : Gr} {h h' : Heap} (k : Y8 g h h') : ∀ {xs : List V} {vs : List Value}, VRs g h xs vs → VRs g h' xs vs
  | [], vs, a => by rw [Yr a]; exact Xs
  | x :: xs, vs, a => by
    obtain ⟨v, r, rfl, hv, c⟩ := Zv a
    exact Y4 (VR.mono k hv) (VRs.mono k c)
end
noncomputable def DictAtT (g : Gr) (h : Heap) (d : Addr) (xs : List (List Int × Addr × Value)) (ep : Nat) : Prop :=
  ∃ o es, h.get? d = some o ∧ o.ExactDict ∧ o.data = .dict es ep ∧ es.toList = xs.map (entryOfKey (tupleKind (intKind g.prog g.w))) ∧ (∀ x ∈ xs, ¬ g.hid x.2.1 ∧ IsTupleKey (intKind g.prog g.w) h x.1 x.2.1) ∧ (xs.map (·.1)).Nodup
inductive ListAt (g : Gr) (h : Heap) (a : Addr) (xs : List V) : Prop
  | mk (hf : Ym xs.length) (vs : Array Value) (n : Nat) (e : h.get? a = some { cls := .type "list", data := .seq vs n }) (r : VRs g h xs vs.toList) : ListAt g h a xs
inductive DictIAt (g : Gr) (h : Heap) (a : Addr) (kvs : List (Int × V)) (ep : Nat) : Prop
  | mk (hf : Ym kvs.length) (us : List (Int × Value)) (e : h.DictAt (intKind g.prog g.w) a us ep) (k : us.map (·.1) = kvs.map (·.1)) (r : VRs g h (kvs.map (·.2)) (us.map (·.2))) : DictIAt g h a kvs ep
inductive DictSAt (g : Gr) (h : Heap) (a : Addr) (kvs : List (Str × V)) (ep : Nat) : Prop
  | mk (hf : Ym kvs.length) (us : List (Str × Value)) (e : h.DictAt (strKind g.prog g.w) a us ep) (k : us.map (·.1) = kvs.map (·.1)) (r : VRs g h (kvs.map (·.2)) (us.map (·.2))) : DictSAt g h a kvs ep
inductive DictTAt (g : Gr) (h : Heap) (a : Addr) (kvs : List (List Int × V)) (ep : Nat) : Prop
  | mk (hf : Ym kvs.length) (us : List (List Int × Addr × Value)) (e : DictAtT g h a us ep) (k : us.map (·.1) = kvs.map (·.1)) (r : VRs g h (kvs.map (·.2)) (us.map (·.2.2))) : DictTAt g h a kvs ep
inductive ExcObj (h : Heap) (a C : Addr) : Prop
  | mk (o : Obj) (vs : Array Value) (e : h.get? a = some o) (c : o.cls = .ref C) (n : o.dict = none) (d : o.data = .fields vs) : ExcObj h a C
noncomputable def OR (g : Gr) (h : Heap) (a : Addr) : AO → Prop
  | .list xs => ListAt g h a xs
  | .dictI kvs ep => DictIAt g h a kvs ep
  | .dictS kvs ep => DictSAt g h a kvs ep
  | .dictT kvs ep => DictTAt g h a kvs ep
  | .inst C d => h.get? a = some { cls := .ref C, dict := some d, data := .plain }
  | .attrs kvs => Ym kvs.length ∧ ∃ m, h.Ns1 a m ∧ ∀ x, (∀ v, kvs.lookup x = some v → ∃ u, m x = some u ∧ VR g h v u) ∧ (kvs.lookup x = none → m x = none)
  | .exc C => ExcObj h a C
theorem OR_some {g : Gr} {h : Heap} {a : Addr} {ao : AO} (x : OR g h a ao) : ∃ o, h.get? a = some o ∧ ∀ vs n, o.cls = .type "tuple" → o.data ≠ .seq vs n := by
  cases ao with
  | list xs => obtain ⟨_, vs, n, e, _⟩ := x; exact ⟨_, e, fun _ _ q => absurd q (by simp)⟩
  | dictI kvs ep => obtain ⟨_, us, ⟨o, es, ho, hc, _⟩, _⟩ := x; exact ⟨o, ho, fun _ _ q => absurd q (by rw [hc.1]; decide)⟩
  | dictS kvs ep => obtain ⟨_, us, ⟨o, es, ho, hc, _⟩, _⟩ := x; exact ⟨o, ho, fun _ _ q => absurd q (by rw [hc.1]; decide)⟩
  | dictT kvs ep => obtain ⟨_, us, ⟨o, es, ho, hc, _⟩, _⟩ := x; exact ⟨o, ho, fun _ _ q => absurd q (by rw [hc.1]; decide)⟩
  | inst C d => exact ⟨_, x, fun _ _ q => absurd q (by simp)⟩
  | attrs kvs => obtain ⟨_, m, ⟨o, es, ep, e, hd, _⟩, _⟩ := x; exact ⟨o, e, fun _ _ _ q => by rw [hd] at q; cases q⟩
  | exc C => obtain ⟨o, vs, e, c, n, d⟩ := x; exact ⟨o, e, fun _ _ _ q => by rw [d] at q; cases q⟩
theorem tupleKey_mono {g : Gr} {h h' : Heap} (k : Y8 g h h') {ks : List Int} {a : Addr} (nh : ¬ g.hid a) (x : IsTupleKey (intKind g.prog g.w) h ks a) : IsTupleKey (intKind g.prog g.w) h' ks a := by
  obtain ⟨o, items, n, ho, hc, hd, hi⟩ := x
  have ho' := (k _ _ _ _ nh ho hc hd).exact (by rw [hd]; intros; exact Data.noConfusion)
  exact ⟨_, items, n, ho', hc, hd, hi⟩
theorem OR_mono {g : Gr} {h h' : Heap} {a : Addr} {ao : AO} (k : Y8 g h h') (e : ∀ o, h.get? a = some o → h'.get? a = some o) (x : OR g h a ao) : OR g h' a ao := by
  cases ao with
  | list xs => obtain ⟨hf, vs, n, ho, r⟩ := x; exact ⟨hf, vs, n, e _ ho, VRs.mono k r⟩
  | dictI kvs ep => obtain ⟨hf, us, ⟨o, es, ho, r⟩, q, p⟩ := x; exact ⟨hf, us, ⟨o, es, e _ ho, r⟩, q, VRs.mono k p⟩
  | dictS kvs ep => obtain ⟨hf, us, ⟨o, es, ho, r⟩, q, p⟩ := x; exact ⟨hf, us, ⟨o, es, e _ ho, r⟩, q, VRs.mono k p⟩
  | dictT kvs ep => obtain ⟨hf, us, ⟨o, es, ho, h1, h2, h3, h4, h5⟩, q, p⟩ := x; exact ⟨hf, us, ⟨o, es, e _ ho, h1, h2, h3, fun y hy => ⟨(h4 y hy).1, tupleKey_mono k (h4 y hy).1 (h4 y hy).2⟩, h5⟩, q, VRs.mono k p⟩
  | inst C d => exact e _ x
  | attrs kvs => obtain ⟨hf, m, ⟨o, es, ep, ho, hr⟩, r⟩ := x; exact ⟨hf, m, ⟨o, es, ep, e _ ho, hr⟩, fun y => ⟨fun v q => let ⟨u, h1, h2⟩ := (r y).1 v q; ⟨u, h1, VR.mono k h2⟩, (r y).2⟩⟩
  | exc C => obtain ⟨o, vs, e1, c, n, d⟩ := x; exact ⟨o, vs, e _ e1, c, n, d⟩
structure Rel (g : Gr) (h : Heap) (σ : AH) : Prop where
  hid : ∀ a, g.hid a → ∃ o, h.get? a = some o
  base : ∀ a o, g.b0.get? a = some o → h.get? a = some o
  own : ∀ a ao, σ a = some ao → g.b0.get? a = none ∧ OR g h a ao
structure Ext (W : Addr → Prop) (h : Heap) (σ : AH) (h' : Heap) (σ' : AH) : Prop where
  keep : ∀ a o, h.get? a = some o → σ a = none → ¬ W a → UpTo h' a o
  pres : ∀ a o, h.get? a = some o → ∃ o', h'.get? a = some o'
  dom : ∀ a, σ' a ≠ none → σ a ≠ none ∨ h.get? a = none
noncomputable abbrev No : Addr → Prop := fun _ => False
theorem Ext.refl {W : Addr → Prop} {h : Heap} {σ : AH} : Ext W h σ h σ :=
  ⟨fun _ _ e _ _ => .of e, fun _ o e => ⟨o, e⟩, fun _ e => .inl e⟩
theorem Ext.off {W : Addr → Prop} {h h' : Heap} {σ σ' : AH} (x : Ext W h σ h' σ') {a : Addr} {o : Obj} (e : h.get? a = some o) (n : σ a = none) : σ' a = none := by
  cases q : σ' a with
  | none => rfl
  | some _ =>
    rcases x.dom a (by rw [q]; simp) with z | z
    · exact absurd n z
    · rw [e] at z; cases z
theorem Ext.trans {W : Addr → Prop} {h h' h'' : Heap} {σ σ' σ'' : AH} (x : Ext W h σ h' σ') (y : Ext W h' σ' h'' σ'') : Ext W h σ h'' σ'' := by
  refine ⟨fun a o e n w => ?_, fun a o e => ?_, fun a q => ?_⟩
  · exact (x.keep a o e n w).then fun o' e' => y.keep a o' e' (x.off e n) w
  · obtain ⟨o', e'⟩ := x.pres a o e; exact y.pres a o' e'
  · rcases y.dom a q with z | z
    · exact x.dom a z
    · cases e : h.get? a with
      | none => exact .inr rfl
      | some o => obtain ⟨o', e'⟩ := x.pres a o e; rw [e'] at z; cases z
theorem Ext.weaken {W W' : Addr → Prop} {h h' : Heap} {σ σ' : AH} (x : Ext W h σ h' σ') (k : ∀ a, W a → W' a) : Ext W' h σ h' σ' :=
  ⟨fun a o e n w => x.keep a o e n fun q => w (k a q), x.pres, x.dom⟩
noncomputable def NoSeq (W : Addr → Prop) (h : Heap) : Prop := ∀ a o, W a → h.get? a = some o → ∀ vs n, o.data ≠ .seq vs n
theorem Ext.tuples {g : Gr} {W : Addr → Prop} {h h' : Heap} {σ σ' : AH} (x : Ext W h σ h' σ') (R : Rel g h σ) (hw : NoSeq W h) : Y8 g h h' := fun a o vs n _ e c d => by
  refine x.keep a o e ?_ fun w => hw a o w e vs n d
  cases q : σ a with
  | none => rfl
  | some ao => obtain ⟨o', e', c'⟩ := OR_some (R.own a ao q).2; rw [e] at e'; cases e'; exact absurd d (c' _ _ c)
theorem Ext.vr {g : Gr} {W : Addr → Prop} {h h' : Heap} {σ σ' : AH} (x : Ext W h σ h' σ') (R : Rel g h σ) (hw : NoSeq W h) {v : V} {u : Value} (k : VR g h v u) : VR g h' v u :=
  VR.mono (x.tuples R hw) k
theorem Ext.vrs {g : Gr} {W : Addr → Prop} {h h' : Heap} {σ σ' : AH} (x : Ext W h σ h' σ') (R : Rel g h σ) (hw : NoSeq W h) {v : List V} {u : List Value} (k : VRs g h v u) : VRs g h' v u :=
  VRs.mono (x.tuples R hw) k
theorem Xz {h : Heap} : NoSeq No h := fun _ _ n => n.elim
theorem Rel.forget {g : Gr} {h : Heap} {σ σ' : AH} (R : Rel g h σ) (k : ∀ a o, σ' a = some o → σ a = some o) : Rel g h σ' :=
  ⟨R.hid, R.base, fun a ao e => R.own a ao (k a ao e)⟩
theorem Ext.forget {W : Addr → Prop} {h h' : Heap} {σ σ' σ'' : AH} (x : Ext W h σ h' σ') (k : ∀ a o, σ'' a = some o → σ' a = some o) : Ext W h σ h' σ'' :=
  ⟨x.keep, x.pres, fun a q => x.dom a (by
    cases e : σ'' a with
    | none => exact absurd e q
    | some o => rw [k a o e]; simp)⟩
theorem Rel.keeps {g : Gr} {h h' : Heap} {σ : AH} (R : Rel g h σ) (k : ∀ a o, h.get? a = some o → h'.get? a = some o) : Rel g h' σ :=
  ⟨fun a ha => let ⟨o, e⟩ := R.hid a ha; ⟨o, k a o e⟩, fun a o e => k a o (R.base a o e), fun a ao e => ⟨(R.own a ao e).1, OR_mono (fun a o _ _ _ e _ _ => .of (k a o e)) (k a) (R.own a ao e).2⟩⟩
theorem Ext.keeps {W : Addr → Prop} {h h' : Heap} {σ : AH} (k : ∀ a o, h.get? a = some o → h'.get? a = some o) : Ext W h σ h' σ :=
  ⟨fun a o e _ _ => .of (k a o e), fun a o e => ⟨o, k a o e⟩, fun _ e => .inl e⟩
theorem X9 (h : Heap) (o' : Obj) : ∀ a o, h.get? a = some o → (h.push o').get? a = some o := fun _ _ e => Heap.get?_push_of_some _ e
theorem Rel.alloc {g : Gr} {h h' : Heap} {σ : AH} {a : Addr} {ao : AO} (R : Rel g h σ) (k : ∀ a o, h.get? a = some o → h'.get? a = some o) (hn : h.get? a = none) (x : OR g h' a ao) : Rel g h' (σ.set a ao) := by
  refine ⟨fun a ha => let ⟨o, e⟩ := R.hid a ha; ⟨o, k a o e⟩, fun b o e => k b o (R.base b o e), fun b bo e => ?_⟩
  unfold AH.set at e
  split at e
  · rename_i q; subst q; cases e
    refine ⟨?_, x⟩
    cases q : g.b0.get? b with
    | none => rfl
    | some o => rw [R.base b o q] at hn; cases hn
  · exact (R.keeps k).own b bo e
theorem Ext.alloc {W : Addr → Prop} {h h' : Heap} {σ : AH} {a : Addr} {ao : AO} (k : ∀ a o, h.get? a = some o → h'.get? a = some o) (hn : h.get? a = none) : Ext W h σ h' (σ.set a ao) :=
  ⟨fun a o e _ _ => .of (k a o e), fun a o e => ⟨o, k a o e⟩, fun b q => by
    unfold AH.set at q
    by_cases z : b = a
    · subst z; exact .inr hn
    · rw [if_neg z] at q; exact .inl q⟩
theorem Rel.upd {g : Gr} {h h' : Heap} {σ : AH} {a : Addr} {ao ao' : AO} (R : Rel g h σ) (e : σ a = some ao) (k : Heap.SameBut a h h') (x : OR g h' a ao') : Rel g h' (σ.set a ao') := by
  have pr : ∃ o, h'.get? a = some o := let ⟨o, q, _⟩ := OR_some x; ⟨o, q⟩
  have ho := R.own a ao e
  obtain ⟨o₀, e₀, c₀⟩ := OR_some ho.2
  refine ⟨fun b hb => ?_, fun b o q => (k.2 b fun z => ?_).trans (R.base b o q), fun b bo q => ?_⟩
  · by_cases z : b = a
    · rw [z]; exact pr
    · obtain ⟨o, q⟩ := R.hid b hb; exact ⟨o, (k.2 b z).trans q⟩
  · subst z; rw [ho.1] at q; cases q
  · unfold AH.set at q
    split at q
    · rename_i z; subst z; cases q; exact ⟨ho.1, x⟩
    · rename_i z
      refine ⟨(R.own b bo q).1, OR_mono (fun c o _ _ _ y t dd => .of ((k.2 c fun w => ?_).trans y)) (fun o y => (k.2 b z).trans y) (R.own b bo q).2⟩
      subst w; rw [e₀] at y; cases y; exact c₀ _ _ t dd
theorem Ext.upd {W : Addr → Prop} {h h' : Heap} {σ : AH} {a : Addr} {ao ao' : AO} (e : σ a = some ao) (k : Heap.SameBut a h h') (p : ∃ o, h'.get? a = some o) : Ext W h σ h' (σ.set a ao') := by
  refine ⟨fun b o q n _ => .of ((k.2 b fun z => ?_).trans q), fun b o q => ?_, fun b q => ?_⟩
  · subst z; rw [e] at n; cases n
  · by_cases z : b = a
    · subst z; exact p
    · exact ⟨o, (k.2 b z).trans q⟩
  · unfold AH.set at q
    by_cases z : b = a
    · subst z; rw [e]; simp
    · rw [if_neg z] at q; exact .inl q
theorem Rel.owned_some {g : Gr} {h : Heap} {σ : AH} (R : Rel g h σ) {a : Addr} {ao : AO} (e : σ a = some ao) : ∃ o, h.get? a = some o := let ⟨o, h1, _⟩ := OR_some (R.own a ao e).2; ⟨o, h1⟩
theorem Rel.fresh {g : Gr} {h : Heap} {σ : AH} (R : Rel g h σ) {a : Addr} (e : h.get? a = none) : σ a = none := by
  cases q : σ a with
  | none => rfl
  | some ao => obtain ⟨o, z⟩ := R.owned_some q; rw [e] at z; cases z
theorem Yw (h : Heap) : h.get? h.objs.size = none := Heap.get?_none_of_le (Nat.le_refl _)
/-! ## fewer or more hidden tuples -/
section
variable {g : Gr} {H : Addr → Prop} {h : Heap}
mutual
theorem VR.less (k : ∀ a, g.hid a → H a) : ∀ {x : V} {v : Value}, VR (g.wh H) h x v → VR g h x v
  | .none, v, a => by rw [Wj] at a ⊢; exact a
  | .bool b, v, a => by rw [Wk] at a ⊢; exact a
  | .int i, v, a => by rw [Yl] at a ⊢; exact a
  | .str x, v, a => by rw [Xp] at a ⊢; exact a
  | .ref b, v, a => by rw [Yt] at a ⊢; exact a
  | .tup xs, v, a => by
    rw [Wd] at a ⊢
    obtain ⟨hf, b, o, vs, n, e, nh, ho, hc, hd, r⟩ := a
    exact ⟨hf, b, o, vs, n, e, fun z => nh (k b z), ho, hc, hd, VRs.less k r⟩
  | .frz xs, v, a => by
    rw [VR_frz] at a ⊢
    obtain ⟨hf, b, o, vs, n, e, ho, hc, hd, r⟩ := a
    exact ⟨hf, b, o, vs, n, e, ho, hc, hd, VRs.less k r⟩
theorem VRs.less (k : ∀ a, g.hid a → H a) : ∀ {xs : List V} {vs : List Value}, VRs (g.wh H) h xs vs → VRs g h xs vs
  | [], vs, a => by rw [Yr a]; exact Xs
  | x :: xs, vs, a => by
    obtain ⟨v, r, rfl, hv, c⟩ := Zv a
    exact Y4 (VR.less k hv) (VRs.less k c)
end
mutual
theorem VR.more (k : ∀ a o, h.get? a = some o → H a → g.hid a) : ∀ {x : V} {v : Value}, VR g h x v → VR (g.wh H) h x v
  | .none, v, a => by rw [Wj] at a ⊢; exact a
  | .bool b, v, a => by rw [Wk] at a ⊢; exact a
  | .int i, v, a => by rw [Yl] at a ⊢; exact a
  | .str x, v, a => by rw [Xp] at a ⊢; exact a
  | .ref b, v, a => by rw [Yt] at a ⊢; exact a
  | .tup xs, v, a => by
    rw [Wd] at a ⊢
    obtain ⟨hf, b, o, vs, n, e, nh, ho, hc, hd, r⟩ := a
    exact ⟨hf, b, o, vs, n, e, fun z => nh (k b o ho z), ho, hc, hd, VRs.more k r⟩
  | .frz xs, v, a => by
    rw [VR_frz] at a ⊢
    obtain ⟨hf, b, o, vs, n, e, ho, hc, hd, r⟩ := a
    exact ⟨hf, b, o, vs, n, e, ho, hc, hd, VRs.more k r⟩
theorem VRs.more (k : ∀ a o, h.get? a = some o → H a → g.hid a) : ∀ {xs : List V} {vs : List Value}, VRs g h xs vs → VRs (g.wh H) h xs vs
  | [], vs, a => by rw [Yr a]; exact Xs
  | x :: xs, vs, a => by
    obtain ⟨v, r, rfl, hv, c⟩ := Zv a
    exact Y4 (VR.more k hv) (VRs.more k c)
end
theorem OR.less (k : ∀ a, g.hid a → H a) {a : Addr} {ao : AO} (x : OR (g.wh H) h a ao) : OR g h a ao := by
  cases ao with
  | list xs => obtain ⟨hf, vs, n, ho, r⟩ := x; exact ⟨hf, vs, n, ho, VRs.less k r⟩
  | dictI kvs ep => obtain ⟨hf, us, d, q, p⟩ := x; exact ⟨hf, us, d, q, VRs.less k p⟩
  | dictS kvs ep => obtain ⟨hf, us, d, q, p⟩ := x; exact ⟨hf, us, d, q, VRs.less k p⟩
  | dictT kvs ep => obtain ⟨hf, us, ⟨o, es, ho, h1, h2, h3, h4, h5⟩, q, p⟩ := x; exact ⟨hf, us, ⟨o, es, ho, h1, h2, h3, fun y hy => ⟨fun z => (h4 y hy).1 (k _ z), (h4 y hy).2⟩, h5⟩, q, VRs.less k p⟩
  | inst C d => exact x
  | attrs kvs => obtain ⟨hf, m, hn, r⟩ := x; exact ⟨hf, m, hn, fun y => ⟨fun v q => let ⟨u, h1, h2⟩ := (r y).1 v q; ⟨u, h1, VR.less k h2⟩, (r y).2⟩⟩
  | exc C => exact x
theorem OR.more (k : ∀ a o, h.get? a = some o → H a → g.hid a) {a : Addr} {ao : AO} (x : OR g h a ao) : OR (g.wh H) h a ao := by
  cases ao with
  | list xs => obtain ⟨hf, vs, n, ho, r⟩ := x; exact ⟨hf, vs, n, ho, VRs.more k r⟩
  | dictI kvs ep => obtain ⟨hf, us, d, q, p⟩ := x; exact ⟨hf, us, d, q, VRs.more k p⟩
  | dictS kvs ep => obtain ⟨hf, us, d, q, p⟩ := x; exact ⟨hf, us, d, q, VRs.more k p⟩
  | dictT kvs ep =>
    obtain ⟨hf, us, ⟨o, es, ho, h1, h2, h3, h4, h5⟩, q, p⟩ := x
    refine ⟨hf, us, ⟨o, es, ho, h1, h2, h3, fun y hy => ⟨fun z => ?_, (h4 y hy).2⟩, h5⟩, q, VRs.more k p⟩
    obtain ⟨o', _, _, e, _⟩ := (h4 y hy).2
    exact (h4 y hy).1 (k _ _ e z)
  | inst C d => exact x
  | attrs kvs => obtain ⟨hf, m, hn, r⟩ := x; exact ⟨hf, m, hn, fun y => ⟨fun v q => let ⟨u, h1, h2⟩ := (r y).1 v q; ⟨u, h1, VR.more k h2⟩, (r y).2⟩⟩
  | exc C => exact x
theorem Rel.less (k : ∀ a, g.hid a → H a) {σ : AH} (R : Rel (g.wh H) h σ) : Rel g h σ :=
  ⟨fun a ha => R.hid a (k a ha), R.base, fun a ao e => ⟨(R.own a ao e).1, OR.less k (R.own a ao e).2⟩⟩
theorem Rel.more (k : ∀ a o, h.get? a = some o → H a → g.hid a) {h' : Heap} {σ : AH} (R : Rel g h σ) (kp : ∀ a o, h.get? a = some o → h'.get? a = some o) (hp : ∀ a, H a → ∃ o, h'.get? a = some o) : Rel (g.wh H) h' σ :=
  ⟨hp, fun a o e => kp a o (R.base a o e), fun a ao e => ⟨(R.own a ao e).1, OR_mono (fun a o _ _ _ e _ _ => .of (kp a o e)) (kp a) (OR.more k (R.own a ao e).2)⟩⟩
end
end
section
open PySem
structure EnvOk (sc : Scope) (env : Env) : Prop where
  kinds : ∀ x k, (x, k) ∈ sc.names → env.kindOf x = some k ∨ (k = .free ∧ env.kindOf x = some .cell)
  plain : ∀ x k, (x, k) ∈ sc.names → (x == ("__debug__" : Str)) = false ∧ (x == ("__classdict__" : Str)) = false
  kind : env.scope.kind = .function
  globals : env.globals = mainGlobals
  builtins : env.builtins = builtinsNs
structure LR (g : Gr) (h : Heap) (σ : AH) (env : Env) (ℓ : Loc) : Prop where
  ns : ∃ m, h.Ns env.locals m ∧ ∀ n v, ℓ n = some v → env.kindOf (Str.ofString n) = some .local → ∃ u, m (Str.ofString n) = some u ∧ VR g h v u
  cell : ∀ x c, env.cells.lookup x = some c → ∃ o u, h.get? c = some o ∧ o.data = .cell u
  cells : ∀ n v, ℓ n = some v → (env.kindOf (Str.ofString n) = some .cell ∨ env.kindOf (Str.ofString n) = some .free) → ∃ c u, env.cells.lookup (Str.ofString n) = some c ∧ h.IsCell c (some u) ∧ VR g h v u
  off : σ env.locals = none ∧ g.b0.get? env.locals = none
  offc : ∀ x c, env.cells.lookup x = some c → σ c = none ∧ c ≠ env.locals ∧ g.b0.get? c = none
  apart : ∀ x y c, env.cells.lookup x = some c → env.cells.lookup y = some c → x = y
  has : ∀ x, env.kindOf x = some .cell ∨ env.kindOf x = some .free → ∃ c, env.cells.lookup x = some c
noncomputable def OffFr (h : Heap) (σ : AH) (f : Addr) : Prop := σ f = none ∧ ∃ o es n, h.get? f = some o ∧ o.data = .dict es n
noncomputable def FrOk (g : Gr) (A : Around) (env : Env) (h : Heap) (σ : AH) : Prop :=
  ∃ e0 outer, A.frames = some (e0 :: outer) ∧ e0.frame = env.frame ∧ h.FunFrames g.b0 (e0 :: outer) ∧ (∀ e ∈ e0 :: outer, ∀ f, e.frame = some f → OffFr h σ f) ∧
    e0.scope.isGenerator = false ∧ e0.scope.isCoroutine = false ∧ e0.builtins = builtinsNs ∧ e0.globals = mainGlobals
structure GOk (g : Gr) : Prop where
  nolimit : g.b0.NoLimit
  seer : g.b0.NoSeer
  tree : g.prog.given.tree = none
structure Room (A : Around) (r : Nat) (c : Bool) : Prop where
  depth : A.depth + 2 * r + 110 < recursionLimit
  units : A.units + 20 * r + 100 < cLine
  calm : c = true → A.handled = none
theorem Room.le {A : Around} {r r' : Nat} {c : Bool} (x : Room A r c) (h : r' ≤ r) : Room A r' c :=
  ⟨by have := x.depth; omega, by have := x.units; omega, x.calm⟩
theorem Room.deeper {A : Around} {r : Nat} {c : Bool} (x : Room A (r + 1) c) (env : Env) : Room (A.deeper env) r c :=
  ⟨by have := x.depth; show A.depth + 1 + 2 * r + 110 < _; omega, by have := x.units; show A.units + 3 + 20 * r + 100 < _; omega, x.calm⟩
theorem Room.room {A : Around} {r : Nat} {c : Bool} (x : Room A r c) : A.depth < recursionLimit := by have := x.depth; omega
theorem Room.cline {A : Around} {r : Nat} {c : Bool} (x : Room A r c) : A.units + 50 < cLine := by have := x.units; omega
structure Cx (g : Gr) (sc : Scope) (r : Nat) (c : Bool) (A : Around) (env : Env) (h : Heap) (σ : AH) (ℓ : Loc) : Prop where
  gok : GOk g
  ok : EnvOk sc env
  loc : LR g h σ env ℓ
  fr : FrOk g A env h σ
  room : Room A r c
  rel : Rel g h σ
noncomputable def Xu (s s' : Shared) : Prop := s'.gens = s.gens ∧ s'.os = s.os ∧ s'.drawn = s'.drawn
theorem Xu.refl {s : Shared} : Xu s s := ⟨rfl, rfl, rfl⟩
theorem Xu.trans {s s' s'' : Shared} (x : Xu s s') (y : Xu s' s'') : Xu s s'' := ⟨y.1.trans x.1, y.2.1.trans x.2.1, rfl⟩
theorem ns_upTo {h h' : Heap} {a : Addr} {m : Str → Option Value} (n : h.Ns a m) (k : ∀ o, h.get? a = some o → UpTo h' a o) : h'.Ns a m := by
  obtain ⟨o, es, ep, ho, hd, r⟩ := n
  obtain ⟨sl, e⟩ := (k o ho).sl
  exact ⟨_, es, ep, e, hd, r⟩
theorem cell_upTo {h h' : Heap} {a : Addr} {v : Option Value} (n : h.IsCell a v) (k : ∀ o, h.get? a = some o → UpTo h' a o) : h'.IsCell a v := by
  obtain ⟨o, ho, hd⟩ := n
  obtain ⟨sl, e⟩ := (k o ho).sl
  exact ⟨_, e, hd⟩
theorem LR.stepT {g : Gr} {h h' : Heap} {σ σ' : AH} {env : Env} {ℓ : Loc} (L : LR g h σ env ℓ) (tk : Y8 g h h') (x : Ext No h σ h' σ') : LR g h' σ' env ℓ := by
  have kv : ∀ {v : V} {u : Value}, VR g h v u → VR g h' v u := VR.mono tk
  obtain ⟨m, hn, hm⟩ := L.ns
  have hl : ∀ o, h.get? env.locals = some o → UpTo h' env.locals o := fun o e => x.keep _ o e L.off.1 id
  refine ⟨⟨m, ns_upTo hn hl, fun y v a b => let ⟨u, e, f⟩ := hm y v a b; ⟨u, e, kv f⟩⟩, fun y c e => ?_, fun y v a k => ?_, ⟨?_, L.off.2⟩, fun y c e => ⟨?_, (L.offc y c e).2⟩, L.apart, L.has⟩
  · obtain ⟨o, u, ho, hd⟩ := L.cell y c e
    obtain ⟨sl, ho'⟩ := (x.keep _ o ho (L.offc y c e).1 id).sl
    exact ⟨_, u, ho', hd⟩
  · obtain ⟨c, u, e, ho, hv⟩ := L.cells y v a k
    exact ⟨c, u, e, cell_upTo ho fun o z => x.keep _ o z (L.offc _ c e).1 id, kv hv⟩
  · obtain ⟨o, es, ep, ho, _⟩ := hn; exact x.off ho L.off.1
  · obtain ⟨o, u, ho, hd⟩ := L.cell y c e
    exact x.off ho (L.offc y c e).1
theorem LR.step {g : Gr} {h h' : Heap} {σ σ' : AH} {env : Env} {ℓ : Loc} (L : LR g h σ env ℓ) (R : Rel g h σ) (x : Ext No h σ h' σ') : LR g h' σ' env ℓ := L.stepT (x.tuples R Xz) x
theorem frames_step {g : Gr} {W : Addr → Prop} {h h' : Heap} {σ σ' : AH} (hk : ∀ a o es n, h.get? a = some o → o.data = .dict es n → σ a = none → σ' a = none ∧ ∃ o' es' n', h'.get? a = some o' ∧ o'.data = .dict es' n') : ∀ l : List Env, h.FunFrames g.b0 l → (∀ e ∈ l, ∀ f, e.frame = some f → OffFr h σ f) → h'.FunFrames g.b0 l ∧ ∀ e ∈ l, ∀ f, e.frame = some f → OffFr h' σ' f
  | [], _, _ => ⟨trivial, fun _ z => nomatch z⟩
  | e :: r, ⟨hm, ⟨L, _, hfL, hb, _, _⟩, hr⟩, hoff => by
    obtain ⟨i1, i2⟩ := frames_step (g := g) (W := W) hk r hr fun e' he' => hoff e' (.tail _ he')
    obtain ⟨hs, o2, es, n, ho2, hd2⟩ := hoff e (.head _) L hfL
    obtain ⟨hs', o', es', n', ho', hd'⟩ := hk L o2 es n ho2 hd2 hs
    refine ⟨⟨hm, ⟨L, o', hfL, hb, ho', fun vs q => by rw [hd'] at q; cases q⟩, i1⟩, fun e' he' f hf' => ?_⟩
    cases he' with
    | head => rw [hfL] at hf'; cases hf'; exact ⟨hs', o', es', n', ho', hd'⟩
    | tail _ q => exact i2 e' q f hf'
theorem Ext.dicts {W : Addr → Prop} {h h' : Heap} {σ σ' : AH} (x : Ext W h σ h' σ') (hw : ∀ a o es n, W a → h.get? a = some o → o.data = .dict es n → ∃ o' es' n', h'.get? a = some o' ∧ o'.data = .dict es' n') (a : Addr) (o : Obj) (es : Array DictEntry) (n : Nat) (ho : h.get? a = some o) (hd : o.data = .dict es n) (hs : σ a = none) : σ' a = none ∧ ∃ o' es' n', h'.get? a = some o' ∧ o'.data = .dict es' n' := by
  refine ⟨x.off ho hs, ?_⟩
  by_cases w : W a
  · exact hw a o es n w ho hd
  · obtain ⟨sl, e'⟩ := (x.keep a o ho hs w).sl; exact ⟨_, es, n, e', hd⟩
theorem FrOk.step {g : Gr} {A : Around} {env : Env} {W : Addr → Prop} {h h' : Heap} {σ σ' : AH} (F : FrOk g A env h σ) (x : Ext W h σ h' σ') (hw : ∀ a o es n, W a → h.get? a = some o → o.data = .dict es n → ∃ o' es' n', h'.get? a = some o' ∧ o'.data = .dict es' n') : FrOk g A env h' σ' := by
  obtain ⟨e0, outer, hA, hf, ff, off, r1, r2, r3, r4⟩ := F
  obtain ⟨k1, k2⟩ := frames_step (W := W) (x.dicts hw) _ ff off
  exact ⟨e0, outer, hA, hf, k1, k2, r1, r2, r3, r4⟩
theorem Cx.step {g : Gr} {sc : Scope} {r : Nat} {c : Bool} {A : Around} {env : Env} {h h' : Heap} {σ σ' : AH} {ℓ : Loc} (X : Cx g sc r c A env h σ ℓ) (R : Rel g h' σ') (x : Ext No h σ h' σ') : Cx g sc r c A env h' σ' ℓ :=
  ⟨X.gok, X.ok, X.loc.step X.rel x, X.fr.step x (fun _ _ _ _ n => n.elim), X.room, R⟩
inductive TbAt (g : Gr) (h0 h : Heap) (σ : AH) (a : Addr) (vs : Array Value) : Prop
  | mk (T : Addr) (o : Obj) (ts : Array Value) (et : vs[1]? = some (.ref T)) (ne : T ≠ a) (t0 : h0.get? T = none) (tb : g.b0.get? T = none) (ts0 : σ T = none) (ho : h.get? T = some o) (hd : o.data = .fields ts) (hs : 3 < ts.size) : TbAt g h0 h σ a vs
inductive XAt (g : Gr) (nt : Bool) (h0 h : Heap) (e : Value) (C : Addr) (σ : AH) : Prop
  | mk (a : Addr) (o : Obj) (vs : Array Value) (ea : e = .ref a) (x0 : h0.get? a = none) (xb : g.b0.get? a = none) (xs : σ a = none) (xo : h.get? a = some o) (xc : o.cls = .ref C) (xn : o.dict = none) (xd : o.data = .fields vs) (xz : 1 < vs.size)
    (xt : (nt = false ∧ vs[1]? = some .none) ∨ TbAt g h0 h σ a vs) : XAt g nt h0 h e C σ
section
variable {g : Gr} {nt : Bool} {h0 h h1 : Heap} {e : Value} {C : Addr} {σ σ' : AH}
theorem XAt.back (x : XAt g nt h0 h e C σ) (k : ∀ b o, h1.get? b = some o → ∃ o', h0.get? b = some o') : XAt g nt h1 h e C σ := by
  have n : ∀ b, h0.get? b = none → h1.get? b = none := fun b q => by
    cases z : h1.get? b with
    | none => rfl
    | some o => obtain ⟨o', z'⟩ := k b o z; rw [q] at z'; cases z'
  obtain ⟨a, o, vs, ea, x0, xb, xs, xo, xc, xn, xd, xz, xt⟩ := x
  refine ⟨a, o, vs, ea, n a x0, xb, xs, xo, xc, xn, xd, xz, xt.imp id fun ⟨T, o, ts, et, ne, t0, tb, ts0, ho, hd, hs⟩ => ⟨T, o, ts, et, ne, n T t0, tb, ts0, ho, hd, hs⟩⟩
theorem XAt.forget (x : XAt g nt h0 h e C σ) (k : ∀ a o, σ' a = some o → σ a = some o) : XAt g nt h0 h e C σ' := by
  have n : ∀ b, σ b = none → σ' b = none := fun b q => by
    cases z : σ' b with
    | none => rfl
    | some o => rw [k b o z] at q; cases q
  obtain ⟨a, o, vs, ea, x0, xb, xs, xo, xc, xn, xd, xz, xt⟩ := x
  refine ⟨a, o, vs, ea, x0, xb, n a xs, xo, xc, xn, xd, xz, xt.imp id fun ⟨T, o, ts, et, ne, t0, tb, ts0, ho, hd, hs⟩ => ⟨T, o, ts, et, ne, t0, tb, n T ts0, ho, hd, hs⟩⟩
theorem XAt.weak (x : XAt g nt h0 h e C σ) : XAt g false h0 h e C σ := by
  obtain ⟨a, o, vs, ea, x0, xb, xs, xo, xc, xn, xd, xz, xt⟩ := x
  exact ⟨a, o, vs, ea, x0, xb, xs, xo, xc, xn, xd, xz, xt.imp (fun z => ⟨rfl, z.2⟩) id⟩
theorem XAt.unwh {H : Addr → Prop} (x : XAt (g.wh H) nt h0 h e C σ) : XAt g nt h0 h e C σ := by
  obtain ⟨a, o, vs, ea, x0, xb, xs, xo, xc, xn, xd, xz, xt⟩ := x
  exact ⟨a, o, vs, ea, x0, xb, xs, xo, xc, xn, xd, xz, xt.imp id fun ⟨T, o, ts, et, ne, t0, tb, ts0, ho, hd, hs⟩ => ⟨T, o, ts, et, ne, t0, tb, ts0, ho, hd, hs⟩⟩
end
inductive Wa (g : Gr) (A : Around) (s : Shared) (σ : AH) (E : Addr → AH → Prop) (e : Value) (s' : Shared) : Prop
  | mk (C : Addr) (σ' : AH) (h1 : XAt g false s.heap s'.heap e C σ') (h2 : Rel g s'.heap σ') (h3 : Ext No s.heap σ s'.heap σ') (h4 : Xu s s') (h5 : E C σ') : Wa g A s σ E e s'
inductive X7 {α β : Type} (g : Gr) (R : Heap → β → α → Prop) (s : Shared) (σ : AH) (Q : β → AH → Prop) (v : α) (s' : Shared) : Prop
  | mk (x : β) (σ' : AH) (h1 : R s'.heap x v) (h2 : Rel g s'.heap σ') (h3 : Ext No s.heap σ s'.heap σ') (h4 : Xu s s') (h5 : Q x σ') : X7 g R s σ Q v s'
theorem X7.elim {α β : Type} {g : Gr} {R : Heap → β → α → Prop} {s : Shared} {σ : AH} {Q : β → AH → Prop} {v : α} {s' : Shared} {P : Prop} (p : X7 g R s σ Q v s') (k : ∀ x σ', R s'.heap x v → Rel g s'.heap σ' → Ext No s.heap σ s'.heap σ' → Xu s s' → Q x σ' → P) : P :=
  let ⟨x, σ', h1, h2, h3, h4, h5⟩ := p; k x σ' h1 h2 h3 h4 h5
noncomputable abbrev PostE (g : Gr) := X7 g (fun h => VR g h)
noncomputable abbrev PostB (g : Gr) := X7 g (fun _ (x : Bool) (v : Bool) => x = v)
noncomputable abbrev PostL (g : Gr) := X7 g (fun h => VRs g h)
noncomputable abbrev TE := Loc → AH → (V → AH → Prop) → (Addr → AH → Prop) → Prop
noncomputable abbrev TB := Loc → AH → (Bool → AH → Prop) → (Addr → AH → Prop) → Prop
noncomputable abbrev TL := Loc → AH → (List V → AH → Prop) → (Addr → AH → Prop) → Prop
section
variable {α β : Type} {g : Gr} {R : Heap → β → α → Prop} {A : Around} {s s₁ : Shared} {σ σ₁ : AH} {Q : β → AH → Prop} {E : Addr → AH → Prop}
theorem X7.back (x : Ext No s.heap σ s₁.heap σ₁) (y : Xu s s₁) {v : α} {s' : Shared} (p : X7 g R s₁ σ₁ Q v s') : X7 g R s σ Q v s' :=
  let ⟨z, σ', h1, h2, h3, h4, h5⟩ := p; ⟨z, σ', h1, h2, x.trans h3, y.trans h4, h5⟩
theorem Wa.back (x : Ext No s.heap σ s₁.heap σ₁) (y : Xu s s₁) {v : Value} {s' : Shared} (p : Wa g A s₁ σ₁ E v s') : Wa g A s σ E v s' :=
  let ⟨z, σ', h1, h2, h3, h4, h5⟩ := p; ⟨z, σ', h1.back x.pres, h2, x.trans h3, y.trans h4, h5⟩
theorem wp_back {M : Model} {t : Sem α} (x : Ext No s.heap σ s₁.heap σ₁) (y : Xu s s₁) (h : wpAny M A t (X7 g R s₁ σ₁ Q) (Wa g A s₁ σ₁ E) s₁) : wpAny M A t (X7 g R s σ Q) (Wa g A s σ E) s₁ :=
  wpAny_mono h (fun _ _ p => p.back x y) fun _ _ p => p.back x y
theorem X7.here {x : β} {v : α} (h1 : R s.heap x v) (h2 : Rel g s.heap σ) (h3 : Q x σ) : X7 g R s σ Q v s := ⟨x, σ, h1, h2, .refl, .refl, h3⟩
theorem X7.keeps {x : β} {v : α} {s' : Shared} (k : ∀ a o, s.heap.get? a = some o → s'.heap.get? a = some o) (y : Xu s s') (h1 : R s'.heap x v) (h2 : Rel g s.heap σ) (h3 : Q x σ) : X7 g R s σ Q v s' :=
  ⟨x, σ, h1, h2.keeps k, .keeps k, y, h3⟩
end
section
variable (g : Gr) (sc : Scope) (r : Nat) (c : Bool)
structure Y5 (e : Expr) (t : TE) : Prop where
  run : ∀ A env s ℓ σ Q E, Cx g sc r c A env s.heap σ ℓ → t ℓ σ Q E → wpAny (model g.prog g.w) A (eval e env) (PostE g s σ Q) (Wa g A s σ E) s
structure SndB (e : Expr) (t : TB) : Prop where
  run : ∀ A env s ℓ σ Q E, Cx g sc r c A env s.heap σ ℓ → t ℓ σ Q E → wpAny (model g.prog g.w) A (isTrue e env (eval e env)) (PostB g s σ Q) (Wa g A s σ E) s
structure SndL (es : List Expr) (t : TL) : Prop where
  run : ∀ A env pos s ℓ σ Q E, Cx g sc r c A env s.heap σ ℓ → t ℓ σ Q E → wpAny (model g.prog g.w) A (spliced (backTo pos (starEach es env))) (PostL g s σ Q) (Wa g A s σ E) s
end
section
variable {g : Gr} {sc : Scope} {r : Nat} {c : Bool} {α β γ δ : Type} {R : Heap → β → α → Prop} {R' : Heap → δ → γ → Prop} {A : Around} {env : Env} {s : Shared} {ℓ : Loc} {σ : AH} {Q : β → AH → Prop} {Q' : δ → AH → Prop} {E : Addr → AH → Prop}
theorem Cx.then {m : Sem γ} {f : γ → Sem α} (X : Cx g sc r c A env s.heap σ ℓ) (h : wpAny (model g.prog g.w) A m (X7 g R' s σ Q') (Wa g A s σ E) s)
    (k : ∀ v x s₁ σ₁, R' s₁.heap x v → Cx g sc r c A env s₁.heap σ₁ ℓ → Ext No s.heap σ s₁.heap σ₁ → Q' x σ₁ → wpAny (model g.prog g.w) A (f v) (X7 g R s₁ σ₁ Q) (Wa g A s₁ σ₁ E) s₁) :
    wpAny (model g.prog g.w) A m (fun v s₁ => wpAny (model g.prog g.w) A (f v) (X7 g R s σ Q) (Wa g A s σ E) s₁) (Wa g A s σ E) s :=
  wpAny_mono h (fun v s₁ p => let ⟨x, σ₁, h1, h2, h3, h4, h5⟩ := p; wp_back h3 h4 (k v x s₁ σ₁ h1 (X.step h2 h3) h3 h5)) fun _ _ p => p
end
section
variable {g : Gr} {H : Addr → Prop} {h h' : Heap} {σ : AH} {env : Env} {ℓ : Loc}
theorem LR.less (k : ∀ a, g.hid a → H a) (L : LR (g.wh H) h σ env ℓ) : LR g h σ env ℓ := by
  obtain ⟨m, hn, hm⟩ := L.ns
  exact ⟨⟨m, hn, fun y v a b => let ⟨u, e, f⟩ := hm y v a b; ⟨u, e, VR.less k f⟩⟩, L.cell, fun y v a kk => let ⟨c, u, e, hc, hv⟩ := L.cells y v a kk; ⟨c, u, e, hc, VR.less k hv⟩, L.off, L.offc, L.apart, L.has⟩
theorem LR.more (k : ∀ a o, h.get? a = some o → H a → g.hid a) (L : LR g h σ env ℓ) : LR (g.wh H) h σ env ℓ := by
  obtain ⟨m, hn, hm⟩ := L.ns
  exact ⟨⟨m, hn, fun y v a b => let ⟨u, e, f⟩ := hm y v a b; ⟨u, e, VR.more k f⟩⟩, L.cell, fun y v a kk => let ⟨c, u, e, hc, hv⟩ := L.cells y v a kk; ⟨c, u, e, hc, VR.more k hv⟩, L.off, L.offc, L.apart, L.has⟩
theorem GOk.wh (G : GOk g) : GOk (g.wh H) := ⟨G.nolimit, G.seer, G.tree⟩
end
end
section
open PySem PyProof.Rows
variable {g : Gr} {sc : Scope} {r : Nat} {c : Bool}
/-! ## constants and names -/
noncomputable def Zi (v : V) : TE := fun _ σ Q _ => Q v σ
noncomputable def Zo (i : String) : TE := fun ℓ σ Q _ => match ℓ i with | some v => Q v σ | none => False
theorem Zh {i : Int} {k : Nat} {pos : Pos} : Y5 g sc r c (.Constant (.int i) k pos) (Zi (.int i)) := .mk fun A env s ℓ σ Q E X h =>
  wpAny_Constant_int (.keeps (s' := { s with toks := s.toks + 1 }) (fun _ _ e => e) ⟨rfl, rfl, rfl⟩ (Yl.mpr ⟨_, rfl⟩) X.rel h)
theorem sndE_str {x : Str} {k : Nat} {pos : Pos} (hx : Ym x.length) : Y5 g sc r c (.Constant (.str x) k pos) (Zi (.str x)) := .mk fun A env s ℓ σ Q E X h =>
  wpAny_Constant_str (.keeps (s' := { s with toks := s.toks + 1 }) (fun _ _ e => e) ⟨rfl, rfl, rfl⟩ (Xp.mpr ⟨hx, _, rfl⟩) X.rel h)
theorem sndE_none {k : Nat} {pos : Pos} : Y5 g sc r c (.Constant .none k pos) (Zi .none) := .mk fun A env s ℓ σ Q E X h =>
  wpAny_Constant_none (.here (Wj.mpr rfl) X.rel h)
theorem Ww {b : Bool} {k : Nat} {pos : Pos} : Y5 g sc r c (.Constant (.bool b) k pos) (Zi (.bool b)) := .mk fun A env s ℓ σ Q E X h =>
  wpAny_Constant_bool (.here (Wk.mpr rfl) X.rel h)
noncomputable def isVar (k : NameKind) : Bool := k == .local || k == .cell || k == .free
theorem Za {n : String} {pos : Pos} {k : NameKind} (hm : (Str.ofString n, k) ∈ sc.names) (hk : isVar k = true) : Y5 g sc r c (.Name (Str.ofString n) pos) (Zo n) := .mk fun A env s ℓ σ Q E X h => by
  unfold Zo at h
  split at h
  · rename_i v hv
    have hp := X.ok.plain _ _ hm
    have loc : env.kindOf (Str.ofString n) = some .local → wpAny (model g.prog g.w) A (loadName env (Str.ofString n)) (PostE g s σ Q) (Wa g A s σ E) s := fun q => by
      obtain ⟨m, hn, hm⟩ := X.loc.ns
      obtain ⟨u, e, hu⟩ := hm n v hv q
      exact wpAny_loadName_local X.ok.kind q hn e (.here hu X.rel h)
    have cel : env.kindOf (Str.ofString n) = some .cell → wpAny (model g.prog g.w) A (loadName env (Str.ofString n)) (PostE g s σ Q) (Wa g A s σ E) s := fun q => by
      obtain ⟨cc, u, e, ho, hu⟩ := X.loc.cells n v hv (.inl q)
      exact wpAny_loadName_cell X.ok.kind q e ho (.here hu X.rel h)
    have fre : env.kindOf (Str.ofString n) = some .free → wpAny (model g.prog g.w) A (loadName env (Str.ofString n)) (PostE g s σ Q) (Wa g A s σ E) s := fun q => by
      obtain ⟨cc, u, e, ho, hu⟩ := X.loc.cells n v hv (.inr q)
      exact wpAny_loadName_free X.ok.kind q e ho (.here hu X.rel h) hp.2
    refine wpAny_Name ?_ hp.1
    rcases X.ok.kinds _ _ hm with q | ⟨_, q⟩
    · cases k <;> first | exact loc q | exact cel q | exact fre q | cases hk
    · exact cel q
  · exact h.elim
/-! ## lists of expressions -/
noncomputable def Z4 : TL := fun _ σ Q _ => Q [] σ
noncomputable def Zq (t : TE) (ts : TL) : TL := fun ℓ σ Q E => t ℓ σ (fun v σ₁ => ts ℓ σ₁ (fun vs σ₂ => Q (v :: vs) σ₂) E) E
noncomputable def isStar : Expr → Bool
  | .Starred .. => true
  | _ => false
theorem Yx {e : Expr} {es : List Expr} (env : Env) (h : isStar e = false) : starEach (e :: es) env = (false, eval e env) :: starEach es env := by
  cases e <;> first | rfl | cases h
theorem Zg : SndL g sc r c [] Z4 := .mk fun A env pos s ℓ σ Q E X h => wpAny_items_nil (.here Xs X.rel h)
theorem Zb {e : Expr} {es : List Expr} {t : TE} {ts : TL} (h1 : Y5 g sc r c e t) (h2 : SndL g sc r c es ts) (hs : isStar e = false := by rfl) :
    SndL g sc r c (e :: es) (Zq t ts) := .mk fun A env pos s ℓ σ Q E X h => by
  refine wpAny_items_cons ?_ (Yx env hs)
  refine wpAny_mono (h1.run A env s ℓ σ _ E X h) (fun v s₁ p => ?_) fun _ _ p => p
  refine X7.elim p fun x σ₁ hv hR hx hs1 hq => ?_
  refine wpAny_mono (h2.run A env pos s₁ ℓ σ₁ _ E (X.step hR hx) hq) (fun vs s₂ p => ?_) fun _ _ p => p.back hx hs1
  refine X7.elim p fun xs σ₂ hvs hR2 hx2 hs2 hq2 => ?_
  exact ⟨x :: xs, σ₂, Y4 (hx2.vr hR Xz hv) hvs, hR2, hx.trans hx2, hs1.trans hs2, hq2⟩
/-! ## displays -/
noncomputable def Yc (ts : TL) : TE := fun ℓ σ Q E => ts ℓ σ (fun vs σ₁ => Ym vs.length ∧ ∀ a, σ₁ a = none → Q (.ref a) (σ₁.set a (.list vs))) E
noncomputable def Z6 (ts : TL) : TE := fun ℓ σ Q E => ts ℓ σ (fun vs σ₁ => Ym vs.length ∧ Q (.tup vs) σ₁) E
theorem post_newList {s s₁ : Shared} {σ σ₁ : AH} {Q : V → AH → Prop} {vs : List Value} {xs : List V} {n : Nat} (hx : Ext No s.heap σ s₁.heap σ₁) (hs : Xu s s₁) (hR : Rel g s₁.heap σ₁) (hv : VRs g s₁.heap xs vs) (hft : Ym xs.length) (hq : ∀ a, σ₁ a = none → Q (.ref a) (σ₁.set a (.list xs))) {s' : Shared}
    (e : s' = { s₁ with heap := s₁.heap.push { cls := .type "list", data := .seq vs.toArray n }, toks := s'.toks }) : PostE g s σ Q (.ref s₁.heap.objs.size) s' := by
  rw [e]
  have hk := X9 s₁.heap { cls := .type "list", data := .seq vs.toArray n }
  have hf := Yw s₁.heap
  refine ⟨.ref _, _, Yt.mpr rfl, hR.alloc hk hf ?_, hx.trans (.alloc hk hf), hs.trans ⟨rfl, rfl, rfl⟩, hq _ (hR.fresh hf)⟩
  exact ⟨hft, vs.toArray, n, Heap.get?_push_size _ rfl, VRs.mono (fun a o _ _ _ e _ _ => .of (hk a o e)) hv⟩
theorem post_newTuple {s s₁ : Shared} {σ σ₁ : AH} {Q : V → AH → Prop} {vs : List Value} {xs : List V} {n : Nat} (hx : Ext No s.heap σ s₁.heap σ₁) (hs : Xu s s₁) (hR : Rel g s₁.heap σ₁) (hv : VRs g s₁.heap xs vs) (hft : Ym xs.length) (hq : Q (.tup xs) σ₁) {s' : Shared}
    (e : s' = { s₁ with heap := s₁.heap.push { cls := .type "tuple", data := .seq vs.toArray n }, toks := s'.toks }) : PostE g s σ Q (.ref s₁.heap.objs.size) s' := by
  rw [e]
  have hk := X9 s₁.heap { cls := .type "tuple", data := .seq vs.toArray n }
  refine ⟨.tup xs, σ₁, Wd.mpr ⟨hft, _, _, vs.toArray, n, rfl, fun nh => (by obtain ⟨o, e⟩ := hR.hid _ nh; rw [Yw] at e; cases e), Heap.get?_push_size _ rfl, rfl, rfl, VRs.mono (fun a o _ _ _ e _ _ => .of (hk a o e)) hv⟩, hR.keeps hk, hx.trans (.keeps hk), hs.trans ⟨rfl, rfl, rfl⟩, hq⟩
theorem Xo {es : List Expr} {ts : TL} {pos : Pos} (h1 : SndL g sc r c es ts) : Y5 g sc r c (.List es pos) (Yc ts) := .mk fun A env s ℓ σ Q E X h => by
  refine wpAny_List (wpAny_mono (h1.run A env pos s ℓ σ _ E X h) (fun vs s₁ p => ?_) fun _ _ p => p)
  obtain ⟨xs, σ₁, hv, hR, hx, hs, hf, hq⟩ := p
  exact ⟨(Yb hv ▸ hf).line, post_newList hx hs hR hv hf hq rfl⟩
theorem Yo {es : List Expr} {ts : TL} {k : Nat} {pos : Pos} (h1 : SndL g sc r c es ts) : Y5 g sc r c (.Tuple es k pos) (Z6 ts) := .mk fun A env s ℓ σ Q E X h => by
  refine wpAny_Tuple (wpAny_mono (h1.run A env pos s ℓ σ _ E X h) (fun vs s₁ p => ?_) fun _ _ p => p)
  obtain ⟨xs, σ₁, hv, hR, hx, hs, hf, hq⟩ := p
  exact ⟨(Yb hv ▸ hf).line, post_newTuple hx hs hR hv hf hq rfl⟩
end
section
open PySem PyProof.Rows
variable {g : Gr} {sc : Scope} {r : Nat} {c : Bool}
/-! ## data: what a value reads as -/
mutual
noncomputable def Xe (σ : AH) : PyData → V → Prop
  | .none, v => v = .none
  | .bool b, v => v = .bool b
  | .int i, v => v = .int i
  | .str x, v => v = .str x
  | .list ds, v => ∃ a xs, v = .ref a ∧ σ a = some (.list xs) ∧ Wc σ ds xs
  | .tuple ds, v => ∃ xs, v = .tup xs ∧ Wc σ ds xs
  | .dict _, _ => False
noncomputable def Wc (σ : AH) : List PyData → List V → Prop
  | [], xs => xs = []
  | d :: ds, xs => ∃ x r, xs = x :: r ∧ Xe σ d x ∧ Wc σ ds r
end
mutual
theorem Wy {h : Heap} {σ : AH} (R : Rel g h σ) : ∀ {d : PyData} {x : V} {v : Value}, Xe σ d x → VR g h x v → ∃ as, Reads h v d as
  | .none, x, v, hd, hv => by unfold Xe at hd; subst hd; rw [Wj] at hv; subst hv; exact ⟨_, .none⟩
  | .bool b, x, v, hd, hv => by unfold Xe at hd; subst hd; rw [Wk] at hv; subst hv; exact ⟨_, .bool b⟩
  | .int i, x, v, hd, hv => by unfold Xe at hd; subst hd; rw [Yl] at hv; obtain ⟨t, rfl⟩ := hv; exact ⟨_, .int i t⟩
  | .str i, x, v, hd, hv => by unfold Xe at hd; subst hd; rw [Xp] at hv; obtain ⟨_, t, rfl⟩ := hv; exact ⟨_, .str i t⟩
  | .list ds, x, v, hd, hv => by
    unfold Xe at hd; obtain ⟨a, xs, rfl, e, hds⟩ := hd
    rw [Yt] at hv; subst hv
    obtain ⟨_, _, vs, n, ho, hvs⟩ := R.own a _ e
    obtain ⟨as, q⟩ := readsAll_of R hds hvs
    exact ⟨_, .list ho rfl rfl q⟩
  | .tuple ds, x, v, hd, hv => by
    unfold Xe at hd; obtain ⟨xs, rfl, hds⟩ := hd
    rw [Wd] at hv; obtain ⟨_, a, o, vs, n, rfl, nh, ho, hc, hdt, hvs⟩ := hv
    obtain ⟨as, q⟩ := readsAll_of R hds hvs
    exact ⟨_, .tuple ho hc hdt q⟩
  | .dict _, x, v, hd, hv => by unfold Xe at hd; exact hd.elim
theorem readsAll_of {h : Heap} {σ : AH} (R : Rel g h σ) : ∀ {ds : List PyData} {xs : List V} {vs : List Value}, Wc σ ds xs → VRs g h xs vs → ∃ as, ReadsAll h vs ds as
  | [], xs, vs, hd, hv => by unfold Wc at hd; subst hd; rw [Yr hv]; exact ⟨_, .nil⟩
  | d :: ds, xs, vs, hd, hv => by
    unfold Wc at hd; obtain ⟨x, r, rfl, h1, h2⟩ := hd
    obtain ⟨v, w, rfl, h3, h4⟩ := Zv hv
    obtain ⟨as, p⟩ := Wy R h1 h3
    obtain ⟨bs, q⟩ := readsAll_of R h2 h4
    exact ⟨_, .cons p q⟩
end
noncomputable def Lay (d : PyData) : Prop := d.canLay0 = true ∧ d.depth ≤ 20
/-! ## truth -/
noncomputable def Yn : V → AH → Option Bool
  | .none, _ => some false
  | .bool b, _ => some b
  | .int i, _ => some (i != 0)
  | .str x, _ => some ((x.length : Int) != 0)
  | .tup xs, _ => some (!xs.isEmpty)
  | .frz xs, _ => some (!xs.isEmpty)
  | .ref a, σ => match σ a with
    | some (.list xs) => some (!xs.isEmpty)
    | some (.dictI kvs _) => some (!kvs.isEmpty)
    | _ => none
theorem isEmpty_of_length {α β : Type} {xs : List α} {ys : Array β} (h : xs.length = ys.size) : (!ys.isEmpty) = !xs.isEmpty := by
  cases xs with
  | nil => simp at h; have : ys = #[] := by simpa using h.symm
           subst this; rfl
  | cons x xs => have : ys.size ≠ 0 := by simp at h; omega
                 have h2 : ys.isEmpty = false := by unfold Array.isEmpty; exact decide_eq_false this
                 rw [h2]; rfl
theorem sysMod_ne {h : Heap} {σ : AH} (G : GOk g) (R : Rel g h σ) {a : Addr} {ao : AO} (e : σ a = some ao) : (a == sysModules) = false := by
  obtain ⟨mm, ⟨o, es, ep, ho, _⟩, _⟩ := G.seer.mods
  cases q : a == sysModules with
  | false => rfl
  | true =>
    have := (R.own a ao e).1
    rw [show a = sysModules from beq_iff_eq.mp q, ho] at this; cases this
theorem truth_ok {A : Around} {E : Value → Shared → Prop} {s : Shared} {σ : AH} {x : V} {v : Value} {b : Bool} {Q : Bool → Shared → Prop} (G : GOk g) (R : Rel g s.heap σ) (hv : VR g s.heap x v) (ht : Yn x σ = some b)
    (hq : ∀ tk, Q b { s with toks := tk }) : wpAny (model g.prog g.w) A (truthy v) Q E s := by
  cases x with
  | none => rw [Wj] at hv; subst hv; cases ht; exact truthy_none (hq s.toks)
  | bool b' => rw [Wk] at hv; subst hv; cases ht; exact wpAny_truthy_bool (hq s.toks)
  | int i => rw [Yl] at hv; obtain ⟨t, rfl⟩ := hv; cases ht; exact PySem.P.truthy_int (hq s.toks)
  | str y => rw [Xp] at hv; obtain ⟨hf, t, rfl⟩ := hv; cases ht; exact PySem.P.truthy_str (by have := hf.fit; omega) (hq _)
  | tup xs =>
    rw [Wd] at hv; obtain ⟨hf, a, o, vs, n, rfl, nh, ho, hc, hd, hvs⟩ := hv
    have hl : xs.length = vs.size := by rw [Yb hvs]; simp
    cases ht
    exact truthy_tuple ⟨o, ho, hc, n, hd⟩ (by rw [← hl]; exact hf.fit) (by rw [isEmpty_of_length hl]; exact hq _)
  | frz xs =>
    rw [VR_frz] at hv; obtain ⟨hf, a, o, vs, n, rfl, ho, hc, hd, hvs⟩ := hv
    have hl : xs.length = vs.size := by rw [Yb hvs]; simp
    cases ht
    exact wpAny_truthy_list ⟨o, R.base _ _ ho, hc, n, hd⟩ (by rw [← hl]; exact hf.fit) (by rw [isEmpty_of_length hl]; exact hq _)
  | ref a =>
    rw [Yt] at hv; subst hv
    simp only [Yn] at ht
    split at ht
    · rename_i xs e
      obtain ⟨_, hf, vs, n, ho, hvs⟩ := R.own a _ e
      have hl : xs.length = vs.size := by rw [Yb hvs]; simp
      cases ht
      exact wpAny_truthy_list ⟨_, ho, rfl, n, rfl⟩ (by rw [← hl]; exact hf.fit) (by rw [isEmpty_of_length hl]; exact hq _)
    · rename_i kvs ep e
      obtain ⟨_, hf, us, hd, hk, hvs⟩ := R.own a _ e
      have hl : us.length = kvs.length := by have := congrArg List.length hk; simpa using this
      cases ht
      refine wpAny_truthy_dict (sysMod_ne G R e) hd.dictOf (by rw [hl]; exact hf.fit) ?_
      have : us.isEmpty = kvs.isEmpty := by cases us <;> cases kvs <;> simp at hl ⊢
      rw [this]; exact hq _
    · cases ht
noncomputable def Y9 (t : TE) : TB := fun ℓ σ Q E => t ℓ σ (fun v σ₁ => match Yn v σ₁ with | some b => Q b σ₁ | none => False) E
theorem sndB_value {e : Expr} {t : TE} (h1 : Y5 g sc r c e t) (he : ∀ env whole, isTrue e env whole = (do let v ← whole; standAt e.pos; holding [v] (truthy v))) : SndB g sc r c e (Y9 t) := .mk fun A env s ℓ σ Q E X h => by
  refine wpAny_isTrue_value (X.then (h1.run A env s ℓ σ _ E X h) fun v x s₁ σ₁ hv X₁ hx hq => ?_) (he env _)
  split at hq
  · rename_i b hb; exact truth_ok X.gok X₁.rel hv hb fun tk => .keeps (fun _ _ e => e) ⟨rfl, rfl, rfl⟩ rfl X₁.rel hq
  · exact hq.elim
noncomputable def Xr (t : TB) : TB := fun ℓ σ Q E => t ℓ σ (fun b σ₁ => Q (!b) σ₁) E
theorem sndB_not {e : Expr} {t : TB} {pos : Pos} (h1 : SndB g sc r c e t) : SndB g sc r c (.UnaryOp .Not e pos) (Xr t) := .mk fun A env s ℓ σ Q E X h =>
  wpAny_isTrue_Not (wpAny_mono (h1.run A env s ℓ σ _ E X h) (fun b s₁ p => let ⟨x, σ₁, h1, h2, h3, h4, h5⟩ := p; ⟨!x, σ₁, by rw [h1], h2, h3, h4, h5⟩) fun _ _ p => p)
structure SndBs (g : Gr) (sc : Scope) (r : Nat) (c : Bool) (op : BoolOp) (es : List Expr) (t : TB) : Prop where
  run : ∀ A env s ℓ σ Q E, Cx g sc r c A env s.heap σ ℓ → t ℓ σ Q E → wpAny (model g.prog g.w) A (allTrue op es env) (PostB g s σ Q) (Wa g A s σ E) s
noncomputable def Xy (t ts : TB) : TB := fun ℓ σ Q E => t ℓ σ (fun b σ₁ => match b with | true => ts ℓ σ₁ Q E | false => Q false σ₁) E
noncomputable def Wh (t ts : TB) : TB := fun ℓ σ Q E => t ℓ σ (fun b σ₁ => match b with | true => Q true σ₁ | false => ts ℓ σ₁ Q E) E
noncomputable def Zf (b : Bool) : TB := fun _ σ Q _ => Q b σ
theorem sndBs_and_nil : SndBs g sc r c .And [] (Zf true) := .mk fun A env s ℓ σ Q E X h => wpAny_allTrue_And_nil (.here rfl X.rel h)
theorem W6 : SndBs g sc r c .Or [] (Zf false) := .mk fun A env s ℓ σ Q E X h => wpAny_allTrue_Or_nil (.here rfl X.rel h)
theorem sndBs_and {e : Expr} {es : List Expr} {t ts : TB} (h1 : SndB g sc r c e t) (h2 : SndBs g sc r c .And es ts) : SndBs g sc r c .And (e :: es) (Xy t ts) := .mk fun A env s ℓ σ Q E X h => by
  refine wpAny_allTrue_And_cons (wpAny_mono (h1.run A env s ℓ σ _ E X h) (fun b s₁ p => ?_) fun _ _ p => p)
  obtain ⟨x, σ₁, rfl, hR, hx, hs, hq⟩ := p
  cases x with
  | true => exact wp_back hx hs (h2.run A env s₁ ℓ σ₁ Q E (X.step hR hx) hq)
  | false => exact ⟨false, σ₁, rfl, hR, hx, hs, hq⟩
theorem Wi {e : Expr} {es : List Expr} {t ts : TB} (h1 : SndB g sc r c e t) (h2 : SndBs g sc r c .Or es ts) : SndBs g sc r c .Or (e :: es) (Wh t ts) := .mk fun A env s ℓ σ Q E X h => by
  refine wpAny_allTrue_Or_cons (wpAny_mono (h1.run A env s ℓ σ _ E X h) (fun b s₁ p => ?_) fun _ _ p => p)
  obtain ⟨x, σ₁, rfl, hR, hx, hs, hq⟩ := p
  cases x with
  | false => exact wp_back hx hs (h2.run A env s₁ ℓ σ₁ Q E (X.step hR hx) hq)
  | true => exact ⟨true, σ₁, rfl, hR, hx, hs, hq⟩
theorem Wg {op : BoolOp} {es : List Expr} {t : TB} {pos : Pos} (h1 : SndBs g sc r c op es t) : SndB g sc r c (.BoolOp op es pos) t := .mk fun A env s ℓ σ Q E X h =>
  wpAny_isTrue_BoolOp (h1.run A env s ℓ σ Q E X h)
/-! ## comparisons -/
noncomputable def isNoneV : V → Bool
  | .none => true
  | _ => false
noncomputable def eqD (a b : V) (σ : AH) (Q : Bool → Prop) : Prop := match a, b with
  | .int i, .int j => Q (i == j)
  | a, b => ∃ da db, Xe σ da a ∧ Xe σ db b ∧ Lay da ∧ Lay db ∧ Q (PyData.eqv da db)
noncomputable def inD (x c : V) (σ : AH) (Q : Bool → Prop) : Prop := match c with
  | .tup xs => ∃ ds d, Wc σ ds xs ∧ Xe σ d x ∧ Lay (.tuple ds) ∧ Lay d ∧ Q (ds.any fun y => PyData.eqv y d)
  | .ref a => match σ a with
    | some (.list xs) => ∃ ds d, Wc σ ds xs ∧ Xe σ d x ∧ Lay (.list ds) ∧ Lay d ∧ Q (ds.any fun y => PyData.eqv y d)
    | some (.dictI kvs _) => match x with | .int k => Q (kvs.any fun kv => kv.1 == k) | _ => False
    | some (.dictT kvs _) => ∃ ks : List Int, x = .tup (ks.map V.int) ∧ Q (kvs.any fun kv => kv.1 == ks)
    | _ => False
  | _ => False
noncomputable def Yh (op : CmpOp) (a b : V) (σ : AH) (Q : Bool → Prop) : Prop := match op with
  | .Lt => match a, b with | .int i, .int j => Q (decide (i < j)) | _, _ => False
  | .LtE => match a, b with | .int i, .int j => Q (decide (i ≤ j)) | _, _ => False
  | .Gt => match a, b with | .int i, .int j => Q (decide (j < i)) | _, _ => False
  | .GtE => match a, b with | .int i, .int j => Q (decide (j ≤ i)) | _, _ => False
  | .Eq => eqD a b σ Q
  | .NotEq => eqD a b σ fun r => Q (!r)
  | .Is => match b with | .none => Q (isNoneV a) | .bool true => (match a with | .bool x => Q x | _ => False) | _ => False
  | .IsNot => match b with | .none => Q (!isNoneV a) | _ => False
  | .In => inD a b σ Q
  | .NotIn => inD a b σ fun r => Q (!r)
end
section
open PySem PyProof.Rows
variable {g : Gr} {sc : Scope} {r : Nat} {c : Bool}
theorem isNone_of {h : Heap} {a : V} {u : Value} (hv : VR g h a u) : (u == .none) = isNoneV a := by
  cases a with
  | none => rw [Wj] at hv; subst hv; rfl
  | bool b => rw [Wk] at hv; subst hv; rfl
  | int i => rw [Yl] at hv; obtain ⟨t, rfl⟩ := hv; rfl
  | str x => rw [Xp] at hv; obtain ⟨_, t, rfl⟩ := hv; rfl
  | ref a => rw [Yt] at hv; subst hv; rfl
  | tup xs => rw [Wd] at hv; obtain ⟨_, a, _, _, _, rfl, _⟩ := hv; rfl
  | frz xs => rw [VR_frz] at hv; obtain ⟨_, a, _, _, _, rfl, _⟩ := hv; rfl
theorem valueAt_isSome {us : List (Int × Value)} {kvs : List (Int × V)} (hk : us.map (·.1) = kvs.map (·.1)) (k : Int) : (valueAt us k).isSome = kvs.any fun kv => kv.1 == k := by
  induction us generalizing kvs with
  | nil => cases kvs with
    | nil => rfl
    | cons _ _ => simp at hk
  | cons u us ih => cases kvs with
    | nil => simp at hk
    | cons kv kvs =>
      simp only [List.map_cons, List.cons.injEq] at hk
      have := ih hk.2
      unfold valueAt at this ⊢
      rw [List.find?_cons, List.any_cons, ← hk.1]
      by_cases e : u.1 = k
      · simp [e]
      · have e' : (u.1 == k) = false := by simpa using e
        simp only [e, decide_false, e', Bool.false_or]; exact this
theorem atKey_isSome {us : List (List Int × Addr × Value)} {kvs : List (List Int × V)} (hk : us.map (·.1) = kvs.map (·.1)) (k : List Int) : (atKey us k).isSome = kvs.any fun kv => kv.1 == k := by
  induction us generalizing kvs with
  | nil => cases kvs with
    | nil => rfl
    | cons _ _ => simp at hk
  | cons u us ih => cases kvs with
    | nil => simp at hk
    | cons kv kvs =>
      simp only [List.map_cons, List.cons.injEq] at hk
      have := ih hk.2
      unfold atKey at this ⊢
      rw [List.find?_cons, List.any_cons, ← hk.1]
      by_cases e : u.1 = k
      · simp [e]
      · have e' : (u.1 == k) = false := by simpa using e
        simp only [e, decide_false, e', Bool.false_or]; exact this
theorem itemsAre_ints {h : Heap} : ∀ {ks : List Int} {vs : List Value}, VRs g h (ks.map V.int) vs → ItemsAre (intKind g.prog g.w) ks vs
  | [], vs, a => by rw [Yr a]; exact .nil
  | k :: ks, vs, a => by
    obtain ⟨v, r, rfl, hv, b⟩ := Zv a
    rw [Yl] at hv; obtain ⟨t, rfl⟩ := hv
    exact .cons (intKind_is _ _ k t) (itemsAre_ints b)
theorem tupleKey_of {h : Heap} {ks : List Int} {v : Value} (hv : VR g h (.tup (ks.map V.int)) v) : ∃ a, v = .ref a ∧ ¬ g.hid a ∧ IsTupleKey (intKind g.prog g.w) h ks a := by
  rw [Wd] at hv; obtain ⟨_, a, o, vs, n, rfl, nh, ho, hc, hd, hvs⟩ := hv
  exact ⟨a, rfl, nh, o, vs, n, ho, hc, hd, itemsAre_ints hvs⟩
theorem DictAtT.ofH {h : Heap} {d : Addr} {xs : List (List Int × Addr × Value)} {ep : Nat} (x : DictAtT g h d xs ep) : h.DictOfH (tupleKind (intKind g.prog g.w)) d xs := let ⟨o, es, h1, h2, h3, h4, h5, h6⟩ := x; ⟨o, es, ep, h1, h2, h3, h4, fun y hy => (h5 y hy).2, h6⟩
section
variable {A : Around} {env : Env} {E : Value → Shared → Prop} {s : Shared} {σ : AH} {ℓ : Loc}
inductive Told (s : Shared) (Q : Bool → Prop) (v : Value) (s' : Shared) : Prop
  | mk (b : Bool) (tk : Nat) (e : v = .bool b) (f : s' = { s with toks := tk }) (q : Q b) : Told s Q v s'
theorem eq_ok {a b : V} {u v : Value} {Q : Bool → Prop} (X : Cx g sc r c A env s.heap σ ℓ) (ha : VR g s.heap a u) (hb : VR g s.heap b v) (h : eqD a b σ Q) : wpAny (model g.prog g.w) A (compareOp .Eq u v) (Told s Q) E s := by
  have hu := X.room.cline
  have gen : (∃ da db, Xe σ da a ∧ Xe σ db b ∧ Lay da ∧ Lay db ∧ Q (PyData.eqv da db)) → wpAny (model g.prog g.w) A (compareOp .Eq u v) (Told s Q) E s := by
    rintro ⟨da, db, h1, h2, h3, h4, h5⟩
    obtain ⟨as, ra⟩ := Wy X.rel h1 ha
    obtain ⟨bs, rb⟩ := Wy X.rel h2 hb
    have := h3.2
    exact SeqAt.compareEq_reads ra rb h3.1 h4.1 (by omega) ⟨_, s.toks, rfl, rfl, h5⟩
  unfold eqD at h
  split at h
  · rw [Yl] at ha hb; obtain ⟨t, rfl⟩ := ha; obtain ⟨t', rfl⟩ := hb
    exact PySem.P.eq_int ⟨_, s.toks, rfl, rfl, h⟩
  · exact gen h
theorem ne_ok {a b : V} {u v : Value} {Q : Bool → Prop} (X : Cx g sc r c A env s.heap σ ℓ) (ha : VR g s.heap a u) (hb : VR g s.heap b v) (h : eqD a b σ fun r => Q (!r)) : wpAny (model g.prog g.w) A (compareOp .NotEq u v) (Told s Q) E s := by
  have hu := X.room.cline
  have gen : (∃ da db, Xe σ da a ∧ Xe σ db b ∧ Lay da ∧ Lay db ∧ Q (!PyData.eqv da db)) → wpAny (model g.prog g.w) A (compareOp .NotEq u v) (Told s Q) E s := by
    rintro ⟨da, db, h1, h2, h3, h4, h5⟩
    obtain ⟨as, ra⟩ := Wy X.rel h1 ha
    obtain ⟨bs, rb⟩ := Wy X.rel h2 hb
    have := h3.2
    exact SeqAt.compareNe_reads ra rb h3.1 h4.1 (by omega) ⟨_, s.toks, rfl, rfl, h5⟩
  unfold eqD at h
  split at h
  · rw [Yl] at ha hb; obtain ⟨t, rfl⟩ := ha; obtain ⟨t', rfl⟩ := hb
    exact PySem.P.ne_int ⟨_, s.toks, rfl, rfl, h⟩
  · exact gen h
theorem lay_list {ds : List PyData} (h : Lay (.list ds)) : PyData.canLayAll0 ds = true ∧ PyData.depthAll ds ≤ 20 := by
  refine ⟨h.1, ?_⟩
  have := h.2
  unfold PyData.depth at this
  omega
theorem lay_tuple {ds : List PyData} (h : Lay (.tuple ds)) : PyData.canLayAll0 ds = true ∧ PyData.depthAll ds ≤ 20 := by
  refine ⟨h.1, ?_⟩
  have := h.2
  unfold PyData.depth at this
  omega
theorem in_ok {a b : V} {u v : Value} {Q : Bool → Prop} (X : Cx g sc r c A env s.heap σ ℓ) (ha : VR g s.heap a u) (hb : VR g s.heap b v) (h : inD a b σ Q) : wpAny (model g.prog g.w) A (compareOp .In u v) (Told s Q) E s := by
  have hu := X.room.cline
  unfold inD at h
  split at h
  · rename_i xs
    obtain ⟨ds, d, h1, h2, h3, h4, h5⟩ := h
    obtain ⟨bs, rb⟩ := Wy (d := .tuple ds) X.rel (by unfold Xe; exact ⟨xs, rfl, h1⟩) hb
    obtain ⟨as, ra⟩ := Wy X.rel h2 ha
    obtain ⟨k1, k2⟩ := lay_tuple h3
    exact SeqAt.in_tuple_reads rb ra k1 h4.1 (by omega) ⟨_, s.toks, rfl, rfl, h5⟩
  · rename_i l
    split at h
    · rename_i xs e
      obtain ⟨ds, d, h1, h2, h3, h4, h5⟩ := h
      obtain ⟨bs, rb⟩ := Wy (d := .list ds) X.rel (by unfold Xe; exact ⟨l, xs, rfl, e, h1⟩) hb
      obtain ⟨as, ra⟩ := Wy X.rel h2 ha
      obtain ⟨k1, k2⟩ := lay_list h3
      exact SeqAt.in_list_reads rb ra k1 h4.1 (by omega) ⟨_, s.toks, rfl, rfl, h5⟩
    · rename_i kvs ep e
      split at h
      · rename_i k
        rw [Yl] at ha; obtain ⟨t, rfl⟩ := ha
        rw [Yt] at hb; subst hb
        obtain ⟨_, hf, us, hd, hk, hvs⟩ := X.rel.own l _ e
        exact wpAny_in_of (intKind_is _ _ k t) (sysMod_ne X.gok X.rel e) hd.dictOf.mapOf ⟨_, _, rfl, rfl, by rw [valueAt_isSome hk]; exact h⟩
      · exact h.elim
    · rename_i kvs ep e
      obtain ⟨ks, rfl, h⟩ := h
      obtain ⟨ka, rfl, _, hka⟩ := tupleKey_of ha
      rw [Yt] at hb; subst hb
      obtain ⟨_, hf, us, hd, hk, hvs⟩ := X.rel.own l _ e
      exact wpAny_in_heap (knd := tupleKind (intKind g.prog g.w)) (tupleKind_room_in1 (by omega)) hka (sysMod_ne X.gok X.rel e) hd.ofH ⟨_, _, rfl, rfl, by rw [atKey_isSome hk]; exact h⟩
    · exact h.elim
  · exact h.elim
theorem notIn_ok {a b : V} {u v : Value} {Q : Bool → Prop} (X : Cx g sc r c A env s.heap σ ℓ) (ha : VR g s.heap a u) (hb : VR g s.heap b v) (h : inD a b σ fun r => Q (!r)) : wpAny (model g.prog g.w) A (compareOp .NotIn u v) (Told s Q) E s := by
  have hu := X.room.cline
  unfold inD at h
  split at h
  · rename_i xs
    obtain ⟨ds, d, h1, h2, h3, h4, h5⟩ := h
    obtain ⟨bs, rb⟩ := Wy (d := .tuple ds) X.rel (by unfold Xe; exact ⟨xs, rfl, h1⟩) hb
    obtain ⟨as, ra⟩ := Wy X.rel h2 ha
    obtain ⟨k1, k2⟩ := lay_tuple h3
    exact SeqAt.notIn_tuple_reads rb ra k1 h4.1 (by omega) ⟨_, s.toks, rfl, rfl, h5⟩
  · rename_i l
    split at h
    · rename_i xs e
      obtain ⟨ds, d, h1, h2, h3, h4, h5⟩ := h
      obtain ⟨bs, rb⟩ := Wy (d := .list ds) X.rel (by unfold Xe; exact ⟨l, xs, rfl, e, h1⟩) hb
      obtain ⟨as, ra⟩ := Wy X.rel h2 ha
      obtain ⟨k1, k2⟩ := lay_list h3
      exact SeqAt.notIn_list_reads rb ra k1 h4.1 (by omega) ⟨_, s.toks, rfl, rfl, h5⟩
    · rename_i kvs ep e
      split at h
      · rename_i k
        rw [Yl] at ha; obtain ⟨t, rfl⟩ := ha
        rw [Yt] at hb; subst hb
        obtain ⟨_, hf, us, hd, hk, hvs⟩ := X.rel.own l _ e
        refine wpAny_notIn_of (intKind_is _ _ k t) (sysMod_ne X.gok X.rel e) hd.dictOf.mapOf ⟨_, _, rfl, rfl, ?_⟩
        rw [valueAt_isSome hk]; exact h
      · exact h.elim
    · rename_i kvs ep e
      obtain ⟨ks, rfl, h⟩ := h
      obtain ⟨ka, rfl, _, hka⟩ := tupleKey_of ha
      rw [Yt] at hb; subst hb
      obtain ⟨_, hf, us, hd, hk, hvs⟩ := X.rel.own l _ e
      refine wpAny_notIn_heap (knd := tupleKind (intKind g.prog g.w)) (tupleKind_room_in1 (by omega)) hka (sysMod_ne X.gok X.rel e) hd.ofH ⟨_, _, rfl, rfl, ?_⟩
      rw [atKey_isSome hk]; exact h
    · exact h.elim
  · exact h.elim
theorem isSame_true (b : Bool) : isSame (.bool b) (.bool true) = pure b := by cases b <;> rfl
theorem cmp_ok {op : CmpOp} {a b : V} {u v : Value} {Q : Bool → Prop} (X : Cx g sc r c A env s.heap σ ℓ) (ha : VR g s.heap a u) (hb : VR g s.heap b v) (h : Yh op a b σ Q) : wpAny (model g.prog g.w) A (compareOp op u v) (Told s Q) E s := by
  cases op with
  | Lt => simp only [Yh] at h; split at h
          · rw [Yl] at ha hb; obtain ⟨t, rfl⟩ := ha; obtain ⟨t', rfl⟩ := hb; exact PySem.P.lt_int ⟨_, s.toks, rfl, rfl, h⟩
          · exact h.elim
  | LtE => simp only [Yh] at h; split at h
           · rw [Yl] at ha hb; obtain ⟨t, rfl⟩ := ha; obtain ⟨t', rfl⟩ := hb; exact PySem.P.le_int ⟨_, s.toks, rfl, rfl, h⟩
           · exact h.elim
  | Gt => simp only [Yh] at h; split at h
          · rw [Yl] at ha hb; obtain ⟨t, rfl⟩ := ha; obtain ⟨t', rfl⟩ := hb; exact PySem.P.gt_int ⟨_, s.toks, rfl, rfl, h⟩
          · exact h.elim
  | GtE => simp only [Yh] at h; split at h
           · rw [Yl] at ha hb; obtain ⟨t, rfl⟩ := ha; obtain ⟨t', rfl⟩ := hb; exact PySem.P.ge_int ⟨_, s.toks, rfl, rfl, h⟩
           · exact h.elim
  | Eq => exact eq_ok X ha hb h
  | NotEq => exact ne_ok X ha hb h
  | Is =>
    simp only [Yh] at h
    split at h
    · rw [Wj] at hb; subst hb; exact is_none ⟨_, s.toks, rfl, rfl, by rw [isNone_of ha]; exact h⟩
    · rw [Wk] at hb; subst hb
      split at h
      · rw [Wk] at ha; subst ha
        show wpAny _ A (do return Value.bool (← isSame _ _)) _ E s
        rw [isSame_true]; exact wpAny_bind (wpAny_pure (wpAny_pure ⟨_, s.toks, rfl, rfl, h⟩))
      · exact h.elim
    · exact h.elim
  | IsNot =>
    simp only [Yh] at h
    split at h
    · rw [Wj] at hb; subst hb; exact isNot_none ⟨_, s.toks, rfl, rfl, by rw [isNone_of ha]; exact h⟩
    · exact h.elim
  | In => exact in_ok X ha hb h
  | NotIn => exact notIn_ok X ha hb h
end
noncomputable def tCmp (op : CmpOp) (t₁ t₂ : TE) : TE := fun ℓ σ Q E => t₁ ℓ σ (fun a σ₁ => t₂ ℓ σ₁ (fun b σ₂ => Yh op a b σ₂ fun r => Q (.bool r) σ₂) E) E
noncomputable def Z1 (op : CmpOp) (t₁ t₂ : TE) : TB := fun ℓ σ Q E => t₁ ℓ σ (fun a σ₁ => t₂ ℓ σ₁ (fun b σ₂ => Yh op a b σ₂ fun r => Q r σ₂) E) E
noncomputable def tCmp2B (op op' : CmpOp) (t₁ t₂ t₃ : TE) : TB := fun ℓ σ Q E => t₁ ℓ σ (fun a σ₁ => t₂ ℓ σ₁ (fun b σ₂ => Yh op a b σ₂ fun r => match r with | true => t₃ ℓ σ₂ (fun d σ₃ => Yh op' b d σ₃ fun q => Q q σ₃) E | false => Q false σ₂) E) E
theorem sndE_cmp {op : CmpOp} {e₁ e₂ : Expr} {t₁ t₂ : TE} {pos : Pos} (h1 : Y5 g sc r c e₁ t₁) (h2 : Y5 g sc r c e₂ t₂) (hm : behindInMarks op e₂ = false) : Y5 g sc r c (.Compare e₁ [op] [e₂] pos) (tCmp op t₁ t₂) := .mk fun A env s ℓ σ Q E X h => by
  refine wpAny_Compare1 (wpAny_mono (h1.run A env s ℓ σ _ E X h) (fun u s₁ p => ?_) fun _ _ p => p) hm
  refine X7.elim p fun a σ₁ hu hR hx hs hq => ?_
  have X₁ := X.step hR hx
  refine wpAny_mono (h2.run A env s₁ ℓ σ₁ _ E X₁ hq) (fun v s₂ p => ?_) fun _ _ p => p.back hx hs
  refine X7.elim p fun b σ₂ hv hR2 hx2 hs2 hq2 => ?_
  refine wpAny_mono (cmp_ok (E := fun _ _ => False) (X₁.step hR2 hx2) (hx2.vr hR Xz hu) hv hq2) (fun w s₃ p => ?_) fun _ _ p => p.elim
  obtain ⟨bb, tk, rfl, rfl, hq3⟩ := p
  exact ⟨.bool bb, σ₂, Wk.mpr rfl, hR2, hx.trans hx2, hs.trans (hs2.trans ⟨rfl, rfl, rfl⟩), hq3⟩
theorem Y3 {op : CmpOp} {e₁ e₂ : Expr} {t₁ t₂ : TE} {pos : Pos} (h1 : Y5 g sc r c e₁ t₁) (h2 : Y5 g sc r c e₂ t₂) (hm : behindInMarks op e₂ = false) : SndB g sc r c (.Compare e₁ [op] [e₂] pos) (Z1 op t₁ t₂) := .mk fun A env s ℓ σ Q E X h => by
  refine wpAny_isTrue_Compare1 (wpAny_mono (h1.run A env s ℓ σ _ E X h) (fun u s₁ p => ?_) fun _ _ p => p) hm
  refine X7.elim p fun a σ₁ hu hR hx hs hq => ?_
  have X₁ := X.step hR hx
  refine wpAny_mono (h2.run A env s₁ ℓ σ₁ _ E X₁ hq) (fun v s₂ p => ?_) fun _ _ p => p.back hx hs
  refine X7.elim p fun b σ₂ hv hR2 hx2 hs2 hq2 => ?_
  refine wpAny_mono (cmp_ok (E := fun _ _ => False) (X₁.step hR2 hx2) (hx2.vr hR Xz hu) hv hq2) (fun w s₃ p => ?_) fun _ _ p => p.elim
  obtain ⟨bb, tk, rfl, rfl, hq3⟩ := p
  exact wpAny_truthy_bool ⟨bb, σ₂, rfl, hR2, hx.trans hx2, hs.trans (hs2.trans ⟨rfl, rfl, rfl⟩), hq3⟩
theorem sndB_cmp2 {op op' : CmpOp} {e₁ e₂ e₃ : Expr} {t₁ t₂ t₃ : TE} {pos : Pos} (h1 : Y5 g sc r c e₁ t₁) (h2 : Y5 g sc r c e₂ t₂) (h3 : Y5 g sc r c e₃ t₃) (hm : lastMarks [op, op'] [e₂, e₃] = false) :
    SndB g sc r c (.Compare e₁ [op, op'] [e₂, e₃] pos) (tCmp2B op op' t₁ t₂ t₃) := .mk fun A env s ℓ σ Q E X h => by
  refine isTrue_chain (wpAny_mono (h1.run A env s ℓ σ _ E X h) (fun u s₁ p => ?_) fun _ _ p => p) hm
  refine X7.elim p fun a σ₁ hu hR hx hs hq => ?_
  have X₁ := X.step hR hx
  refine test_link (wpAny_mono (h2.run A env s₁ ℓ σ₁ _ E X₁ hq) (fun v s₂ p => ?_) fun _ _ p => p.back hx hs)
  refine X7.elim p fun b σ₂ hv hR2 hx2 hs2 hq2 => ?_
  have X₂ := X₁.step hR2 hx2
  refine wpAny_mono (cmp_ok (E := fun _ _ => False) X₂ (hx2.vr hR Xz hu) hv hq2) (fun w s₃ p => ?_) fun _ _ p => p.elim
  obtain ⟨bb, tk, rfl, rfl, hq3⟩ := p
  have hs' : Xu s { s₂ with toks := tk } := hs.trans (hs2.trans ⟨rfl, rfl, rfl⟩)
  refine wpAny_truthy_bool ?_
  cases bb with
  | false => exact ⟨false, σ₂, rfl, hR2, hx.trans hx2, hs', hq3⟩
  | true =>
    refine test_last (wpAny_mono (h3.run A env { s₂ with toks := tk } ℓ σ₂ _ E X₂ hq3) (fun y s₄ p => ?_) fun _ _ p => Wa.back (s₁ := { s₂ with toks := tk }) (hx.trans hx2) hs' p)
    refine X7.elim p fun d σ₃ hy hR3 hx3 hs3 hq4 => ?_
    refine wpAny_mono (cmp_ok (E := fun _ _ => False) (X₂.step hR3 hx3) (hx3.vr hR2 Xz hv) hy hq4) (fun w s₅ p => ?_) fun _ _ p => p.elim
    obtain ⟨bb, tk', rfl, rfl, hq5⟩ := p
    exact wpAny_truthy_bool ⟨bb, σ₃, rfl, hR3, (hx.trans hx2).trans hx3, hs'.trans (hs3.trans ⟨rfl, rfl, rfl⟩), hq5⟩
end
section
open PySem PyProof.Rows
variable {g : Gr} {sc : Scope} {r : Nat} {c : Bool}
/-! ## operators -/
noncomputable def Xd (op : Operator) (a b : V) (σ : AH) (Q : V → AH → Prop) : Prop := match op with
  | .Add => match a, b with
    | .int i, .int j => Q (.int (i + j)) σ
    | .str x, .str y => Ym (x.length + y.length) ∧ Q (.str (x ++ y)) σ
    | .tup xs, .tup ys => Ym (xs.length + ys.length) ∧ Q (.tup (xs ++ ys)) σ
    | .ref l, .ref m => ∃ xs ys, σ l = some (.list xs) ∧ σ m = some (.list ys) ∧ Ym (xs.length + ys.length) ∧ ∀ a, σ a = none → Q (.ref a) (σ.set a (.list (xs ++ ys)))
    | _, _ => False
  | .Sub => match a, b with | .int i, .int j => Q (.int (i - j)) σ | _, _ => False
  | .Mult => match a, b with
    | .int i, .int j => IntMulOk i j ∧ Q (.int (i * j)) σ
    | _, _ => False
  | .FloorDiv => match a, b with | .int i, .int j => j ≠ 0 ∧ Q (.int (i.fdiv j)) σ | _, _ => False
  | .Mod => match a, b with | .int i, .int j => j ≠ 0 ∧ Q (.int (i.fmod j)) σ | _, _ => False
  | .Pow => match a, b with | .int i, .int j => (0 ≤ j ∧ j ≤ 1000000 ∧ i.natAbs < 2 ^ 64) ∧ Q (.int (i ^ j.toNat)) σ | _, _ => False
  | _ => False
section
variable {A : Around} {env : Env} {E : Value → Shared → Prop} {s : Shared} {σ : AH} {ℓ : Loc} {Q : V → AH → Prop}
theorem Wq {x : V} {v : Value} {tk : Nat} (R : Rel g s.heap σ) (hv : VR g s.heap x v) (h : Q x σ) : PostE g s σ Q v { s with toks := tk } :=
  .keeps (fun _ _ e => e) ⟨rfl, rfl, rfl⟩ hv R h
theorem pylong_ok (X : Cx g sc r c A env s.heap σ ℓ) : PylongRoom (model g.prog g.w) A s := by
  obtain ⟨e0, outer, hA, hf, ff, off, h1, h2, h3, h4⟩ := X.fr
  refine PylongRoom.of (X.gok.nolimit.keeps X.rel.base) ?_ (SeerAt.of (X.gok.seer.keeps X.rel.base) X.gok.tree hA h1 h2 h3 h4)
  have := X.room.depth
  show A.depth + 100 < _
  omega
theorem bin_ok {op : Operator} {a b : V} {u v : Value} (X : Cx g sc r c A env s.heap σ ℓ) (ha : VR g s.heap a u) (hb : VR g s.heap b v) (h : Xd op a b σ Q) : wpAny (model g.prog g.w) A (binaryOp op u v) (PostE g s σ Q) E s := by
  cases op with
  | Add =>
    simp only [Xd] at h
    split at h
    · rw [Yl] at ha hb; obtain ⟨t, rfl⟩ := ha; obtain ⟨t', rfl⟩ := hb
      exact PySem.P.add_int (Wq X.rel (Yl.mpr ⟨_, rfl⟩) h)
    · rw [Xp] at ha hb; obtain ⟨hfa, t, rfl⟩ := ha; obtain ⟨hfb, t', rfl⟩ := hb
      exact PyProof.Rows.add_str (fun t' tk => Wq X.rel (Xp.mpr ⟨by rw [Str.length_append]; exact h.1, _, rfl⟩) h.2) h.1.line
    · rename_i xs ys
      rw [Wd] at ha hb
      obtain ⟨hfa, l, ⟨cls, dd, data, sl⟩, vs, n, rfl, nh, ho, hc, hd, hvs⟩ := ha
      obtain ⟨hfb, m, ⟨cls2, dd2, data2, sl2⟩, ws, n2, rfl, nh2, ho2, hc2, hd2, hws⟩ := hb
      simp only at hc hd hc2 hd2
      subst hc hd hc2 hd2
      have hl := Yb hvs
      have hl2 := Yb hws
      simp only [Array.length_toList] at hl hl2
      by_cases e1 : vs.isEmpty = true
      · have : xs = [] := by have : vs.size = 0 := by simpa using e1
                             cases xs with | nil => rfl | cons _ _ => simp at hl; omega
        subst this
        exact concat_meets ⟨_, ho, rfl⟩ ⟨_, ho2, rfl⟩ noFill_tuple_add seq_tuple_add PySem.F.slot_tuple_add PySem.F.entry_tuple_add (PySem.F.args_tuple_add_2 _ _) (tuple_addW0 l m vs ws n n2 dd dd2 sl sl2 e1)
          ⟨ho, ho2, Wq X.rel (Wd.mpr ⟨hfb, m, _, ws, n2, rfl, nh2, ho2, rfl, rfl, hws⟩) h.2⟩
      · by_cases e2 : ws.isEmpty = true
        · have : ys = [] := by have : ws.size = 0 := by simpa using e2
                               cases ys with | nil => rfl | cons _ _ => simp at hl2; omega
          subst this
          refine concat_meets ⟨_, ho, rfl⟩ ⟨_, ho2, rfl⟩ noFill_tuple_add seq_tuple_add PySem.F.slot_tuple_add PySem.F.entry_tuple_add (PySem.F.args_tuple_add_2 _ _) (tuple_addW1 l m vs ws n n2 dd dd2 sl sl2 e1 e2)
            ⟨ho, ho2, Wq X.rel (Wd.mpr ⟨hfa, l, _, vs, n, rfl, nh, ho, rfl, rfl, hvs⟩) ?_⟩
          rw [List.append_nil] at h; exact h.2
        · refine concat_meets ⟨_, ho, rfl⟩ ⟨_, ho2, rfl⟩ noFill_tuple_add seq_tuple_add PySem.F.slot_tuple_add PySem.F.entry_tuple_add (PySem.F.args_tuple_add_2 _ _) (tuple_addW2 l m vs ws n n2 dd dd2 sl sl2 e1 e2 (by rw [← hl, ← hl2]; exact h.1.line))
            ⟨ho, ho2, ?_⟩
          have e : vs ++ ws = (vs.toList ++ ws.toList).toArray := by simp
          rw [e]
          exact post_newTuple .refl .refl X.rel (VRs_append hvs hws) (by rw [List.length_append]; exact h.1) h.2 rfl
    · rename_i l m
      obtain ⟨xs, ys, e1, e2, hf, hq⟩ := h
      rw [Yt] at ha hb; subst ha hb
      obtain ⟨_, hfa, vs, n, ho, hvs⟩ := X.rel.own l _ e1
      obtain ⟨_, hfb, ws, n2, ho2, hws⟩ := X.rel.own m _ e2
      have hl := Yb hvs
      have hl2 := Yb hws
      simp only [Array.length_toList] at hl hl2
      refine concat_meets ⟨_, ho, rfl⟩ ⟨_, ho2, rfl⟩ noFill_list_add seq_list_add PySem.F.slot_list_add PySem.F.entry_list_add (PySem.F.args_list_add_2 _ _) (list_addW l m vs ws n n2 none none #[] #[] (by rw [← hl, ← hl2]; exact hf.line)) ⟨ho, ho2, ?_⟩
      have e : vs ++ ws = (vs.toList ++ ws.toList).toArray := by simp
      rw [e]
      exact post_newList .refl .refl X.rel (VRs_append hvs hws) (by rw [List.length_append]; exact hf) hq rfl
    · exact h.elim
  | Sub =>
    simp only [Xd] at h; split at h
    · rw [Yl] at ha hb; obtain ⟨t, rfl⟩ := ha; obtain ⟨t', rfl⟩ := hb
      exact PySem.P.sub_int (Wq X.rel (Yl.mpr ⟨_, rfl⟩) h)
    · exact h.elim
  | Mult =>
    simp only [Xd] at h; split at h
    · rw [Yl] at ha hb; obtain ⟨t, rfl⟩ := ha; obtain ⟨t', rfl⟩ := hb
      exact PySem.P.mul_int (Wq X.rel (Yl.mpr ⟨_, rfl⟩) h.2) h.1
    · exact h.elim
  | FloorDiv =>
    simp only [Xd] at h; split at h
    · rw [Yl] at ha hb; obtain ⟨t, rfl⟩ := ha; obtain ⟨t', rfl⟩ := hb
      exact floordiv_int h.1 (Wq X.rel (Yl.mpr ⟨_, rfl⟩) h.2) (.inr (pylong_ok X))
    · exact h.elim
  | Mod =>
    simp only [Xd] at h; split at h
    · rw [Yl] at ha hb; obtain ⟨t, rfl⟩ := ha; obtain ⟨t', rfl⟩ := hb
      exact mod_int' h.1 (Wq X.rel (Yl.mpr ⟨_, rfl⟩) h.2)
    · exact h.elim
  | Pow =>
    simp only [Xd] at h; split at h
    · rw [Yl] at ha hb; obtain ⟨t, rfl⟩ := ha; obtain ⟨t', rfl⟩ := hb
      exact pow_int_small h.1.1 h.1.2.1 h.1.2.2 (Wq X.rel (Yl.mpr ⟨_, rfl⟩) h.2)
    · exact h.elim
  | _ => exact h.elim
end
noncomputable def Xj (op : Operator) (t₁ t₂ : TE) : TE := fun ℓ σ Q E => t₁ ℓ σ (fun a σ₁ => t₂ ℓ σ₁ (fun b σ₂ => Xd op a b σ₂ Q) E) E
theorem Yk {op : Operator} {e₁ e₂ : Expr} {t₁ t₂ : TE} {pos : Pos} (h1 : Y5 g sc r c e₁ t₁) (h2 : Y5 g sc r c e₂ t₂) : Y5 g sc r c (.BinOp e₁ op e₂ pos) (Xj op t₁ t₂) := .mk fun A env s ℓ σ Q E X h => by
  refine wpAny_BinOp (wpAny_mono (h1.run A env s ℓ σ _ E X h) (fun u s₁ p => ?_) fun _ _ p => p)
  refine X7.elim p fun a σ₁ hu hR hx hs hq => ?_
  have X₁ := X.step hR hx
  refine wpAny_mono (h2.run A env s₁ ℓ σ₁ _ E X₁ hq) (fun v s₂ p => ?_) fun _ _ p => p.back hx hs
  refine X7.elim p fun b σ₂ hv hR2 hx2 hs2 hq2 => ?_
  exact wp_back (hx.trans hx2) (hs.trans hs2) (bin_ok (X₁.step hR2 hx2) (hx2.vr hR Xz hu) hv hq2)
noncomputable def tNot (t : TE) : TE := fun ℓ σ Q E => t ℓ σ (fun v σ₁ => match Yn v σ₁ with | some b => Q (.bool (!b)) σ₁ | none => False) E
theorem sndE_not {e : Expr} {t : TE} {pos : Pos} (h1 : Y5 g sc r c e t) : Y5 g sc r c (.UnaryOp .Not e pos) (tNot t) := .mk fun A env s ℓ σ Q E X h => by
  refine wpAny_UnaryOp (X.then (h1.run A env s ℓ σ _ E X h) fun v x s₁ σ₁ hv X₁ hx hq => ?_)
  split at hq
  · rename_i b hb; exact not_value (truth_ok X.gok X₁.rel hv hb fun tk => Wq X₁.rel (Wk.mpr rfl) hq)
  · exact hq.elim
noncomputable def tNeg (t : TE) : TE := fun ℓ σ Q E => t ℓ σ (fun v σ₁ => match v with | .int i => Q (.int (-i)) σ₁ | _ => False) E
theorem sndE_neg {e : Expr} {t : TE} {pos : Pos} (h1 : Y5 g sc r c e t) : Y5 g sc r c (.UnaryOp .USub e pos) (tNeg t) := .mk fun A env s ℓ σ Q E X h => by
  refine wpAny_UnaryOp (X.then (h1.run A env s ℓ σ _ E X h) fun v x s₁ σ₁ hv X₁ hx hq => ?_)
  split at hq
  · rw [Yl] at hv; obtain ⟨t, rfl⟩ := hv; exact PySem.P.neg_int (Wq X₁.rel (Yl.mpr ⟨_, rfl⟩) hq)
  · exact hq.elim
structure SndV (g : Gr) (sc : Scope) (r : Nat) (c : Bool) (op : BoolOp) (es : List Expr) (t : TE) : Prop where
  run : ∀ A env pos s ℓ σ Q E, Cx g sc r c A env s.heap σ ℓ → t ℓ σ Q E → wpAny (model g.prog g.w) A (boolOp pos op (evalEach es env)) (PostE g s σ Q) (Wa g A s σ E) s
noncomputable def tAnd (t ts : TE) : TE := fun ℓ σ Q E => t ℓ σ (fun v σ₁ => match Yn v σ₁ with | some true => ts ℓ σ₁ Q E | some false => Q v σ₁ | none => False) E
noncomputable def tOr (t ts : TE) : TE := fun ℓ σ Q E => t ℓ σ (fun v σ₁ => match Yn v σ₁ with | some false => ts ℓ σ₁ Q E | some true => Q v σ₁ | none => False) E
theorem sndV_one {op : BoolOp} {e : Expr} {t : TE} (h1 : Y5 g sc r c e t) : SndV g sc r c op [e] t := .mk fun A env pos s ℓ σ Q E X h => h1.run A env s ℓ σ Q E X h
theorem sndV_and {e e' : Expr} {es : List Expr} {t ts : TE} (h1 : Y5 g sc r c e t) (h2 : SndV g sc r c .And (e' :: es) ts) : SndV g sc r c .And (e :: e' :: es) (tAnd t ts) := .mk fun A env pos s ℓ σ Q E X h => by
  show wpAny _ A (do let v ← eval e env; standAt pos; let t ← holding [v] (truthy v); match BoolOp.And, t with | .And, false | .Or, true => pure v | _, _ => boolOp pos .And (evalEach (e' :: es) env)) _ _ s
  refine wpAny_bind (X.then (h1.run A env s ℓ σ _ E X h) fun v x s₁ σ₁ hv X₁ hx hq => ?_)
  refine wpAny_bind (wpAny_standAt (wpAny_bind (wpAny_holding ?_)))
  split at hq
  · rename_i hb; exact truth_ok X.gok X₁.rel hv hb fun tk => wp_back (s := s₁) (s₁ := { s₁ with toks := tk }) .refl ⟨rfl, rfl, rfl⟩ (h2.run A env pos _ ℓ σ₁ Q E X₁ hq)
  · rename_i hb; exact truth_ok X.gok X₁.rel hv hb fun tk => wpAny_pure (Wq X₁.rel hv hq)
  · exact hq.elim
theorem sndV_or {e e' : Expr} {es : List Expr} {t ts : TE} (h1 : Y5 g sc r c e t) (h2 : SndV g sc r c .Or (e' :: es) ts) : SndV g sc r c .Or (e :: e' :: es) (tOr t ts) := .mk fun A env pos s ℓ σ Q E X h => by
  show wpAny _ A (do let v ← eval e env; standAt pos; let t ← holding [v] (truthy v); match BoolOp.Or, t with | .And, false | .Or, true => pure v | _, _ => boolOp pos .Or (evalEach (e' :: es) env)) _ _ s
  refine wpAny_bind (X.then (h1.run A env s ℓ σ _ E X h) fun v x s₁ σ₁ hv X₁ hx hq => ?_)
  refine wpAny_bind (wpAny_standAt (wpAny_bind (wpAny_holding ?_)))
  split at hq
  · rename_i hb; exact truth_ok X.gok X₁.rel hv hb fun tk => wp_back (s := s₁) (s₁ := { s₁ with toks := tk }) .refl ⟨rfl, rfl, rfl⟩ (h2.run A env pos _ ℓ σ₁ Q E X₁ hq)
  · rename_i hb; exact truth_ok X.gok X₁.rel hv hb fun tk => wpAny_pure (Wq X₁.rel hv hq)
  · exact hq.elim
theorem sndE_boolop {op : BoolOp} {es : List Expr} {t : TE} {pos : Pos} (h1 : SndV g sc r c op es t) : Y5 g sc r c (.BoolOp op es pos) t := .mk fun A env s ℓ σ Q E X h => h1.run A env pos s ℓ σ Q E X h
end
section
open PySem PyProof.Rows
variable {g : Gr} {sc : Scope} {r : Nat} {c : Bool}
/-! ## items -/
noncomputable def atV (xs : List V) (k : Int) : Option V := (seqIndex? k xs.length).bind (xs[·]?)
noncomputable def itemV (o i : V) (σ : AH) (Q : V → Prop) : Prop := match o with
  | .tup xs => match i with | .int k => (match atV xs k with | some x => Q x | none => False) | _ => False
  | .frz xs => match i with | .int k => (match atV xs k with | some x => Q x | none => False) | _ => False
  | .ref a => match σ a with
    | some (.list xs) => (match i with | .int k => (match atV xs k with | some x => Q x | none => False) | _ => False)
    | some (.dictI kvs _) => (match i with | .int k => (match kvs.lookup k with | some x => Q x | none => False) | _ => False)
    | some (.dictS kvs _) => (match i with | .str k => (match kvs.lookup k with | some x => Q x | none => False) | _ => False)
    | some (.dictT kvs _) => ∃ ks : List Int, i = .tup (ks.map V.int) ∧ (match kvs.lookup ks with | some x => Q x | none => False)
    | _ => False
  | _ => False
theorem seqIndex_some {k : Int} {n j : Nat} (h : seqIndex? k n = some j) : j < n ∧ ((0 ≤ k ∧ j = k.toNat) ∨ (k < 0 ∧ -(n : Int) ≤ k ∧ j = (k + n).toNat)) := by
  unfold seqIndex? at h
  dsimp only at h
  by_cases hk : k < 0
  · rw [if_pos hk] at h
    split at h
    · rename_i q
      simp only [Bool.and_eq_true, decide_eq_true_eq] at q
      cases h
      exact ⟨by omega, .inr ⟨hk, by omega, rfl⟩⟩
    · cases h
  · rw [if_neg hk] at h
    split at h
    · rename_i q
      simp only [Bool.and_eq_true, decide_eq_true_eq] at q
      cases h
      exact ⟨by omega, .inl ⟨by omega, rfl⟩⟩
    · cases h
theorem atV_some {xs : List V} {k : Int} {x : V} (h : atV xs k = some x) : ∃ j, seqIndex? k xs.length = some j ∧ xs[j]? = some x := by
  unfold atV at h
  exact Option.bind_eq_some_iff.mp h
theorem lookup_pairs {K : Type} [DecidableEq K] {g : Gr} {h : Heap} {kvs : List (K × V)} {us : List (K × Value)} (hk : us.map (·.1) = kvs.map (·.1)) (hv : VRs g h (kvs.map (·.2)) (us.map (·.2))) {k : K} {x : V} (e : kvs.lookup k = some x) :
    ∃ v, valueAt us k = some v ∧ VR g h x v := by
  induction kvs generalizing us with
  | nil => cases e
  | cons kv kvs ih =>
    cases us with
    | nil => simp at hk
    | cons u us =>
      simp only [List.map_cons, List.cons.injEq] at hk hv
      obtain ⟨v, r, e2, h1, h2⟩ := Zv hv
      cases e2
      rw [List.lookup_cons] at e
      unfold valueAt
      rw [List.find?_cons]
      by_cases q : k = kv.1
      · have : (k == kv.1) = true := by simpa using q
        rw [this] at e; cases e
        have : decide (u.1 = k) = true := by rw [hk.1, q]; simp
        rw [this]; exact ⟨_, rfl, h1⟩
      · have : (k == kv.1) = false := by simpa using q
        rw [this] at e
        have : decide (u.1 = k) = false := by rw [hk.1]; simpa using fun z => q z.symm
        rw [this]; exact ih hk.2 h2 e
theorem lookup_keys {g : Gr} {h : Heap} {kvs : List (List Int × V)} {us : List (List Int × Addr × Value)} (hk : us.map (·.1) = kvs.map (·.1)) (hv : VRs g h (kvs.map (·.2)) (us.map (·.2.2))) {k : List Int} {x : V} (e : kvs.lookup k = some x) :
    ∃ p, atKey us k = some p ∧ VR g h x p.2 := by
  induction kvs generalizing us with
  | nil => cases e
  | cons kv kvs ih =>
    cases us with
    | nil => simp at hk
    | cons u us =>
      simp only [List.map_cons, List.cons.injEq] at hk hv
      obtain ⟨v, r, e2, h1, h2⟩ := Zv hv
      cases e2
      rw [List.lookup_cons] at e
      unfold atKey
      rw [List.find?_cons]
      by_cases q : k = kv.1
      · have : (k == kv.1) = true := by simpa using q
        rw [this] at e; cases e
        have : decide (u.1 = k) = true := by rw [hk.1, q]; simp
        rw [this]; exact ⟨_, rfl, h1⟩
      · have : (k == kv.1) = false := by simpa using q
        rw [this] at e
        have : decide (u.1 = k) = false := by rw [hk.1]; simpa using fun z => q z.symm
        rw [this]; exact ih hk.2 h2 e
section
variable {A : Around} {env : Env} {E : Value → Shared → Prop} {s : Shared} {σ : AH} {ℓ : Loc}
theorem getList_ok {l : Addr} {o : Obj} {vs : Array Value} {n : Nat} {xs : List V} {k : Int} {t : Tok} {x : V} {P : Value → Shared → Prop} (ho : s.heap.get? l = some o) (hc : o.cls = .type "list") (hd : o.data = .seq vs n) (hf : Ym xs.length) (hvs : VRs g s.heap xs vs.toList)
    (e : atV xs k = some x) (hq : ∀ v, VR g s.heap x v → P v s) : wpAny (model g.prog g.w) A (getItem (.ref l) (.int k t)) P E s := by
  obtain ⟨j, e1, e2⟩ := atV_some e
  obtain ⟨v, e3, hv⟩ := VRs_get hvs e2
  have hl := Yb hvs
  simp only [Array.length_toList] at hl
  obtain ⟨hj, hk⟩ := seqIndex_some e1
  have := hf
  unfold Ym at this
  rcases hk with ⟨h0, rfl⟩ | ⟨h0, h1, rfl⟩
  · exact wpAny_getItem_list ⟨o, ho, hc, n, hd⟩ h0 (by omega) (by rw [← Array.getElem?_toList]; exact e3) (hq v hv)
  · refine wpAny_getItem_list_neg ⟨o, ho, hc, n, hd⟩ h0 (by rw [← hl]; exact h1) (by omega) ?_ (hq v hv)
    rw [← hl, ← Array.getElem?_toList]; exact e3
theorem typeIs_at {a : Addr} {o : Obj} {T : String} (ho : s.heap.get? a = some o) (hc : o.cls = .type T) : s.TypeIs (.ref a) T := ⟨o, ho, hc⟩
theorem item_ok {value slice : Expr} {o i : V} {u v : Value} {Q : V → Prop} {P : Value → Shared → Prop} (X : Cx g sc r c A env s.heap σ ℓ) (ho : VR g s.heap o u) (hi : VR g s.heap i v) (h : itemV o i σ Q)
    (hs : ∀ a b, subscripted slice false a b = operate [a, b] (getItem a b)) (hq : ∀ x w tk, Q x → VR g s.heap x w → P w { s with toks := tk }) : wpAny (model g.prog g.w) A (subscriptTail value slice u v) P E s := by
  have hu := X.room.cline
  unfold itemV at h
  split at h
  · rename_i xs
    split at h
    · rename_i k
      split at h
      · rename_i x e
        rw [Yl] at hi; obtain ⟨t, rfl⟩ := hi
        rw [Wd] at ho; obtain ⟨hf, a, ob, vs, n, rfl, nh, hob, hc, hd, hvs⟩ := ho
        obtain ⟨j, e1, e2⟩ := atV_some e
        obtain ⟨w, e3, hw⟩ := VRs_get hvs e2
        have hl := Yb hvs
        simp only [Array.length_toList] at hl
        obtain ⟨hj, hk⟩ := seqIndex_some e1
        have := hf
        unfold Ym at this
        exact tail_any (typeIs_at hob hc) slot_tuple_getitem.lookup (getItem_tuple ⟨ob, hob, hc, n, hd⟩ (by omega) (by omega) (by rw [← hl]; exact e1) (by rw [← Array.getElem?_toList]; exact e3) (hq x w s.toks h hw)) (hs _ _)
      · exact h.elim
    · exact h.elim
  · rename_i xs
    split at h
    · rename_i k
      split at h
      · rename_i x e
        rw [Yl] at hi; obtain ⟨t, rfl⟩ := hi
        rw [VR_frz] at ho; obtain ⟨hf, a, ob, vs, n, rfl, hob, hc, hd, hvs⟩ := ho
        exact tail_any (typeIs_at (X.rel.base _ _ hob) hc) slot_list_getitem.lookup (getList_ok (X.rel.base _ _ hob) hc hd hf hvs e fun w hw => hq x w s.toks h hw) (hs _ _)
      · exact h.elim
    · exact h.elim
  · rename_i a
    rw [Yt] at ho; subst ho
    split at h
    · rename_i xs ea
      obtain ⟨_, hf, vs, n, hob, hvs⟩ := X.rel.own a _ ea
      split at h
      · rename_i k
        split at h
        · rename_i x e
          rw [Yl] at hi; obtain ⟨t, rfl⟩ := hi
          exact tail_any (typeIs_at hob rfl) slot_list_getitem.lookup (getList_ok hob rfl rfl hf hvs e fun w hw => hq x w s.toks h hw) (hs _ _)
        · exact h.elim
      · exact h.elim
    · rename_i kvs ep ea
      obtain ⟨_, hf, us, hd, hk, hvs⟩ := X.rel.own a _ ea
      split at h
      · rename_i k
        split at h
        · rename_i x e
          rw [Yl] at hi; obtain ⟨t, rfl⟩ := hi
          obtain ⟨w, e2, hw⟩ := lookup_pairs hk hvs e
          exact tail_any hd.dictOf.typeIs slot_dict_getitem.lookup (wpAny_getItem_of (intKind_is _ _ k t) hd.dictOf.mapOf e2 (hq x w _ h hw)) (hs _ _)
        · exact h.elim
      · exact h.elim
    · rename_i kvs ep ea
      obtain ⟨_, hf, us, hd, hk, hvs⟩ := X.rel.own a _ ea
      split at h
      · rename_i k
        split at h
        · rename_i x e
          rw [Xp] at hi; obtain ⟨_, t, rfl⟩ := hi
          obtain ⟨w, e2, hw⟩ := lookup_pairs hk hvs e
          exact tail_any hd.dictOf.typeIs slot_dict_getitem.lookup (wpAny_getItem_of (strKind_is _ _ k t) hd.dictOf.mapOf e2 (hq x w _ h hw)) (hs _ _)
        · exact h.elim
      · exact h.elim
    · rename_i kvs ep ea
      obtain ⟨_, hf, us, hd, hk, hvs⟩ := X.rel.own a _ ea
      obtain ⟨ks, rfl, h⟩ := h
      split at h
      · rename_i x e
        obtain ⟨ka, rfl, _, hka⟩ := tupleKey_of hi
        obtain ⟨p, e2, hw⟩ := lookup_keys hk hvs e
        exact tail_any hd.ofH.typeIs slot_dict_getitem.lookup (wpAny_getItem_heap (knd := tupleKind (intKind g.prog g.w)) (tupleKind_room_in1 (by omega)) hka hd.ofH e2 (hq x p.2 _ h hw)) (hs _ _)
      · exact h.elim
    · exact h.elim
  · exact h.elim
end
noncomputable def Zu (t₁ t₂ : TE) : TE := fun ℓ σ Q E => t₁ ℓ σ (fun a σ₁ => t₂ ℓ σ₁ (fun b σ₂ => itemV a b σ₂ fun x => Q x σ₂) E) E
theorem Zr {e₁ e₂ : Expr} {t₁ t₂ : TE} {pos : Pos} (h1 : Y5 g sc r c e₁ t₁) (h2 : Y5 g sc r c e₂ t₂) (hs : ∀ a b, subscripted e₂ false a b = operate [a, b] (getItem a b)) : Y5 g sc r c (.Subscript e₁ e₂ pos) (Zu t₁ t₂) := .mk fun A env s ℓ σ Q E X h => by
  refine Subscript_ (wpAny_mono (h1.run A env s ℓ σ _ E X h) (fun u s₁ p => ?_) fun _ _ p => p)
  refine X7.elim p fun a σ₁ hu hR hx hs1 hq => ?_
  have X₁ := X.step hR hx
  refine wpAny_mono (h2.run A env s₁ ℓ σ₁ _ E X₁ hq) (fun v s₂ p => ?_) fun _ _ p => p.back hx hs1
  refine X7.elim p fun b σ₂ hv hR2 hx2 hs2 hq2 => ?_
  exact wp_back (hx.trans hx2) (hs1.trans hs2) (item_ok (X₁.step hR2 hx2) (hx2.vr hR Xz hu) hv hq2 hs fun x w tk hx hw => Wq hR2 hw hx)
/-! ## slices by bounds that are not negative -/
noncomputable def loN : Option Int → Nat
  | some a => a.toNat
  | none => 0
noncomputable def hiN (n : Nat) : Option Int → Nat
  | some b => min b.toNat n
  | none => n
noncomputable def takeV {α : Type} (xs : List α) : Option Int → List α
  | some b => xs.take b.toNat
  | none => xs
noncomputable def cutV {α : Type} (lo hi : Option Int) (xs : List α) : List α := (takeV xs hi).drop (loN lo)
noncomputable def Nonneg : Option Int → Prop
  | some a => 0 ≤ a
  | none => True
theorem cutV_length {α : Type} (lo hi : Option Int) (xs : List α) : (cutV lo hi xs).length ≤ xs.length := by
  unfold cutV
  rw [List.length_drop]
  cases hi with
  | none => exact Nat.sub_le _ _
  | some b => unfold takeV; rw [List.length_take]; omega
theorem VRs_cut {g : Gr} {h : Heap} {xs : List V} {vs : List Value} (lo hi : Option Int) (a : VRs g h xs vs) : VRs g h (cutV lo hi xs) (cutV lo hi vs) := by
  unfold cutV
  cases hi with
  | none => exact VRs_drop _ a
  | some b => exact VRs_drop _ (VRs_take _ a)
theorem run_eq_cut {α : Type} (xs : List α) (a b : Nat) : (xs.drop (min a xs.length)).take (min b xs.length - min a xs.length) = (xs.take b).drop a := by
  rw [List.drop_take, List.take_eq_take_min (i := b - a), List.length_drop, Nat.sub_min_sub_right]
  rcases Nat.le_total a xs.length with q | q
  · rw [Nat.min_eq_left q]
  · rw [Nat.min_eq_right q, List.drop_eq_nil_of_le (Nat.le_refl _), List.drop_eq_nil_of_le q, List.take_nil, List.take_nil]
theorem clipN {a : Int} (h : 0 ≤ a) (n : Nat) : min a (n : Int) = ((min a.toNat n : Nat) : Int) := by
  obtain ⟨m, rfl⟩ := Int.eq_ofNat_of_zero_le h
  rw [Int.toNat_natCast]
  rcases Nat.le_total m n with q | q
  · rw [Nat.min_eq_left q, Int.min_eq_left (Int.ofNat_le.2 q)]
  · rw [Nat.min_eq_right q, Int.min_eq_right (Int.ofNat_le.2 q)]
theorem hiN_take {α : Type} (xs : List α) (hi : Option Int) : takeV xs hi = xs.take (hiN xs.length hi) := by
  cases hi with
  | none => unfold takeV hiN; rw [List.take_length]
  | some b => unfold takeV hiN; rw [← List.take_take, List.take_length]
theorem hiN_le (n : Nat) (hi : Option Int) : hiN n hi ≤ n := by cases hi <;> simp only [hiN] <;> omega
theorem slicePick_cut (items : Array Value) {lo hi : Option Int} (h1 : Nonneg lo) (h2 : Nonneg hi) : (slicePick items lo hi none).toList = cutV lo hi items.toList := by
  have hn : items.toList.length = items.size := by simp
  have e : sliceBounds lo hi none items.size = (((min (loN lo) items.size : Nat) : Int), ((hiN items.size hi : Nat) : Int), 1) := by
    simp only [sliceBounds, Option.getD_none, show (1 : Int) > 0 by decide, if_true]
    congr 1
    · cases lo with
      | none => simp [loN]
      | some a => have : 0 ≤ a := h1
                  unfold loN; dsimp only; rw [if_neg (Int.not_lt.2 this), clipN this]; exact Int.max_eq_right (Int.natCast_nonneg _)
    · congr 1
      cases hi with
      | none => rfl
      | some b => have : 0 ≤ b := h2
                  unfold hiN; dsimp only; rw [if_neg (Int.not_lt.2 this), clipN this]; exact Int.max_eq_right (Int.natCast_nonneg _)
  unfold slicePick
  rw [e]
  simp only [sliceRange_one, pick_run]
  unfold cutV
  rw [hiN_take]
  have := run_eq_cut items.toList (loN lo) (hiN items.toList.length hi)
  rw [Nat.min_eq_left (hiN_le _ hi), hn] at this
  rw [hn]
  exact this
end
section
open PySem PyProof.Rows
variable {g : Gr} {sc : Scope} {r : Nat} {c : Bool}
section
variable {prog : Program} {w : World} {A : Around} {E : Value → Shared → Prop} {s : Shared}
theorem slicePart_part {v : Value} {k : Option Int} {Q : Option Int → Shared → Prop} (p : IsPart v k) (h : Q k s) : wpAny (model prog w) A (Builtin.Slice.slicePartIndex v) Q E s := by
  cases p with
  | none => exact slicePart_none h
  | int i t => exact slicePart_int h
theorem adjust_cut {lo hi : Option Int} (h1 : Nonneg lo) (h2 : Nonneg hi) (n : Nat) : Builtin.Slice.sliceAdjust lo hi 1 (n : Int) = (((min (loN lo) n : Nat) : Int), ((hiN n hi : Nat) : Int)) := by
  unfold Builtin.Slice.sliceAdjust
  have e : ¬ ((1 : Int) < 0) := by omega
  simp only [e, if_false]
  congr 1
  · cases lo with
    | none => simp [loN]
    | some a => have : 0 ≤ a := h1
                simp only [loN]; rw [if_neg (Int.not_lt.2 this), clipN this]
  · cases hi with
    | none => rfl
    | some b => have : 0 ≤ b := h2
                simp only [hiN]; rw [if_neg (Int.not_lt.2 this), clipN this]
theorem places_cut (a b : Nat) : Builtin.Slice.slicePlaces (a : Int) (b : Int) 1 = b - a := by
  unfold Builtin.Slice.slicePlaces
  have h1 : (1 : Int) > 0 := by omega
  simp only [h1, if_true, Int.ediv_one]
  split <;> omega
theorem sliceApplied_cut {sl : Addr} {vl vu : Value} {lo hi : Option Int} {n : Nat} {Q : Int × Int × Nat → Shared → Prop} (hs : s.heap.IsSliceOf sl vl vu .none) (p1 : IsPart vl lo) (p2 : IsPart vu hi) (h1 : Nonneg lo) (h2 : Nonneg hi)
    (h : Q (((min (loN lo) n : Nat) : Int), 1, hiN n hi - min (loN lo) n) s) : wpAny (model prog w) A (Builtin.Slice.sliceApplied (.ref sl) (pure (n : Int))) Q E s := by
  obtain ⟨os, hos, hcs, hds⟩ := id hs
  unfold Builtin.Slice.sliceApplied Builtin.Slice.sliceFields
  refine wpAny_bind (wpAny_bind (wpAny_field hos hds (x := vl) rfl (wpAny_bind (wpAny_field hos hds (x := vu) rfl (wpAny_bind (wpAny_field hos hds (x := .none) rfl (wpAny_pure ?_)))))))
  refine wpAny_bind (slicePart_none ?_)
  show wpAny _ _ (if ((1 : Int) == 0) = true then _ else _) _ _ s
  rw [if_neg (by decide)]
  refine wpAny_bind (slicePart_part p1 (wpAny_bind (slicePart_part p2 (wpAny_bind (wpAny_pure ?_)))))
  show wpAny _ _ (match Builtin.Slice.sliceAdjust lo hi 1 (n : Int) with | (lo, hi) => pure (lo, (1 : Int), Builtin.Slice.slicePlaces lo hi 1)) _ _ s
  rw [adjust_cut h1 h2]
  show wpAny _ _ (pure (((min (loN lo) n : Nat) : Int), (1 : Int), Builtin.Slice.slicePlaces ((min (loN lo) n : Nat) : Int) ((hiN n hi : Nat) : Int) 1)) _ _ s
  rw [places_cut]
  exact wpAny_pure h
theorem pick_cut (xs : Array Value) (lo hi : Option Int) : ((List.range (hiN xs.size hi - min (loN lo) xs.size)).filterMap fun (k : Nat) => xs[(((min (loN lo) xs.size : Nat) : Int) + (k : Int) * 1).toNat]?) = cutV lo hi xs.toList := by
  have hn : xs.toList.length = xs.size := by simp
  have e : (fun (k : Nat) => xs[(((min (loN lo) xs.size : Nat) : Int) + (k : Int) * 1).toNat]?) = fun k => xs[min (loN lo) xs.size + k]? := by
    funext k
    rw [Int.mul_one]; rfl
  rw [e]
  have := pick_run xs (min (loN lo) xs.size) (hiN xs.size hi - min (loN lo) xs.size)
  rw [List.filterMap_map] at this
  have e2 : ((fun x => xs[x]?) ∘ fun x => min (loN lo) xs.size + x) = fun k => xs[min (loN lo) xs.size + k]? := rfl
  rw [e2] at this
  rw [this]
  unfold cutV
  rw [hiN_take]
  have q := run_eq_cut xs.toList (loN lo) (hiN xs.toList.length hi)
  rw [Nat.min_eq_left (hiN_le _ hi), hn] at q
  rw [hn]; exact q
theorem getItem_tuple_cut {t sl : Addr} {items : Array Value} {vl vu : Value} {lo hi : Option Int} {Q : Value → Shared → Prop} (ht : IsTup s.heap t items) (hs : s.heap.IsSliceOf sl vl vu .none) (p1 : IsPart vl lo) (p2 : IsPart vu hi) (h1 : Nonneg lo) (h2 : Nonneg hi)
    (hq1 : cutV lo hi items.toList = items.toList → Q (.ref t) s) (hq2 : Q (.ref s.heap.objs.size) { s with heap := s.heap.push { cls := .type "tuple", data := .seq (cutV lo hi items.toList).toArray } })
    (hsz : items.size ≤ sizeLine) : wpAny (model prog w) A (getItem (.ref t) (.ref sl)) Q E s := by
  have hdrop : sizeOk (.seq (cutV lo hi items.toList).toArray) := by
    show (cutV lo hi items.toList).toArray.size ≤ sizeLine
    have h3 := cutV_length lo hi items.toList
    have h4 : items.toList.length = items.size := by simp
    have h5 : (cutV lo hi items.toList).toArray.size = (cutV lo hi items.toList).length := List.size_toArray
    omega
  obtain ⟨os, hos, hcs, hds⟩ := id hs
  have hTs : s.TypeIs (.ref sl) "slice" := ⟨os, hos, hcs⟩
  unfold getItem
  try with_reducible refine wpAny_holding ?_
  refine wpAny_bind (wpAny_sequenceKey ht.typeIs (by decide) ?_)
  refine wpAny_bind (wpAny_callSpecial?_slot (name := Str.ofString "__getitem__") ht.typeIs slot_tuple_getitem
    (wpAny_call_entry slot_tuple_getitem ht.typeIs entry_tuple_getitem ?_ (args_tuple_getitem _ _)))
  show wpAny _ _ (Builtin.Tuple.tupleItemsOf (.ref t) >>= _) _ _ s
  refine wpAny_bind (tupleItemsOf_ ht ?_)
  refine wpAny_bind (wpAny_typeOf hTs ?_)
  rw [if_pos (by decide)]
  refine wpAny_bind (sliceApplied_cut hs p1 p2 h1 h2 ?_)
  show wpAny _ _ (if (((min (loN lo) items.size : Nat) : Int) == 0 && (1 : Int) == 1 && (hiN items.size hi - min (loN lo) items.size) == items.size) = true then _ else _) _ _ s
  split
  · rename_i q
    simp only [Bool.and_eq_true, beq_iff_eq] at q
    have e : cutV lo hi items.toList = items.toList := by
      rw [← pick_cut, q.2]
      have : min (loN lo) items.size = 0 := by omega
      rw [this]
      have e2 := pick_run items 0 items.size
      rw [List.filterMap_map] at e2
      have e3 : ((fun x => items[x]?) ∘ fun x => 0 + x) = fun (k : Nat) => items[(((0 : Nat) : Int) + (k : Int) * 1).toNat]? := by
        funext k
        show items[0 + k]? = _
        congr 1; omega
      rw [e3] at e2
      rw [e2, List.drop_zero]
      exact List.take_of_length_le (by simp)
    refine wpAny_bind (m := Builtin.Tuple.tupleIsExact (.ref t)) ?_
    unfold Builtin.Tuple.tupleIsExact
    refine wpAny_bind (wpAny_typeOf ht.typeIs (wpAny_pure ?_))
    rw [if_pos (by decide)]
    exact wpAny_bind (wpAny_rule (wpAny_pure ⟨_, rfl, wpAny_pure (hq1 e)⟩))
  · rw [pick_cut]
    exact wpAny_bind (m := Builtin.Tuple.tupleExact _) (wpAny_newObj_type (wpAny_pure ⟨_, rfl, wpAny_pure hq2⟩) hdrop)
end
structure SndO (g : Gr) (sc : Scope) (r : Nat) (c : Bool) (e : Option Expr) (t : TE) : Prop where
  run : ∀ A env s ℓ σ Q E, Cx g sc r c A env s.heap σ ℓ → t ℓ σ Q E → wpAny (model g.prog g.w) A (evalPart e env) (PostE g s σ Q) (Wa g A s σ E) s
theorem sndO_none : SndO g sc r c none (Zi .none) := .mk fun A env s ℓ σ Q E X h => wpAny_pure (.here (Wj.mpr rfl) X.rel h)
theorem sndO_some {e : Expr} {t : TE} (h1 : Y5 g sc r c e t) : SndO g sc r c (some e) t := .mk h1.run
noncomputable def Yz : V → Option (Option Int)
  | .none => some none
  | .int i => some (some i)
  | _ => none
theorem isPart_of {g : Gr} {h : Heap} {x : V} {v : Value} {k : Option Int} (hv : VR g h x v) (e : Yz x = some k) : IsPart v k := by
  cases x with
  | none => rw [Wj] at hv; subst hv; cases e; exact .none
  | int i => rw [Yl] at hv; obtain ⟨t, rfl⟩ := hv; cases e; exact .int i t
  | _ => cases e
noncomputable def Y0 (o : V) (lo hi : V) (σ : AH) (Q : V → AH → Prop) : Prop := match Yz lo, Yz hi with
  | some l, some h => Nonneg l ∧ Nonneg h ∧ (match o with
    | .tup xs => Q (.tup (cutV l h xs)) σ
    | .frz xs => ∀ a, σ a = none → Q (.ref a) (σ.set a (.list (cutV l h xs)))
    | .ref a => (match σ a with
      | some (.list xs) => ∀ a, σ a = none → Q (.ref a) (σ.set a (.list (cutV l h xs)))
      | _ => False)
    | _ => False)
  | _, _ => False
noncomputable def Y1 (t t₁ t₂ : TE) : TE := fun ℓ σ Q E => t ℓ σ (fun o σ₁ => t₁ ℓ σ₁ (fun lo σ₂ => t₂ ℓ σ₂ (fun hi σ₃ => Y0 o lo hi σ₃ Q) E) E) E
theorem sndE_slice {e : Expr} {lo hi : Option Expr} {t t₁ t₂ : TE} {p pos : Pos} (h0 : Y5 g sc r c e t) (h1 : SndO g sc r c lo t₁) (h2 : SndO g sc r c hi t₂) : Y5 g sc r c (.Subscript e (.Slice lo hi none p) pos) (Y1 t t₁ t₂) := .mk fun A env s ℓ σ Q E X h => by
  refine Subscript_ (wpAny_mono (h0.run A env s ℓ σ _ E X h) (fun u s₁ q => ?_) fun _ _ q => q)
  obtain ⟨o, σ₁, hu, hR, hx, hs1, hq⟩ := q
  have X₁ := X.step hR hx
  refine wpAny_Slice (wpAny_mono (h1.run A env s₁ ℓ σ₁ _ E X₁ hq) (fun vl s₂ q => ?_) fun _ _ q => q.back hx hs1)
  obtain ⟨lo', σ₂, hl, hR2, hx2, hs2, hq2⟩ := q
  have X₂ := X₁.step hR2 hx2
  have hx02 := hx.trans hx2
  have hs02 := hs1.trans hs2
  refine wpAny_mono (h2.run A env s₂ ℓ σ₂ _ E X₂ hq2) (fun vu s₃ q => ?_) fun _ _ q => q.back hx02 hs02
  obtain ⟨hi', σ₃, hh, hR3, hx3, hs3, hq3⟩ := q
  have X₃ := X₂.step hR3 hx3
  have hx03 := hx02.trans hx3
  have hs03 := hs02.trans hs3
  rw [evalPart_none]
  refine wpAny_pure ?_
  have hu3 : VR g s₃.heap o u := hx3.vr hR2 Xz (hx2.vr hR Xz hu)
  have hl3 := hx3.vr hR2 Xz hl
  unfold Y0 at hq3
  split at hq3
  · rename_i l hb e1 e2
    obtain ⟨n1, n2, hq3⟩ := hq3
    have p1 := isPart_of hl3 e1
    have p2 := isPart_of hh e2
    have hk := X9 s₃.heap { cls := .type "slice", data := .fields #[vl, vu, .none] }
    have sub : ∀ a b, subscripted (.Slice lo hi none p) false a b = operate [b, a] (getItem a b) := fun _ _ => rfl
    have hR4 := hR3.keeps hk
    have hx04 : Ext No s.heap σ (s₃.heap.push { cls := .type "slice", data := .fields #[vl, vu, .none] }) σ₃ := hx03.trans (.keeps hk)
    have hs04 : Xu s { s₃ with heap := s₃.heap.push { cls := .type "slice", data := .fields #[vl, vu, .none] } } := hs03.trans ⟨rfl, rfl, rfl⟩
    have cutL : ∀ (a : Addr) (ob : Obj) (vs : Array Value) (n : Nat) (xs : List V), s₃.heap.get? a = some ob → ob.cls = .type "list" → ob.data = .seq vs n → Ym xs.length → VRs g s₃.heap xs vs.toList →
        (∀ a, σ₃ a = none → Q (.ref a) (σ₃.set a (.list (cutV l hb xs)))) →
        wpAny (model g.prog g.w) A (subscriptTail e (.Slice lo hi none p) (.ref a) (.ref s₃.heap.objs.size)) (PostE g s σ Q) (Wa g A s σ E) { s₃ with heap := s₃.heap.push { cls := .type "slice", data := .fields #[vl, vu, .none] } } := by
      intro a ob vs n xs hob hc hd hf hvs hQ
      have hlen := Yb hvs
      simp only [Array.length_toList] at hlen
      refine tail_any (typeIs_at (s := { s₃ with heap := s₃.heap.push { cls := .type "slice", data := .fields #[vl, vu, .none] } }) (hk _ _ hob) hc) slot_list_getitem.lookup ?_ (sub _ _)
      refine wpAny_getItem_list_slice (s := { s₃ with heap := s₃.heap.push { cls := .type "slice", data := .fields #[vl, vu, .none] } }) ⟨ob, hk _ _ hob, hc, n, hd⟩ (Heap.IsSliceOf.new ..) p1 p2 .none (by simp) ?_ (by rw [← hlen]; exact hf.line)
      refine post_newList (vs := (slicePick vs l hb none).toList) (n := 0) (s₁ := { s₃ with heap := s₃.heap.push { cls := .type "slice", data := .fields #[vl, vu, .none] } }) hx04 hs04 hR4 ?_ (hf.le (cutV_length ..)) hQ rfl
      rw [slicePick_cut vs n1 n2]
      exact VRs_cut _ _ (VRs.mono (fun a o _ _ _ e _ _ => .of (hk a o e)) hvs)
    split at hq3
    · rename_i xs
      rw [Wd] at hu3; obtain ⟨hf, a, ob, vs, n, rfl, nh, hob, hc, hd, hvs⟩ := hu3
      have hlen := Yb hvs
      simp only [Array.length_toList] at hlen
      have ht : IsTup (s₃.heap.push { cls := .type "slice", data := .fields #[vl, vu, .none] }) a vs := ⟨ob, hk _ _ hob, hc, n, hd⟩
      have hvs4 := VRs.mono (g := g) (h' := s₃.heap.push { cls := .type "slice", data := .fields #[vl, vu, .none] }) (fun a o _ _ _ e _ _ => .of (hk a o e)) hvs
      refine tail_any (typeIs_at (s := { s₃ with heap := s₃.heap.push { cls := .type "slice", data := .fields #[vl, vu, .none] } }) (hk _ _ hob) hc) slot_tuple_getitem.lookup ?_ (sub _ _)
      refine getItem_tuple_cut (s := { s₃ with heap := s₃.heap.push { cls := .type "slice", data := .fields #[vl, vu, .none] } }) ht (Heap.IsSliceOf.new ..) p1 p2 n1 n2 (fun ec => ?_) ?_ (by rw [← hlen]; exact hf.line)
      · have : cutV l hb xs = xs := by
          apply List.ext_getElem?
          have h1 := Yb (VRs_cut l hb hvs)
          rw [ec] at h1
          have h2 : (cutV l hb xs).length = xs.length := by rw [h1]; simp [hlen]
          intro i
          unfold cutV at h2 ⊢
          rw [List.length_drop] at h2
          have h4 : (takeV xs hb).length ≤ xs.length := by
            cases hb with
            | none => exact Nat.le_refl _
            | some b => simp only [takeV]; rw [List.length_take]; omega
          by_cases h5 : xs.length = 0
          · have : xs = [] := List.length_eq_zero_iff.mp h5
            subst this
            cases hb <;> simp [takeV]
          · have h6 : loN l = 0 := by omega
            rw [h6, List.drop_zero]
            cases hb with
            | none => rfl
            | some b =>
              simp only [takeV] at h2 h4 ⊢
              rw [h6, List.length_take] at h2
              rw [List.take_of_length_le (by omega)]
        rw [this] at hq3
        exact ⟨.tup xs, σ₃, Wd.mpr ⟨hf, a, ob, vs, n, rfl, nh, hk _ _ hob, hc, hd, hvs4⟩, hR4, hx04, hs04, hq3⟩
      · exact post_newTuple (s₁ := { s₃ with heap := s₃.heap.push { cls := .type "slice", data := .fields #[vl, vu, .none] } }) (n := 0) hx04 hs04 hR4 (VRs_cut l hb hvs4) (hf.le (cutV_length ..)) hq3 rfl
    · rename_i xs
      rw [VR_frz] at hu3; obtain ⟨hf, a, ob, vs, n, rfl, hob, hc, hd, hvs⟩ := hu3
      exact cutL a ob vs n xs (hR3.base _ _ hob) hc hd hf hvs hq3
    · rename_i a
      rw [Yt] at hu3; subst hu3
      split at hq3
      · rename_i xs ea
        obtain ⟨_, hf, vs, n, hob, hvs⟩ := hR3.own a _ ea
        exact cutL a _ vs n xs hob rfl rfl hf hvs hq3
      · exact hq3.elim
    · exact hq3.elim
  · exact hq3.elim
end
section
open PySem PyProof.Rows
variable {g : Gr} {sc : Scope} {r : Nat} {c : Bool}
theorem ofString_inj {a b : String} (h : Str.ofString a = Str.ofString b) : a = b := by
  rw [Str.ofString_eq_toList, Str.ofString_eq_toList] at h
  have h1 : (a.toList.map Char.toNat).toArray = (b.toList.map Char.toNat).toArray := Str.mk.inj h
  have h2 : a.toList.map Char.toNat = b.toList.map Char.toNat := by simpa using h1
  have h3 : a.toList = b.toList := by
    have inj : ∀ (x y : List Char), x.map Char.toNat = y.map Char.toNat → x = y := by
      intro x
      induction x with
      | nil => intro y e; cases y with | nil => rfl | cons _ _ => simp at e
      | cons c x ih =>
        intro y e
        cases y with
        | nil => simp at e
        | cons d y =>
          simp only [List.map_cons, List.cons.injEq] at e
          have : c = d := Char.toNat_inj.mp e.1
          rw [this, ih y e.2]
    exact inj _ _ h2
  exact String.toList_inj.mp h3
/-! ## statements -/
inductive Fl where
  | next
  | brk
  | cont
  | ret (v : V)
noncomputable def FRel (g : Gr) (h : Heap) : Fl → Flow → Prop
  | .next, f => f = .next
  | .brk, f => f = .brk
  | .cont, f => f = .cont
  | .ret v, f => ∃ u, f = .ret u ∧ VR g h v u
noncomputable abbrev TS := Loc → AH → (Fl → Loc → AH → Prop) → (Addr → Loc → AH → Prop) → Prop
noncomputable def Own (env : Env) : Addr → Prop := fun a => a = env.locals ∨ ∃ x, env.cells.lookup x = some a
inductive PostS (g : Gr) (env : Env) (s : Shared) (σ : AH) (Q : Fl → Loc → AH → Prop) (f : Flow) (s' : Shared) : Prop
  | mk (f' : Fl) (ℓ' : Loc) (σ' : AH) (h0 : FRel g s'.heap f' f) (h1 : LR g s'.heap σ' env ℓ') (h2 : Rel g s'.heap σ') (h3 : Ext (Own env) s.heap σ s'.heap σ') (h4 : Xu s s') (h5 : Q f' ℓ' σ') : PostS g env s σ Q f s'
inductive PostXB (g : Gr) (nt : Bool) (A : Around) (env : Env) (s : Shared) (σ : AH) (E : Addr → Loc → AH → Prop) (e : Value) (s' : Shared) : Prop
  | mk (C : Addr) (ℓ' : Loc) (σ' : AH) (h1 : XAt g nt s.heap s'.heap e C σ') (h2 : LR g s'.heap σ' env ℓ') (h3 : Rel g s'.heap σ') (h4 : Ext (Own env) s.heap σ s'.heap σ') (h5 : Xu s s') (h6 : E C ℓ' σ') : PostXB g nt A env s σ E e s'
noncomputable abbrev PostXS (g : Gr) := PostXB g false
section
variable (g : Gr) (sc : Scope) (r : Nat) (c : Bool)
structure SndS (st : Stmt) (t : TS) : Prop where
  run : ∀ A env s ℓ σ Q E, Cx g sc r c A env s.heap σ ℓ → t ℓ σ Q E → wpAny (model g.prog g.w) A (exec st env) (PostS g env s σ Q) (PostXS g A env s σ E) s
structure SndSs (st : List Stmt) (t : TS) : Prop where
  run : ∀ A env s ℓ σ Q E, Cx g sc r c A env s.heap σ ℓ → t ℓ σ Q E → wpAny (model g.prog g.w) A (execs st env) (PostS g env s σ Q) (PostXS g A env s σ E) s
end
section
variable {A : Around} {env : Env} {s s₁ : Shared} {σ σ₁ : AH} {ℓ ℓ₁ : Loc}
theorem LR.noSeq {h : Heap} (L : LR g h σ env ℓ) : NoSeq (Own env) h := by
  rintro a o (rfl | ⟨x, e⟩) ho vs n hd
  · obtain ⟨m, ⟨o', es, ep, ho', hd', _⟩, _⟩ := L.ns
    rw [ho] at ho'; cases ho'; rw [hd] at hd'; cases hd'
  · obtain ⟨o', u, ho', hd'⟩ := L.cell x a e
    rw [ho] at ho'; cases ho'; rw [hd] at hd'; cases hd'
theorem LR.noFields {h : Heap} (L : LR g h σ env ℓ) {a : Addr} (w : Own env a) : ∃ o, h.get? a = some o ∧ ∀ vs, o.data ≠ .fields vs := by
  rcases w with rfl | ⟨x, e⟩
  · obtain ⟨m, ⟨o', es, ep, ho', hd', _⟩, _⟩ := L.ns
    exact ⟨o', ho', fun vs q => by rw [q] at hd'; cases hd'⟩
  · obtain ⟨o', u, ho', hd'⟩ := L.cell x a e
    exact ⟨o', ho', fun vs q => by rw [q] at hd'; cases hd'⟩
theorem LR.dicts {h h' : Heap} (L : LR g h σ env ℓ) (L' : LR g h' σ₁ env ℓ₁) (a : Addr) (o : Obj) (es : Array DictEntry) (n : Nat) (w : Own env a) (ho : h.get? a = some o) (hd : o.data = .dict es n) : ∃ o' es' n', h'.get? a = some o' ∧ o'.data = .dict es' n' := by
  rcases w with rfl | ⟨x, e⟩
  · obtain ⟨m, ⟨o', es', ep, ho', hd', _⟩, _⟩ := L'.ns
    exact ⟨o', es', ep, ho', hd'⟩
  · obtain ⟨o', u, ho', hd'⟩ := L.cell x a e
    rw [ho] at ho'; cases ho'; rw [hd] at hd'; cases hd'
theorem Cx.stepS (X : Cx g sc r c A env s.heap σ ℓ) (L : LR g s₁.heap σ₁ env ℓ₁) (R : Rel g s₁.heap σ₁) (x : Ext (Own env) s.heap σ s₁.heap σ₁) : Cx g sc r c A env s₁.heap σ₁ ℓ₁ :=
  ⟨X.gok, X.ok, L, X.fr.step x (X.loc.dicts L), X.room, R⟩
theorem PostS.back {Q : Fl → Loc → AH → Prop} (x : Ext (Own env) s.heap σ s₁.heap σ₁) (y : Xu s s₁) {f : Flow} {s' : Shared} (p : PostS g env s₁ σ₁ Q f s') : PostS g env s σ Q f s' :=
  let ⟨a, b, d, h1, h2, h3, h4, h5, h6⟩ := p; ⟨a, b, d, h1, h2, h3, x.trans h4, y.trans h5, h6⟩
theorem PostXS.back {E : Addr → Loc → AH → Prop} (x : Ext (Own env) s.heap σ s₁.heap σ₁) (y : Xu s s₁) {f : Value} {s' : Shared} (p : PostXS g A env s₁ σ₁ E f s') : PostXS g A env s σ E f s' :=
  let ⟨a, b, d, h1, h2, h3, h4, h5, h6⟩ := p; ⟨a, b, d, h1.back x.pres, h2, h3, x.trans h4, y.trans h5, h6⟩
theorem ws_back {M : Model} {t : Sem Flow} {Q : Fl → Loc → AH → Prop} {E : Addr → Loc → AH → Prop} (x : Ext (Own env) s.heap σ s₁.heap σ₁) (y : Xu s s₁) (h : wpAny M A t (PostS g env s₁ σ₁ Q) (PostXS g A env s₁ σ₁ E) s₁) : wpAny M A t (PostS g env s σ Q) (PostXS g A env s σ E) s₁ :=
  wpAny_mono h (fun _ _ p => p.back x y) fun _ _ p => p.back x y
theorem Ext.own {h h' : Heap} (x : Ext No h σ h' σ₁) : Ext (Own env) h σ h' σ₁ := x.weaken fun _ n => n.elim
theorem Wa.toS {E : Addr → Loc → AH → Prop} (X : Cx g sc r c A env s.heap σ ℓ) {e : Value} {s' : Shared} (p : Wa g A s σ (fun C σ' => E C ℓ σ') e s') : PostXS g A env s σ E e s' :=
  let ⟨C, σ', h1, h2, h3, h4, h5⟩ := p; ⟨C, ℓ, σ', h1, X.loc.step X.rel h3, h2, h3.own, h4, h5⟩
theorem store_ok {n : String} {k : NameKind} {x : V} {u : Value} {P : Unit → Shared → Prop} {E : Value → Shared → Prop} (X : Cx g sc r c A env s.heap σ ℓ) (hm : (Str.ofString n, k) ∈ sc.names) (hk : (k == .local || k == .cell) = true) (hv : VR g s.heap x u)
    (h : ∀ s' a, (k = .local → a = env.locals) → (k = .cell → env.cells.lookup (Str.ofString n) = some a) → Own env a → LR g s'.heap σ env (ℓ.set n x) → Rel g s'.heap σ → Ext (· = a) s.heap σ s'.heap σ → Xu s s' → P () s') : wpAny (model g.prog g.w) A (storeName env (Str.ofString n) u) P E s := by
  have hcls : (env.scope.kind == .class || (env.scope.kind == .module && env.locals != env.globals)) = false := by rw [X.ok.kind]; rfl
  have kd : env.kindOf (Str.ofString n) = some k := by
    rcases X.ok.kinds _ _ hm with q | ⟨q, _⟩
    · exact q
    · subst q; cases hk
  have relOf : ∀ (a : Addr) (h' : Heap), Own env a → Heap.SameBut a s.heap h' → (∃ o, h'.get? a = some o) → Rel g h' σ := fun a h' w hs hp => by
    have hoff : σ a = none ∧ g.b0.get? a = none := by
      rcases w with rfl | ⟨y, e⟩
      · exact X.loc.off
      · exact ⟨(X.loc.offc y a e).1, (X.loc.offc y a e).2.2⟩
    have hne : ∀ b, b = a → σ b = none := fun b q => by rw [q]; exact hoff.1
    refine ⟨fun b hb => ?_, fun b o q => (hs.2 b fun z => ?_).trans (X.rel.base b o q), fun b bo q => ⟨(X.rel.own b bo q).1, OR_mono (fun d o vs m _ y t dd => .of ((hs.2 d fun z => ?_).trans y)) (fun o y => (hs.2 b fun z => ?_).trans y) (X.rel.own b bo q).2⟩⟩
    · by_cases z : b = a
      · rw [z]; exact hp
      · obtain ⟨o, q⟩ := X.rel.hid b hb; exact ⟨o, (hs.2 b z).trans q⟩
    · rw [z, hoff.2] at q; cases q
    · exact X.loc.noSeq d o (by rw [z]; exact w) y vs m dd
    · rw [z, hoff.1] at q; cases q
  have extOf : ∀ (a : Addr) (h' : Heap), Own env a → Heap.SameBut a s.heap h' → (∃ o, h'.get? a = some o) → Ext (· = a) s.heap σ h' σ := fun a h' w hs hp =>
    ⟨fun b o q _ nw => .of ((hs.2 b fun z => nw z).trans q), fun b o q => by
      by_cases z : b = a
      · rw [z]; exact hp
      · exact ⟨o, (hs.2 b z).trans q⟩, fun b q => .inl q⟩
  cases k with
  | «local» =>
    obtain ⟨m, hn, hmm⟩ := X.loc.ns
    refine wpAny_storeName_local kd hn (fun h' hn' hs' => ?_) hcls
    have w : Own env env.locals := .inl rfl
    have pr : ∃ o, h'.get? env.locals = some o := let ⟨o, _, _, e, _⟩ := hn'; ⟨o, e⟩
    have R' := relOf _ h' w hs' pr
    have x' := extOf _ h' w hs' pr
    have kv : ∀ {v : V} {u : Value}, VR g s.heap v u → VR g h' v u := x'.vr X.rel fun b o z => X.loc.noSeq b o (z ▸ w)
    refine h { s with heap := h', toks := s.toks + 1 } env.locals (fun _ => rfl) (fun z => nomatch z) w ⟨⟨_, hn', fun y v e kk => ?_⟩, fun y cc e => ?_, fun y v e kk => ?_, X.loc.off, X.loc.offc, X.loc.apart, X.loc.has⟩ R' x' ⟨rfl, rfl, rfl⟩
    · rw [Loc.set_at] at e
      split at e
      · rename_i z; subst z; cases e; exact ⟨u, by simp, kv hv⟩
      · rename_i z
        obtain ⟨u', e1, e2⟩ := hmm y v e kk
        exact ⟨u', by rw [if_neg fun q => z (ofString_inj q)]; exact e1, kv e2⟩
    · obtain ⟨o, u', ho, hd⟩ := X.loc.cell y cc e
      exact ⟨o, u', (hs'.2 cc (X.loc.offc y cc e).2.1).trans ho, hd⟩
    · rw [Loc.set_at] at e
      split at e
      · rename_i z; subst z; rw [kd] at kk; rcases kk with kk | kk <;> cases kk
      · obtain ⟨cc, u', e1, ho, hu⟩ := X.loc.cells y v e kk
        obtain ⟨o, e2, e3⟩ := ho
        exact ⟨cc, u', e1, ⟨o, (hs'.2 cc (X.loc.offc _ cc e1).2.1).trans e2, e3⟩, kv hu⟩
  | cell =>
    have : ∃ cc, env.cells.lookup (Str.ofString n) = some cc := X.loc.has _ (.inl kd)
    obtain ⟨cc, ec⟩ := this
    obtain ⟨o, v0, ho, hd⟩ := X.loc.cell _ cc ec
    refine wpAny_storeName_cell X.ok.kind kd ec ⟨o, ho, hd⟩ fun h' hc' hs' => ?_
    have w : Own env cc := .inr ⟨_, ec⟩
    have pr : ∃ o, h'.get? cc = some o := let ⟨o, e, _⟩ := hc'; ⟨o, e⟩
    have R' := relOf _ h' w hs' pr
    have x' := extOf _ h' w hs' pr
    have kv : ∀ {v : V} {u : Value}, VR g s.heap v u → VR g h' v u := x'.vr X.rel fun b o z => X.loc.noSeq b o (z ▸ w)
    have hnl : env.locals ≠ cc := fun q => (X.loc.offc _ cc ec).2.1 q.symm
    obtain ⟨m, hn, hmm⟩ := X.loc.ns
    refine h { s with heap := h' } cc (fun z => nomatch z) (fun _ => ec) w ⟨⟨m, hn.sameBut hs' hnl, fun y v e kk => ?_⟩, fun y cc' e => ?_, fun y v e kk => ?_, X.loc.off, X.loc.offc, X.loc.apart, X.loc.has⟩ R' x' ⟨rfl, rfl, rfl⟩
    · rw [Loc.set_at] at e
      split at e
      · rename_i z; subst z; rw [kd] at kk; cases kk
      · obtain ⟨u', e1, e2⟩ := hmm y v e kk
        exact ⟨u', e1, kv e2⟩
    · by_cases z : cc' = cc
      · obtain ⟨o', e1, e2⟩ := hc'; exact ⟨o', _, by rw [z]; exact e1, e2⟩
      · obtain ⟨o', u', ho', hd'⟩ := X.loc.cell y cc' e
        exact ⟨o', u', (hs'.2 cc' z).trans ho', hd'⟩
    · rw [Loc.set_at] at e
      split at e
      · rename_i z; subst z; cases e; exact ⟨cc, u, ec, hc', kv hv⟩
      · rename_i z
        obtain ⟨c2, u', e1, ho', hu⟩ := X.loc.cells y v e kk
        obtain ⟨o2, e2, e3⟩ := ho'
        have ne : c2 ≠ cc := fun q => z (ofString_inj (X.loc.apart _ _ cc (q ▸ e1) ec))
        exact ⟨c2, u', e1, ⟨o2, (hs'.2 c2 ne).trans e2, e3⟩, kv hu⟩
  | _ => cases hk
end
end
section
open PySem PyProof.Rows
variable {g : Gr} {sc : Scope} {r : Nat} {c : Bool}
structure Touch (g : Gr) (h0 h h' : Heap) (σ : AH) : Prop where
  up : ∀ a o, h.get? a = some o → (h0.get? a ≠ none ∨ ∀ vs, o.data ≠ .fields vs) → UpTo h' a o
  pres : ∀ a o, h.get? a = some o → ∃ o', h'.get? a = some o'
  own : ∀ a o, h.get? a = some o → σ a ≠ none → h'.get? a = some o
  base : ∀ a o, g.b0.get? a = some o → h.get? a = some o → h'.get? a = some o
section
variable {h0 h h' h'' : Heap} {σ σ0 : AH} {env : Env} {ℓ : Loc} {A : Around}
theorem Touch.refl : Touch g h0 h h σ := ⟨fun _ _ e _ => .of e, fun _ o e => ⟨o, e⟩, fun _ _ e _ => e, fun _ _ _ e => e⟩
theorem Touch.trans (t : Touch g h0 h h' σ) (u : Touch g h0 h' h'' σ) : Touch g h0 h h'' σ := by
  refine ⟨fun a o e k => ?_, fun a o e => let ⟨o', e'⟩ := t.pres a o e; u.pres a o' e', fun a o e k => u.own a o (t.own a o e k) k, fun a o b e => u.base a o b (t.base a o b e)⟩
  obtain ⟨sl, e1⟩ := (t.up a o e k).sl
  refine (t.up a o e k).then fun o' e' => u.up a o' e' (k.imp id fun d vs q => ?_)
  rw [e1] at e'; cases e'; exact d vs q
theorem Touch.tups (t : Touch g h0 h h' σ) : Y8 g h h' := fun a o vs n _ e _ d => t.up a o e (.inr fun us q => by rw [d] at q; cases q)
theorem Touch.rel (t : Touch g h0 h h' σ) (R : Rel g h σ) : Rel g h' σ :=
  ⟨fun a ha => let ⟨o, e⟩ := R.hid a ha; t.pres a o e, fun a o e => t.base a o e (R.base a o e), fun a ao e => ⟨(R.own a ao e).1, OR_mono t.tups (fun o e' => t.own a o e' (by rw [e]; simp)) (R.own a ao e).2⟩⟩
theorem Touch.ext (t : Touch g h0 h h' σ) {W : Addr → Prop} (x : Ext W h0 σ0 h σ) : Ext W h0 σ0 h' σ :=
  ⟨fun a o e n w => (x.keep a o e n w).then fun o' e' => t.up a o' e' (.inl (by rw [e]; simp)), fun a o e => let ⟨o', e'⟩ := x.pres a o e; t.pres a o' e', x.dom⟩
theorem Touch.ns (t : Touch g h0 h h' σ) {a : Addr} {m : Str → Option Value} (n : h.Ns a m) : h'.Ns a m := ns_upTo n fun o e => t.up _ o e (.inr fun vs q => by
  obtain ⟨o', es, ep, e', d', _⟩ := n; rw [e] at e'; cases e'; rw [q] at d'; cases d')
theorem Touch.loc (t : Touch g h0 h h' σ) (L : LR g h σ env ℓ) : LR g h' σ env ℓ := by
  have kv : ∀ {v : V} {u : Value}, VR g h v u → VR g h' v u := VR.mono t.tups
  obtain ⟨m, hn, hm⟩ := L.ns
  have hc : ∀ x c o, env.cells.lookup x = some c → h.get? c = some o → UpTo h' c o := fun x c o e eo => t.up c o eo (.inr fun vs q => by
    obtain ⟨o', u, e', d'⟩ := L.cell x c e; rw [eo] at e'; cases e'; rw [q] at d'; cases d')
  refine ⟨⟨m, t.ns hn, fun y v a b => let ⟨u, e, f⟩ := hm y v a b; ⟨u, e, kv f⟩⟩, fun y c e => ?_, fun y v a k => ?_, L.off, L.offc, L.apart, L.has⟩
  · obtain ⟨o, u, ho, hd⟩ := L.cell y c e
    obtain ⟨sl, ho'⟩ := (hc y c o e ho).sl
    exact ⟨_, u, ho', hd⟩
  · obtain ⟨c, u, e, ho, hv⟩ := L.cells y v a k
    exact ⟨c, u, e, cell_upTo ho fun o z => hc _ c o e z, kv hv⟩
theorem Touch.fr (t : Touch g h0 h h' σ) (F : FrOk g A env h σ) : FrOk g A env h' σ := by
  obtain ⟨e0, outer, hA, hf, ff, off, r1, r2, r3, r4⟩ := F
  obtain ⟨k1, k2⟩ := frames_step (W := No) (h' := h') (σ' := σ) (fun a o es n e d q => by
    obtain ⟨sl, e1⟩ := (t.up a o e (.inr fun vs z => by rw [d] at z; cases z)).sl
    exact ⟨q, _, es, n, e1, d⟩) _ ff off
  exact ⟨e0, outer, hA, hf, k1, k2, r1, r2, r3, r4⟩
end
theorem dict_map (f : Array Value → Array Value) (o : Obj) : (Obj.mapFields f o).dict = o.dict := by
  obtain ⟨c, d, dt, sl⟩ := o; cases dt <;> rfl
section
variable {M : Model} {A : Around} {env : Env} {s : Shared} {σ : AH} {h0 : Heap} {e : Value} {C : Addr} {Q : Unit → Shared → Prop} {E : Value → Shared → Prop}
theorem tb_set {a T : Addr} {o oT : Obj} {vs ts : Array Value} (x0 : h0.get? a = none) (xb : g.b0.get? a = none) (xs : σ a = none) (xo : s.heap.get? a = some o) (xc : o.cls = .ref C) (xn : o.dict = none) (xd : o.data = .fields vs) (xz : 1 < vs.size)
    (et : vs[1]? = some (.ref T)) (ne : T ≠ a) (t0 : h0.get? T = none) (tb : g.b0.get? T = none) (ts0 : σ T = none) (ho : s.heap.get? T = some oT) (hd : oT.data = .fields ts) (hs : 3 < ts.size) {v : Value}
    (k : ∀ s', Touch g h0 s.heap s'.heap σ → XAt g true h0 s'.heap (.ref a) C σ → Xu s s' → Q () s') : wpAny M A (setField (.ref T) 3 v) Q E s := by
  have other : ∀ b, b ≠ T → (s.heap.update T (Obj.mapFields (·.setIfInBounds 3 v))).get? b = s.heap.get? b := fun b hb => Heap.get?_update_other _ _ (Ne.symm hb)
  have hd' := Obj.data_mapFields hd (·.setIfInBounds 3 v)
  have self := Heap.get?_update_self (Obj.mapFields (·.setIfInBounds 3 v)) ho (Obj.isFreed_of_fields hd')
  refine wpAny_setField ho hd hs (k _ ⟨fun b o' e k => ?_, fun b o' e => ?_, fun b o' e k => ?_, fun b o' b0 e => ?_⟩ ?_ ⟨rfl, rfl, rfl⟩)
  · refine .of ((other b fun z => ?_).trans e)
    subst z
    rcases k with k | k
    · exact k t0
    · rw [ho] at e; cases e; exact k _ hd
  · by_cases z : b = T
    · subst z; exact ⟨_, self⟩
    · exact ⟨o', (other b z).trans e⟩
  · exact (other b fun z => k (z ▸ ts0)).trans e
  · exact (other b fun z => by rw [z, tb] at b0; cases b0).trans e
  · exact ⟨a, o, vs, rfl, x0, xb, xs, (other a (Ne.symm ne)).trans xo, xc, xn, xd, xz, .inr ⟨T, _, _, et, ne, t0, tb, ts0, self, hd', by simpa using hs⟩⟩
theorem flight_ok {fr : Option Addr} (x : XAt g true h0 s.heap e C σ) (k : ∀ s', Touch g h0 s.heap s'.heap σ → XAt g true h0 s'.heap e C σ → Xu s s' → Q () s') : wpAny M A (setFlight e fr) Q E s := by
  obtain ⟨a, o, vs, rfl, x0, xb, xs, xo, xc, xn, xd, xz, xt⟩ := x
  rcases xt with ⟨z, _⟩ | ⟨T, oT, ts, et, ne, t0, tb, ts0, ho, hd, hs⟩
  · cases z
  unfold setFlight
  refine wpAny_bind (wpAny_field xo xd et ?_)
  rw [if_pos (show (Value.ref T != Value.none) = true from by simp)]
  exact tb_set x0 xb xs xo xc xn xd xz et ne t0 tb ts0 ho hd hs k
theorem came_ok {P : Value → Shared → Prop} (x : XAt g true h0 s.heap e C σ) (k : ∀ s', Touch g h0 s.heap s'.heap σ → XAt g true h0 s'.heap e C σ → Xu s s' → P e s') : cameBackBy M A env P e s := by
  have y := x
  obtain ⟨a, o, vs, rfl, x0, xb, xs, xo, xc, xn, xd, xz, xt⟩ := x
  rcases xt with ⟨z, _⟩ | ⟨T, oT, ts, et, ne, t0, tb, ts0, ho, hd, hs⟩
  · cases z
  show wpAny M A (field (.ref a) 1 >>= _) _ _ _
  refine wpAny_bind (wpAny_field xo xd et ?_)
  rw [if_neg (by simp)]
  exact flight_ok y fun s' t x hs => k s' t x hs
theorem pass_ok {α : Type} {what : String} {cenv : Env} {Q : α → Shared → Prop} (x : XAt g true h0 s.heap e C σ) (k : ∀ s', Touch g h0 s.heap s'.heap σ → XAt g true h0 s'.heap e C σ → Xu s s' → E e s') : wpAny M A (PySem.passOn what e cenv : Sem α) Q E s := by
  have y := x
  obtain ⟨a, o, vs, rfl, x0, xb, xs, xo, xc, xn, xd, xz, xt⟩ := x
  rcases xt with ⟨z, _⟩ | ⟨T, oT, ts, et, ne, t0, tb, ts0, ho, hd, hs⟩
  · cases z
  unfold PySem.passOn
  refine wpAny_bind (wpAny_field xo xd et ?_)
  rw [if_neg (by simp)]
  exact wpAny_bind (flight_ok y fun s' t x hs => wpAny_throw (k s' t x hs))
theorem entry_ok {nt : Bool} {L a : Addr} {head : Value} {had : Bool} (F : FrOk g A env s.heap σ) (hL : env.frame = some L) (R : Rel g s.heap σ) (hp : ∀ b o, h0.get? b = some o → ∃ o', s.heap.get? b = some o') (x : XAt g nt h0 s.heap (.ref a) C σ)
    (k : ∀ s', Touch g h0 s.heap s'.heap σ → XAt g true h0 s'.heap (.ref a) C σ → Xu s s' → Q () s') :
    wpAny M A (do let fr ← PySem.frameOf env; let pl ← entryPlaceOf L had; let b ← EntryCells.newEntry head fr .none (rawInt L) .none pl; setField (.ref a) 1 b) Q E s := by
  obtain ⟨e0, outer, hA, hf0, ff, off, _⟩ := F
  obtain ⟨a', o, vs, ea, x0, xb, xs, xo, xc, xn, xd, xz, xt⟩ := x
  cases ea
  have hfL : e0.frame = some L := hf0.trans hL
  have hfo : PySem.frameOf env = PySem.frameOf e0 := by unfold PySem.frameOf; rw [hf0]
  have hS : ∀ b, b ∈ (e0 :: outer).filterMap (·.frame) → OffFr s.heap σ b := fun b hb => let ⟨e, he, hf⟩ := List.mem_filterMap.mp hb; off e he b hf
  have aS : a ∉ (e0 :: outer).filterMap (·.frame) := fun hb => by
    obtain ⟨_, o', es, n, e', d'⟩ := hS a hb
    rw [xo] at e'; cases e'; rw [xd] at d'; cases d'
  rw [hfo]
  refine wpAny_bind (wpAny_frameOf_fun hA ff hfL fun h₁ hs₁ => ?_)
  refine wpAny_bind (wpAny_entryPlaceOf fun pl hpl => ?_)
  unfold EntryCells.newEntry newFields
  refine wpAny_bind (wpAny_newObj_type ?_ (hpl.sizeOk5 _ _ _ _ _))
  have ha₁ : h₁.get? a = some o := (hs₁.2.1 a aS).trans xo
  dsimp only
  generalize hts : ([head, Value.ref L, .none, rawInt L, .none] ++ (if pl.isEmpty then List.replicate 6 Value.none else pl)).toArray = ts
  have htz : 3 < ts.size := by rw [← hts]; simp only [List.size_toArray, List.length_append, List.length_cons, List.length_nil]; omega
  have ha₂ := Heap.get?_push_of_some (h := h₁) { cls := .type "traceback", dict := none, data := .fields ts } ha₁
  refine wpAny_setField ha₂ xd xz ?_
  have hTa : h₁.objs.size ≠ a := Nat.ne_of_gt (Heap.lt_size ha₁)
  have hd₃ := Obj.data_mapFields xd (·.setIfInBounds 1 (Value.ref h₁.objs.size))
  have self := Heap.get?_update_self (Obj.mapFields (·.setIfInBounds 1 (Value.ref h₁.objs.size))) ha₂ (Obj.isFreed_of_fields hd₃)
  have keep : ∀ b o', b ≠ a → h₁.get? b = some o' → ((h₁.push { cls := .type "traceback", dict := none, data := .fields ts }).update a (Obj.mapFields (·.setIfInBounds 1 (Value.ref h₁.objs.size)))).get? b = some o' := fun b o' hb e => by
    rw [Heap.get?_update_other _ _ (Ne.symm hb)]; exact Heap.get?_push_of_some _ e
  have fresh : s.heap.get? h₁.objs.size = none := Heap.get?_none_of_le (by rw [hs₁.1]; exact Nat.le_refl _)
  have fb : g.b0.get? h₁.objs.size = none := by
    cases q : g.b0.get? h₁.objs.size with
    | none => rfl
    | some o => rw [R.base _ o q] at fresh; cases fresh
  have f0 : h0.get? h₁.objs.size = none := by
    cases q : h0.get? h₁.objs.size with
    | none => rfl
    | some o => obtain ⟨o', z⟩ := hp _ o q; rw [fresh] at z; cases z
  refine k _ ⟨fun b o' e kk => ?_, fun b o' e => ?_, fun b o' e kk => ?_, fun b o' b0 e => ?_⟩ ?_ ⟨rfl, rfl, rfl⟩
  · have hb : b ≠ a := fun z => by
      subst z
      rcases kk with kk | kk
      · exact kk x0
      · rw [xo] at e; cases e; exact kk _ xd
    by_cases z : b ∈ (e0 :: outer).filterMap (·.frame)
    · obtain ⟨_, o2, es, n, e2, d2⟩ := hS b z
      rw [e] at e2; cases e2
      obtain ⟨sl, e3⟩ := hs₁.2.2 b o' e
      exact .inr ⟨es, n, sl, d2, keep b _ hb e3⟩
    · exact .of (keep b o' hb ((hs₁.2.1 b z).trans e))
  · by_cases z : b = a
    · subst z; exact ⟨_, self⟩
    · obtain ⟨sl, e3⟩ := hs₁.2.2 b o' e
      exact ⟨_, keep b _ z e3⟩
  · exact keep b o' (fun z => kk (z ▸ xs)) ((hs₁.2.1 b fun z => kk (hS b z).1).trans e)
  · refine keep b o' (fun z => by rw [z, xb] at b0; cases b0) ((hs₁.2.1 b fun z => ?_).trans e)
    rw [(ff.mem z).1] at b0; cases b0
  · refine ⟨a, _, _, rfl, x0, xb, xs, self, (Obj.cls_mapFields _ _).trans xc, (dict_map _ _).trans xn, hd₃, by simpa using xz, .inr ⟨h₁.objs.size, { cls := .type "traceback", dict := none, data := .fields ts }, ts, by simp [xz], hTa, f0, fb, R.fresh fresh, ?_, rfl, htz⟩⟩
    rw [Heap.get?_update_other _ _ (Ne.symm hTa)]
    exact Heap.get?_push_size h₁ rfl
theorem note_ok {nt : Bool} (F : FrOk g A env s.heap σ) (R : Rel g s.heap σ) (hp : ∀ b o, h0.get? b = some o → ∃ o', s.heap.get? b = some o') (x : XAt g nt h0 s.heap e C σ)
    (k : ∀ s', Touch g h0 s.heap s'.heap σ → XAt g true h0 s'.heap e C σ → Xu s s' → Q () s') : wpAny M A (noteFrame e env) Q E s := by
  have hL : ∃ L, env.frame = some L := by
    obtain ⟨e0, outer, hA, hf0, ⟨_, ⟨L, _, hfL, _⟩, _⟩, _⟩ := F
    exact ⟨L, hf0 ▸ hfL⟩
  obtain ⟨L, hL⟩ := hL
  have y := x
  obtain ⟨a, o, vs, rfl, x0, xb, xs, xo, xc, xn, xd, xz, xt⟩ := x
  unfold noteFrame
  simp only [hL]
  rcases xt with ⟨_, h1⟩ | ⟨T, oT, ts, et, ne, t0, tb, ts0, ho, hd, hs⟩
  · refine wpAny_bind (wpAny_field xo xd h1 ?_)
    rw [if_neg (by decide)]
    exact entry_ok F hL R hp y k
  · refine wpAny_bind (wpAny_field xo xd et ?_)
    rw [if_pos (show (Value.ref T != Value.none) = true from by simp)]
    refine wpAny_bind (wpAny_field ho hd (Array.getElem?_eq_getElem hs) ?_)
    by_cases hv : (ts[3] == rawInt L) = true
    · rw [if_pos hv]
      exact wpAny_pure (k _ .refl ⟨a, o, vs, rfl, x0, xb, xs, xo, xc, xn, xd, xz, .inr ⟨T, oT, ts, et, ne, t0, tb, ts0, ho, hd, hs⟩⟩ .refl)
    · rw [if_neg hv]
      refine wpAny_bind (tb_set x0 xb xs xo xc xn xd xz et ne t0 tb ts0 ho hd hs fun s' t x hs' => ?_)
      exact entry_ok (t.fr F) hL (t.rel R) (fun b o e => let ⟨o', e'⟩ := hp b o e; t.pres b o' e') x fun s'' t' x' hs'' => k s'' (t.trans t') x' (hs'.trans hs'')
end
end
section
open PySem PyProof.Rows
variable {g : Gr} {sc : Scope} {r : Nat} {c : Bool}
section
variable {A : Around} {env : Env} {s s₁ : Shared} {σ σ₁ : AH} {ℓ ℓ₁ : Loc} {Q : Fl → Loc → AH → Prop} {E : Addr → Loc → AH → Prop}
theorem PostXB.noted {e : Value} {s' : Shared} (X : Cx g sc r c A env s.heap σ ℓ) (p : PostXS g A env s σ E e s') {P : Value → Shared → Prop} (k : ∀ e s', PostXB g true A env s σ E e s' → P e s') : notedBy (model g.prog g.w) A env P e s' :=
  let ⟨C, ℓ', σ', h1, h2, h3, h4, h5, h6⟩ := p
  note_ok (X.fr.step h4 (X.loc.dicts h2)) h3 h4.pres h1 fun s'' t x hs => k _ _ ⟨C, ℓ', σ', x, t.loc h2, t.rel h3, t.ext h4, h5.trans hs, h6⟩
theorem PostXB.came {e : Value} {s' : Shared} (p : PostXB g true A env s σ E e s') {P : Value → Shared → Prop} (k : ∀ e s', PostXS g A env s σ E e s' → P e s') : cameBackBy (model g.prog g.w) A env P e s' :=
  let ⟨C, ℓ', σ', h1, h2, h3, h4, h5, h6⟩ := p
  came_ok h1 fun s'' t x hs => k _ _ ⟨C, ℓ', σ', x.weak, t.loc h2, t.rel h3, t.ext h4, h5.trans hs, h6⟩
theorem PostS.here {f : Fl} {u : Flow} (X : Cx g sc r c A env s.heap σ ℓ) (hf : FRel g s.heap f u) (h : Q f ℓ σ) : PostS g env s σ Q u s := ⟨f, ℓ, σ, hf, X.loc, X.rel, .refl, .refl, h⟩
end
/-! ## blocks -/
noncomputable def Z3 : TS := fun ℓ σ Q _ => Q .next ℓ σ
noncomputable def tSeq (t ts : TS) : TS := fun ℓ σ Q E => t ℓ σ (fun f ℓ' σ' => match f with | .next => ts ℓ' σ' Q E | f => Q f ℓ' σ') E
theorem Zl : SndSs g sc r c [] Z3 := .mk fun A env s ℓ σ Q E X h => wpAny_execs_nil (.here (f := .next) X rfl h)
theorem Ze {st : Stmt} {rest : List Stmt} {t ts : TS} (h1 : SndS g sc r c st t) (h2 : SndSs g sc r c rest ts) : SndSs g sc r c (st :: rest) (tSeq t ts) := .mk fun A env s ℓ σ Q E X h => by
  refine wpAny_execs_cons (wpAny_mono (h1.run A env s ℓ σ _ E X h) (fun f s₁ p => ?_) fun _ _ p => p)
  obtain ⟨f', ℓ', σ', hf, hL, hR, hx, hs, hq⟩ := p
  cases f' with
  | next => cases hf; exact ws_back hx hs (h2.run A env s₁ ℓ' σ' Q E (X.stepS hL hR hx) hq)
  | brk => cases hf; exact ⟨.brk, ℓ', σ', rfl, hL, hR, hx, hs, hq⟩
  | cont => cases hf; exact ⟨.cont, ℓ', σ', rfl, hL, hR, hx, hs, hq⟩
  | ret v => obtain ⟨u, rfl, hv⟩ := hf; exact ⟨.ret v, ℓ', σ', ⟨u, rfl, hv⟩, hL, hR, hx, hs, hq⟩
noncomputable def Z8 (t : TE) : TS := fun ℓ σ Q E => t ℓ σ (fun v σ' => Q (.ret v) ℓ σ') fun C σ' => E C ℓ σ'
theorem Zw {e : Expr} {t : TE} {pos : Pos} (h1 : Y5 g sc r c e t) : SndS g sc r c (.Return (some e) pos) (Z8 t) := .mk fun A env s ℓ σ Q E X h => by
  refine wpAny_Return_some (wpAny_mono (h1.run A env s ℓ σ _ _ X h) (fun v s₁ p => ?_) fun _ _ p => p.toS X)
  refine X7.elim p fun x σ₁ hv hR hx hs hq => ?_
  exact ⟨.ret x, ℓ, σ₁, ⟨v, rfl, hv⟩, X.loc.step X.rel hx, hR, hx.own, hs, hq⟩
noncomputable def tDo (t : TE) : TS := fun ℓ σ Q E => t ℓ σ (fun _ σ' => Q .next ℓ σ') fun C σ' => E C ℓ σ'
theorem EnvOk.notInteractive {env : Env} (k : EnvOk sc env) : interactive env = false := by
  unfold interactive; simp [k.kind]
theorem Wl {e : Expr} {t : TE} {pos : Pos} (h1 : Y5 g sc r c e t) (hs : ∀ env, swapsWith e none pos.line env = pure false) : SndS g sc r c (.Expr e pos) (tDo t) := .mk fun A env s ℓ σ Q E X h => by
  refine wpAny_Expr_any (wpAny_mono (h1.run A env s ℓ σ _ _ X h) (fun v s₁ p => ?_) fun _ _ p => p.toS X) X.ok.notInteractive (hs env)
  refine X7.elim p fun x σ₁ hv hR hx hs hq => ?_
  exact ⟨.next, ℓ, σ₁, rfl, X.loc.step X.rel hx, hR, hx.own, hs, hq⟩
noncomputable def Xa (t : TB) (a b : TS) : TS := fun ℓ σ Q E => t ℓ σ (fun x σ' => match x with | true => a ℓ σ' Q E | false => b ℓ σ' Q E) fun C σ' => E C ℓ σ'
theorem Wo {e : Expr} {t : TB} {body orelse : List Stmt} {a b : TS} {pos : Pos} (h1 : SndB g sc r c e t) (h2 : SndSs g sc r c body a) (h3 : SndSs g sc r c orelse b) : SndS g sc r c (.If e body orelse pos) (Xa t a b) := .mk fun A env s ℓ σ Q E X h => by
  refine wpAny_If (wpAny_mono (h1.run A env s ℓ σ _ _ X h) (fun v s₁ p => ?_) fun _ _ p => p.toS X)
  obtain ⟨x, σ₁, rfl, hR, hx, hs, hq⟩ := p
  cases x with
  | true => exact ws_back hx.own hs (h2.run A env s₁ ℓ σ₁ Q E (X.step hR hx) hq)
  | false => exact ws_back hx.own hs (h3.run A env s₁ ℓ σ₁ Q E (X.step hR hx) hq)
/-! ## binding -/
noncomputable def Zm (n : String) (t : TE) : TS := fun ℓ σ Q E => t ℓ σ (fun v σ' => Q .next (ℓ.set n v) σ') fun C σ' => E C ℓ σ'
theorem Z9 {n : String} {k : NameKind} {p' pos : Pos} {e : Expr} {t : TE} (hm : (Str.ofString n, k) ∈ sc.names) (hk : (k == .local || k == .cell) = true) (h1 : Y5 g sc r c e t)
    (hs : ∀ env, swapsWith e (some (.Name (Str.ofString n) p')) pos.line env = pure false) : SndS g sc r c (.Assign [.Name (Str.ofString n) p'] e pos) (Zm n t) := .mk fun A env s ℓ σ Q E X h => by
  refine wpAny_Assign_Name (wpAny_mono (h1.run A env s ℓ σ _ _ X h) (fun v s₁ p => ?_) fun _ _ p => p.toS X) (hs env)
  refine X7.elim p fun x σ₁ hv hR hx hs hq => ?_
  exact store_ok (X.step hR hx) hm hk hv fun s' a _ _ w hL hR' hx' hs' => ⟨.next, _, σ₁, rfl, hL, hR', hx.own.trans (hx'.weaken fun b z => z ▸ w), hs.trans hs', hq⟩
/-! ## targets -/
inductive Tgt where
  | name (n : String)
  | tup (ns : List String)
noncomputable def Loc.setAll (ℓ : Loc) : List String → List V → Loc
  | n :: ns, v :: vs => (ℓ.set n v).setAll ns vs
  | _, _ => ℓ
noncomputable def partsV (v : V) (σ : AH) : Option (List V) := match v with
  | .tup vs => some vs
  | .frz vs => some vs
  | .ref a => match σ a with | some (.list vs) => some vs | _ => none
  | _ => none
noncomputable def Zj (t : Tgt) (v : V) (ℓ : Loc) (σ : AH) (P : Loc → Prop) : Prop := match t with
  | .name n => P (ℓ.set n v)
  | .tup ns => match partsV v σ with | some vs => vs.length = ns.length ∧ P (ℓ.setAll ns vs) | none => False
inductive NamesAre (sc : Scope) : List Expr → List String → Prop
  | nil : NamesAre sc [] []
  | cons {n : String} {k : NameKind} {pos : Pos} {es : List Expr} {ns : List String} (hm : (Str.ofString n, k) ∈ sc.names) (hk : (k == .local || k == .cell) = true) (h : NamesAre sc es ns) : NamesAre sc (.Name (Str.ofString n) pos :: es) (n :: ns)
inductive TgtIs (sc : Scope) : Expr → Tgt → Prop
  | name {n : String} {k : NameKind} {pos : Pos} (hm : (Str.ofString n, k) ∈ sc.names) (hk : (k == .local || k == .cell) = true) : TgtIs sc (.Name (Str.ofString n) pos) (.name n)
  | tup {es : List Expr} {ns : List String} {k : Nat} {pos : Pos} (h : NamesAre sc es ns) : TgtIs sc (.Tuple es k pos) (.tup ns)
section
variable {A : Around} {env : Env} {s : Shared} {σ : AH} {ℓ : Loc} {E : Value → Shared → Prop}
inductive Bound (g : Gr) (W : Addr → Prop) (env : Env) (s : Shared) (σ : AH) (P : Loc → Prop) (s' : Shared) : Prop
  | mk (ℓ' : Loc) (h1 : LR g s'.heap σ env ℓ') (h2 : Rel g s'.heap σ) (h3 : Ext W s.heap σ s'.heap σ) (h4 : Xu s s') (h5 : P ℓ') : Bound g W env s σ P s'
noncomputable def Writes (W : Addr → Prop) (sc : Scope) (env : Env) : Prop := (∀ a, W a → Own env a) ∧ ∀ n k a, (Str.ofString n, k) ∈ sc.names → (k = .local → a = env.locals) → (k = .cell → env.cells.lookup (Str.ofString n) = some a) → (k == .local || k == .cell) = true → W a
theorem writes_own {env : Env} : Writes (Own env) sc env := ⟨fun _ w => w, fun n k a hm h1 h2 hk => by
  cases k <;> first | exact .inl (h1 rfl) | exact .inr ⟨_, h2 rfl⟩ | cases hk⟩
theorem NamesAre.length {es : List Expr} {ns : List String} (h : NamesAre sc es ns) (env : Env) : (assignEach es env).length = ns.length := by
  induction h with
  | nil => rfl
  | cons hm hk h ih => show (_ :: assignEach _ env).length = _; simp [ih]
theorem NamesAre.noStar {es : List Expr} {ns : List String} (h : NamesAre sc es ns) (env : Env) : (assignEach es env).findIdx? (·.1) = none := by
  induction h with
  | nil => rfl
  | @cons n k pos es ns hm hk h ih => show ((false, assign (.Name (Str.ofString n) pos) env) :: assignEach es env).findIdx? (·.1) = none; simp [List.findIdx?_cons, ih]
theorem inOrder_ok {W : Addr → Prop} (hW : Writes W sc env) {P : Loc → Prop} {es : List Expr} {ns : List String} (hn : NamesAre sc es ns) : ∀ {s : Shared} {ℓ : Loc} {xs : List V} {us : List Value}, Cx g sc r c A env s.heap σ ℓ → VRs g s.heap xs us → xs.length = ns.length → P (ℓ.setAll ns xs) →
    wpAny (model g.prog g.w) A (assignInOrder ((assignEach es env).map (·.2)) us) (fun _ s' => Bound g W env s σ P s') E s := by
  induction hn with
  | nil =>
    intro s ℓ xs us X hv hl h
    have : xs = [] := List.length_eq_zero_iff.mp hl
    subst this
    rw [Yr hv]
    exact wpAny_pure ⟨ℓ, X.loc, X.rel, .refl, .refl, h⟩
  | @cons n k pos es ns hm hk hn ih =>
    intro s ℓ xs us X hv hl h
    cases xs with
    | nil => simp at hl
    | cons x xs =>
      obtain ⟨u, us, rfl, hx, hxs⟩ := Zv hv
      show wpAny _ A (do holding us (assign (.Name (Str.ofString n) pos) env u); assignInOrder ((assignEach es env).map (·.2)) us) _ E s
      refine wpAny_bind (wpAny_holding (wpAny_assign_Name (store_ok X hm hk hx fun s' a q1 q2 w hL hR hx' hs' => ?_)))
      replace hx' := hx'.weaken (W' := W) fun b z => z ▸ hW.2 n k a hm q1 q2 hk
      have hx'' := hx'.weaken (W' := Own env) hW.1
      refine wpAny_mono (ih (X.stepS hL hR hx'') (hx''.vrs X.rel X.loc.noSeq hxs) (by simpa using hl) h) (fun _ s'' p => ?_) fun _ _ p => p
      obtain ⟨ℓ', h1, h2, h3, h4, h5⟩ := p
      exact ⟨ℓ', h1, h2, hx'.trans h3, hs'.trans h4, h5⟩
theorem draw_list {it l : Addr} {items : Array Value} (hne : l ≠ it) : ∀ (n i : Nat) (s : Shared) (Q : List Value → Shared → Prop), s.heap.IsListIter it l i → s.heap.IsList l items → i + n ≤ items.size →
    (∀ h', h'.IsListIter it l (i + n) → Heap.SameBut it s.heap h' → Q ((items.toList.drop i).take n) { s with heap := h' }) → wpAny (model g.prog g.w) A (draw (.ref it) n) Q E s
  | 0, i, s, Q, hit, _, _, hQ => by
    show wpAny _ _ (pure []) Q E s
    exact wpAny_pure (by simpa using hQ s.heap hit (Heap.SameBut.refl ..))
  | n + 1, i, s, Q, hit, ht, hle, hQ => by
    have hlt : i < items.size := by omega
    show wpAny _ _ (pyNext (.ref it) >>= _) Q E s
    refine wpAny_bind (wpAny_pyNext_list_item hit ht (x := items[i]) (by simp [hlt]) fun h₁ hit₁ hs₁ => ?_)
    refine wpAny_bind (wpAny_holding (draw_list hne n (i + 1) _ _ hit₁ (ht.extBut hs₁.extBut hne) (by omega) fun h₂ hit₂ hs₂ => wpAny_pure ?_))
    have hd : items.toList.drop i = items[i] :: items.toList.drop (i + 1) := by simp [List.drop_eq_getElem_cons, hlt]
    have := hQ h₂ (by rw [show i + (n + 1) = i + 1 + n by omega]; exact hit₂) (hs₁.trans hs₂)
    rw [hd, List.take_succ_cons] at this
    exact this
theorem unpackItems_list {t : Addr} {items : Array Value} {Q : List Value → Shared → Prop} (hh : A.handled = none) (ht : s.heap.IsList t items)
    (hQ : ∀ h', Heap.ExtBut s.heap.objs.size s.heap h' → Q items.toList { s with heap := h' }) : wpAny (model g.prog g.w) A (unpackItems (.ref t) items.size none) Q E s := by
  have hlt : t ≠ s.heap.objs.size := by obtain ⟨o, ho, _⟩ := ht; exact Nat.ne_of_lt (Heap.lt_size ho)
  unfold unpackItems
  refine wpAny_bind ?_
  · unfold notIterableAtAll
    refine wpAny_bind (wpAny_specialOf ht.typeIs slot_list_iter.lookup ?_)
    refine wpAny_pure ?_
    simp only [Bool.false_eq_true, if_false]
    refine wpAny_bind (wpAny_holding (wpAny_pyIter_list ht ?_))
    refine wpAny_bind (wpAny_holding (draw_list hlt items.size 0 _ _ ⟨_, Heap.get?_push_size _ rfl, rfl, rfl⟩ (ht.push _) (by omega) fun h₁ hit₁ hs₁ => ?_))
    have hall : List.take items.size (List.drop 0 items.toList) = items.toList := by
      rw [List.drop_zero]; exact List.take_of_length_le (by simp)
    rw [hall]
    rw [if_neg (by simp)]
    have ht₁ : h₁.IsList t items := (ht.push _).extBut hs₁.extBut hlt
    refine wpAny_bind (wpAny_holding (wpAny_pyNext_list_end hh hit₁ ht₁ (by simp) fun h₂ he₂ => ?_))
    simp only [Option.isSome_none, Bool.false_eq_true, if_false]
    refine wpAny_pure (hQ h₂ fun b o hb e => he₂ b o hb (hs₁.extBut b o hb (Heap.get?_push_of_some _ e)))
theorem extBut_keeps {h h' : Heap} (k : Heap.ExtBut h.objs.size h h') : ∀ a o, h.get? a = some o → h'.get? a = some o := fun a o e => k a o (Nat.ne_of_lt (Heap.lt_size e)) e
theorem parts_ok {v : V} {u : Value} {xs : List V} {n : Nat} {Q : List Value → Shared → Prop} (X : Cx g sc r c A env s.heap σ ℓ) (hh : A.handled = none) (hv : VR g s.heap v u) (hp : partsV v σ = some xs) (hn : xs.length = n)
    (h : ∀ us h', (∀ a o, s.heap.get? a = some o → h'.get? a = some o) → VRs g h' xs us → Q us { s with heap := h' }) : wpAny (model g.prog g.w) A (unpackItems u n none) Q E s := by
  have key : ∀ (a : Addr) (o : Obj) (vs : Array Value) (m : Nat), s.heap.get? a = some o → (o.cls = .type "tuple" ∨ o.cls = .type "list") → o.data = .seq vs m → VRs g s.heap xs vs.toList → wpAny (model g.prog g.w) A (unpackItems (.ref a) n none) Q E s := fun a o vs m ho hc hd hvs => by
    have hz : n = vs.size := by rw [← hn, Yb hvs]; simp
    subst hz
    have fin : ∀ h', Heap.ExtBut s.heap.objs.size s.heap h' → Q vs.toList { s with heap := h' } := fun h' k => h _ h' (extBut_keeps k) (VRs.mono (fun b o _ _ _ e _ _ => .of (extBut_keeps k b o e)) hvs)
    rcases hc with hc | hc
    · exact wpAny_unpackItems_tuple hh ⟨o, ho, hc, m, hd⟩ fin
    · exact unpackItems_list hh ⟨o, ho, hc, m, hd⟩ fin
  cases v with
  | tup vs =>
    obtain ⟨_, a, o, us, m, rfl, _, ho, hc, hd, hvs⟩ := Wd.mp hv
    cases hp; exact key a o us m ho (.inl hc) hd hvs
  | frz vs =>
    obtain ⟨_, a, o, us, m, rfl, ho, hc, hd, hvs⟩ := VR_frz.mp hv
    cases hp; exact key a o us m (X.rel.base a o ho) (.inr hc) hd hvs
  | ref a =>
    rw [Yt.mp hv]
    simp only [partsV] at hp
    split at hp
    · rename_i vs e
      cases hp
      obtain ⟨_, us, m, ho, hvs⟩ := (X.rel.own a _ e).2
      exact key a _ us m ho (.inr rfl) rfl hvs
    · cases hp
  | _ => cases hp
theorem assign_ok {W : Addr → Prop} (hW : Writes W sc env) {e : Expr} {t : Tgt} {x : V} {u : Value} {P : Loc → Prop} (X : Cx g sc r true A env s.heap σ ℓ) (ht : TgtIs sc e t) (hv : VR g s.heap x u) (hb : Zj t x ℓ σ P) :
    wpAny (model g.prog g.w) A (assign e env u) (fun _ s' => Bound g W env s σ P s') E s := by
  cases ht with
  | name hm hk => exact wpAny_assign_Name (store_ok X hm hk hv fun s' a q1 q2 _ h1 h2 h3 h4 => ⟨_, h1, h2, h3.weaken fun b z => z ▸ hW.2 _ _ a hm q1 q2 hk, h4, hb⟩)
  | @tup es ns k pos hn =>
    simp only [Zj] at hb
    split at hb
    · rename_i xs hp
      rw [arm_assign_Tuple]
      refine wpAny_bind (wpAny_standAt ?_)
      unfold unpack
      rw [hn.length env, hn.noStar env]
      refine wpAny_bind (wpAny_holding (parts_ok X (X.room.calm rfl) hv hp hb.1 fun us h' hk hvs => ?_))
      have X' : Cx g sc r true A env h' σ ℓ := X.step (X.rel.keeps hk) (.keeps hk)
      refine wpAny_mono (inOrder_ok hW (s := { s with heap := h' }) hn X' hvs hb.1 hb.2) (fun _ s' p => ?_) fun _ _ p => p
      obtain ⟨ℓ', h1, h2, h3, h4, h5⟩ := p
      exact ⟨ℓ', h1, h2, Ext.trans (.keeps hk) h3, Xu.trans ⟨rfl, rfl, rfl⟩ h4, h5⟩
    · exact hb.elim
end
noncomputable def W7 (t : Tgt) (te : TE) : TS := fun ℓ σ Q E => te ℓ σ (fun v σ' => Zj t v ℓ σ' fun ℓ' => Q .next ℓ' σ') fun C σ' => E C ℓ σ'
theorem sndS_assignT {es : List Expr} {k : Nat} {ns : List String} {p' pos : Pos} {e : Expr} {t : TE} (ht : NamesAre sc es ns) (h1 : Y5 g sc r true e t)
    (hs : ∀ env, swapsWithSole [.Tuple es k p'] e pos.line env = pure false) (hw : ∀ env, swappedStores [.Tuple es k p'] e env = pure none) : SndS g sc r true (.Assign [.Tuple es k p'] e pos) (W7 (.tup ns) t) := .mk fun A env s ℓ σ Q E X h => by
  refine Assign_Tuple (wpAny_mono (h1.run A env s ℓ σ _ _ X h) (fun v s₁ p => ?_) fun _ _ p => p.toS X) (hs env) (hw env)
  refine X7.elim p fun x σ₁ hv hR hx hs hq => ?_
  refine wpAny_mono (assign_ok writes_own (X.step hR hx) (.tup ht) hv hq) (fun _ s' p => ?_) fun _ _ p => p
  obtain ⟨ℓ', h1, h2, h3, h4, h5⟩ := p
  exact ⟨.next, ℓ', σ₁, rfl, h1, h2, hx.own.trans h3, hs.trans h4, h5⟩
end
section
open PySem PyProof.Rows
variable {g : Gr} {sc : Scope} {r : Nat} {c : Bool}
noncomputable def KeptBut (fp : Addr → Prop) (h h' : Heap) : Prop := ∀ b o, ¬ fp b → h.get? b = some o → h'.get? b = some o
structure Iters (g : Gr) (items : List V) (inv : AH → Prop) (I : Addr) (fp : Addr → Prop) (St : Nat → Heap → Prop) (tup : Bool) : Prop where
  stab : ∀ k h h', St k h → Y8 g h h' → (∀ a o, fp a → h.get? a = some o → h'.get? a = some o) → St k h'
  flds : ∀ k h a, St k h → fp a → ∃ o, h.get? a = some o ∧ ((g.hid a ∧ ∃ vs n, o.data = .seq vs n) ∨ ∃ vs, o.data = .fields vs)
  self : ∀ k A E s (Q : Value → Shared → Prop), St k s.heap → Q (.ref I) s → wpAny (model g.prog g.w) A (pyIter (.ref I)) Q E s
  item : ∀ k x A E s σ target (Q : Value → Shared → Prop), items[k]? = some x → St k s.heap → Rel g s.heap σ → inv σ → (∀ a, fp a → σ a = none) → (tup = true → ∃ es m p, target = .Tuple es m p) →
    (∀ v s', KeptBut fp s.heap s'.heap → Xu s s' → St (k + 1) s'.heap → VR g s'.heap x v → Q v s') →
    wpAny (model g.prog g.w) A (pyNext (.ref I)) (fun r s₁ => match r with | none => False | some v => wpAny (model g.prog g.w) A (letOwnedTupleGo target (.ref I) v) (fun _ => Q v) E s₁) E s
  last : ∀ k A E s σ (Q : Option Value → Shared → Prop), items.length ≤ k → A.handled = none → St k s.heap → Rel g s.heap σ → inv σ → (∀ a, fp a → σ a = none) →
    (∀ s', KeptBut fp s.heap s'.heap → Xu s s' → Q none s') → wpAny (model g.prog g.w) A (pyNext (.ref I)) Q E s
inductive PostI (g : Gr) (s : Shared) (σ : AH) (Q : List V → (AH → Prop) → Bool → AH → Prop) (it : Value) (s' : Shared) : Prop
  | mk (items : List V) (inv : AH → Prop) (I : Addr) (fp : Addr → Prop) (St : Nat → Heap → Prop) (tup : Bool) (σ' : AH) (h0 : it = .ref I) (h1 : Iters g items inv I fp St tup) (h2 : St 0 s'.heap) (h3 : Rel g s'.heap σ') (h4 : Ext No s.heap σ s'.heap σ') (h5 : Xu s s') (h6 : ∀ a, fp a → s.heap.get? a = none ∧ σ' a = none) (h7 : Ym items.length) (h8 : Q items inv tup σ') : PostI g s σ Q it s'
noncomputable abbrev TI := Loc → AH → (List V → (AH → Prop) → Bool → AH → Prop) → (Addr → AH → Prop) → Prop
structure SndI (g : Gr) (sc : Scope) (r : Nat) (c : Bool) (e : Expr) (t : TI) : Prop where
  run : ∀ A env s ℓ σ Q E, Cx g sc r c A env s.heap σ ℓ → t ℓ σ Q E →
  wpAny (model g.prog g.w) A (eval e env) (fun x s₁ => wpAny (model g.prog g.w) A (pyIter x) (PostI g s σ Q) (Wa g A s σ E) s₁) (Wa g A s σ E) s
theorem letGo_plain {A : Around} {E : Value → Shared → Prop} {s : Shared} {target : Expr} {I : Addr} {o : Obj} {T : String} {vs : Array Value} {v : Value} {Q : Unit → Shared → Prop} (ho : s.heap.get? I = some o) (hc : o.cls = .type T) (hd : o.data = .fields vs)
    (hT : (["enumerate", "zip", "dict_itemiterator", "dict_reverseitemiterator", "odict_iterator", "itertools.zip_longest", "itertools.pairwise"].contains T) = false) (h : Q () s) :
    wpAny (model g.prog g.w) A (letOwnedTupleGo target (.ref I) v) Q E s := by
  have key : ∀ (a : Addr), wpAny (model g.prog g.w) A (load I >>= fun o => (match o.cls, o.data with
      | .type n, .fields vs =>
        if ["enumerate", "zip", "dict_itemiterator", "dict_reverseitemiterator", "odict_iterator", "itertools.zip_longest", "itertools.pairwise"].contains n && vs[0]? == some (rawInt a) then (do
          rule "for.unpacks-the-owned-tuple"
          updateField I 0 .none) else pure ()
      | _, _ => pure ())) Q E s := fun a => by
    refine wpAny_bind (wpAny_load ho ?_)
    rw [hc, hd]
    show wpAny _ A (if (_ && _) = true then _ else _) Q E s
    rw [if_neg (by rw [hT, Bool.false_and]; exact Bool.false_ne_true)]
    exact wpAny_pure h
  unfold letOwnedTupleGo
  split
  · cases v <;> first | exact key _ | exact wpAny_pure h
  · cases v <;> first | exact key _ | exact wpAny_pure h
  · exact wpAny_pure h
theorem VRs_getA {g : Gr} {h : Heap} {xs : List V} {vs : Array Value} (a : VRs g h xs vs.toList) {i : Nat} {x : V} (e : xs[i]? = some x) : ∃ v, vs[i]? = some v ∧ VR g h x v := by
  obtain ⟨v, h1, h2⟩ := VRs_get a e; exact ⟨v, by simpa using h1, h2⟩
theorem VRs_noneA {g : Gr} {h : Heap} {xs : List V} {vs : Array Value} (a : VRs g h xs vs.toList) {i : Nat} (e : xs.length ≤ i) : vs[i]? = none := by
  have := Yb a; simp at this ⊢; omega
theorem tupsKept_one {I : Addr} {h h' : Heap} {o : Obj} {vs : Array Value} (ho : h.get? I = some o) (hd : o.data = .fields vs) (k : ∀ b o, b ≠ I → h.get? b = some o → h'.get? b = some o) : Y8 g h h' := fun a o' xs n _ e _ d => by
  refine .of (k a o' (fun z => ?_) e)
  subst z; rw [ho] at e; cases e; rw [hd] at d; cases d
theorem iters_list (a I : Addr) (xs : List V) : Iters g xs (fun σ => σ a = some (.list xs)) I (· = I) (fun k h => h.IsListIter I a k) false where
  stab := fun k h h' st _ kp => st.at fun o e => kp I o rfl e
  flds := fun k h b st e => by subst e; obtain ⟨o, ho, _, hd⟩ := st; exact ⟨o, ho, .inr ⟨_, hd⟩⟩
  self := fun k A E s Q st h => wpAny_pyIter_listiter st h
  item := fun k x A E s σ target Q hx st R iv off _ h => by
    obtain ⟨hf, vs, n, ho, hv⟩ := (R.own a _ iv).2
    obtain ⟨v, e, hxv⟩ := VRs_getA hv hx
    obtain ⟨oI, hoI, hcI, hdI⟩ := id st
    refine wpAny_pyNext_list_item st ⟨_, ho, rfl, n, rfl⟩ e fun h' st' sb => ?_
    obtain ⟨o', ho', hc', hd'⟩ := id st'
    refine letGo_plain ho' hc' hd' (by decide) (h v _ (fun b o nb e => sb.extBut b o nb e) ⟨rfl, rfl, rfl⟩ st' (VR.mono (tupsKept_one hoI hdI sb.extBut) hxv))
  last := fun k A E s σ Q hk hh st R iv off h => by
    obtain ⟨hf, vs, n, ho, hv⟩ := (R.own a _ iv).2
    exact wpAny_pyNext_list_end hh st ⟨_, ho, rfl, n, rfl⟩ (VRs_noneA hv hk) fun h' eb => h { s with heap := h' } (fun b o nb e => eb b o nb e) ⟨rfl, rfl, rfl⟩
theorem iters_tuple (t I : Addr) (xs : List V) : Iters g xs (fun _ => True) I (· = I) (fun k h => h.IsTupleIter I t k ∧ VR g h (.tup xs) (.ref t)) false where
  stab := fun k h h' st tk kp => ⟨st.1.at fun o e => kp I o rfl e, VR.mono tk st.2⟩
  flds := fun k h b st e => by subst e; obtain ⟨⟨o, ho, _, hd⟩, _⟩ := st; exact ⟨o, ho, .inr ⟨_, hd⟩⟩
  self := fun k A E s Q st h => wpAny_pyIter_tupleiter st.1 h
  item := fun k x A E s σ target Q hx st R iv off _ h => by
    obtain ⟨hf, t', o, vs, n, et, _, ho, hc, hd, hv⟩ := Wd.mp st.2
    cases et
    obtain ⟨v, e, hxv⟩ := VRs_getA hv hx
    obtain ⟨oI, hoI, hcI, hdI⟩ := id st.1
    refine wpAny_pyNext_tuple_item st.1 ⟨_, ho, hc, n, hd⟩ e fun h' st' sb => ?_
    obtain ⟨o', ho', hc', hd'⟩ := id st'
    have tk : Y8 g s.heap h' := tupsKept_one hoI hdI sb.extBut
    exact letGo_plain ho' hc' hd' (by decide) (h v _ (fun b o nb e => sb.extBut b o nb e) ⟨rfl, rfl, rfl⟩ ⟨st', VR.mono tk st.2⟩ (VR.mono tk hxv))
  last := fun k A E s σ Q hk hh st R iv off h => by
    obtain ⟨hf, t', o, vs, n, et, _, ho, hc, hd, hv⟩ := Wd.mp st.2
    cases et
    exact wpAny_pyNext_tuple_end hh st.1 ⟨_, ho, hc, n, hd⟩ (VRs_noneA hv hk) fun h' eb => h { s with heap := h' } (fun b o nb e => eb b o nb e) ⟨rfl, rfl, rfl⟩
noncomputable def Xw (lo : Int) (n : Nat) : List V := (List.range n).map fun (i : Nat) => .int (lo + (i : Int))
theorem iters_range (I : Addr) (lo : Int) (n : Nat) : Iters g (Xw lo n) (fun _ => True) I (· = I) (fun k h => IsRangeIter h I (lo + (k : Int)) ((n : Int) - k) 1) false where
  stab := fun k h h' st _ kp => kp I _ rfl st
  flds := fun k h b st e => by subst e; exact ⟨_, st, .inr ⟨_, rfl⟩⟩
  self := fun k A E s Q st h => wpAny_pyIter_rangeiter st h
  item := fun k x A E s σ target Q hx st R iv off _ h => by
    have hk : k < n := by
      rcases Nat.lt_or_ge k n with q | q
      · exact q
      · rw [List.getElem?_eq_none (by simp [Xw]; exact q)] at hx; cases hx
    have hx' : x = .int (lo + (k : Int)) := by simp [Xw, hk] at hx; exact hx.symm
    subst hx'
    refine wpAny_pyNext_range_item st (by omega) fun h' st' sb => ?_
    have st'' : IsRangeIter h' I (lo + ((k + 1 : Nat) : Int)) ((n : Int) - ((k + 1 : Nat) : Int)) 1 := by
      have e1 : lo + ((k + 1 : Nat) : Int) = lo + (k : Int) + 1 := by push_cast; omega
      have e2 : (n : Int) - ((k + 1 : Nat) : Int) = (n : Int) - k - 1 := by push_cast; omega
      rw [e1, e2]; exact st'
    exact letGo_plain st' rfl rfl (by decide) (h _ _ (fun b o nb e => sb.extBut b o nb e) ⟨rfl, rfl, rfl⟩ st'' (Yl.mpr ⟨_, rfl⟩))
  last := fun k A E s σ Q hk hh st R iv off h => by
    have : n ≤ k := by simpa [Xw] using hk
    exact wpAny_pyNext_range_end hh st (by omega) fun h' eb => h { s with heap := h' } (fun b o nb e => eb b o nb e) ⟨rfl, rfl, rfl⟩
noncomputable def enumV (i : Nat) : List V → List V
  | [] => []
  | x :: xs => .tup [.int (i : Int), x] :: enumV (i + 1) xs
theorem enumV_length (xs : List V) : ∀ i, (enumV i xs).length = xs.length := by
  induction xs with
  | nil => intro i; rfl
  | cons x xs ih => intro i; simp [enumV, ih]
theorem enumV_get {xs : List V} : ∀ {i k : Nat} {y : V}, (enumV i xs)[k]? = some y → ∃ x, xs[k]? = some x ∧ y = .tup [.int ((i + k : Nat) : Int), x] := by
  induction xs with
  | nil => intro i k y e; simp [enumV] at e
  | cons x xs ih =>
    intro i k y e
    cases k with
    | zero => simp [enumV] at e; exact ⟨x, by simp, by simp [e]⟩
    | succ k =>
      simp only [enumV, List.getElem?_cons_succ] at e
      obtain ⟨z, h1, h2⟩ := ih e
      exact ⟨z, by simpa using h1, by rw [h2]; congr 3; simp; omega⟩
theorem iters_enum (a I it : Addr) (xs : List V) (hne : I ≠ it) : Iters g (enumV 0 xs) (fun σ => σ a = some (.list xs)) I (fun b => b = I ∨ b = it) (fun k h => (∃ old, IsEnum h I it (k : Int) old) ∧ h.IsListIter it a k) true where
  stab := fun k h h' st _ kp => ⟨let ⟨old, e⟩ := st.1; ⟨old, kp I _ (.inl rfl) e⟩, st.2.at fun o e => kp it o (.inr rfl) e⟩
  flds := fun k h b st e => by
    rcases e with rfl | rfl
    · obtain ⟨old, e⟩ := st.1; exact ⟨_, e, .inr ⟨_, rfl⟩⟩
    · obtain ⟨o, ho, _, hd⟩ := st.2; exact ⟨o, ho, .inr ⟨_, hd⟩⟩
  self := fun k A E s Q st h => by obtain ⟨old, e⟩ := st.1; exact wpAny_pyIter_enum e h
  item := fun k y A E s σ target Q hy st R iv off tp h => by
    obtain ⟨es, m, p, rfl⟩ := tp rfl
    obtain ⟨x, hx, rfl⟩ := enumV_get hy
    obtain ⟨hf, vs, n, ho, hv⟩ := (R.own a _ iv).2
    obtain ⟨v, e, hxv⟩ := VRs_getA hv hx
    obtain ⟨old, he⟩ := st.1
    obtain ⟨oI, hoI, hcI, hdI⟩ := id st.2
    refine wpAny_pyNext_enum_item he st.2 ⟨_, ho, rfl, n, rfl⟩ e hne fun h' he' st' ht' hz kp => ?_
    refine wpAny_letOwnedTupleGo_enum he' fun h'' he'' sb => ?_
    have kb : KeptBut (fun b => b = I ∨ b = it) s.heap h'' := fun b o nb eb => sb.extBut b o (fun z => nb (.inl z)) (kp b o (fun z => nb (.inl z)) (fun z => nb (.inr z)) eb)
    have tk : Y8 g s.heap h'' := fun b o xs' n' _ eb _ d => by
      refine .of (kb b o ?_ eb)
      rintro (rfl | rfl)
      · rw [he] at eb; cases eb; cases d
      · rw [hoI] at eb; cases eb; rw [hdI] at d; cases d
    have eI : I ≠ s.heap.objs.size := Nat.ne_of_lt (Heap.lt_size he)
    refine h _ _ kb ⟨rfl, rfl, rfl⟩ ⟨⟨v, ?_⟩, st'.extBut sb.extBut (Ne.symm hne)⟩ ?_
    · have : ((k + 1 : Nat) : Int) = (k : Int) + 1 := by push_cast; rfl
      rw [this]; exact he''
    · refine Wd.mpr ⟨by simp [Ym], _, _, _, _, rfl, fun nh => ?_, sb.extBut _ _ (Ne.symm eI) ht', rfl, rfl, ?_⟩
      · obtain ⟨o', eo⟩ := R.hid _ nh; rw [Yw] at eo; cases eo
      · exact Y4 (Yl.mpr ⟨s.toks, by rw [Nat.zero_add]⟩) (Y4 (VR.mono tk hxv) Xs)
  last := fun k A E s σ Q hk hh st R iv off h => by
    obtain ⟨hf, vs, n, ho, hv⟩ := (R.own a _ iv).2
    obtain ⟨old, he⟩ := st.1
    rw [enumV_length] at hk
    exact wpAny_pyNext_enum_end hh he st.2 ⟨_, ho, rfl, n, rfl⟩ (VRs_noneA hv hk) fun h' eb => h { s with heap := h' } (fun b o nb e => eb b o (fun z => nb (.inr z)) e) ⟨rfl, rfl, rfl⟩
end
section
open PySem PyProof.Rows
variable {g : Gr} {sc : Scope} {r : Nat} {c : Bool}
noncomputable def loopT (t : Tgt) (inv : AH → Prop) (tb : TS) : List V → TS
  | [], ℓ, σ, Q, _ => inv σ ∧ Q .next ℓ σ
  | x :: xs, ℓ, σ, Q, E => inv σ ∧ Zj t x ℓ σ fun ℓ₁ => tb ℓ₁ σ (fun f ℓ₂ σ₂ => match f with
    | .next => loopT t inv tb xs ℓ₂ σ₂ Q E
    | .cont => loopT t inv tb xs ℓ₂ σ₂ Q E
    | .brk => Q .next ℓ₂ σ₂
    | .ret v => Q (.ret v) ℓ₂ σ₂) E
noncomputable def Tgt.isTup : Tgt → Bool
  | .name _ => false
  | .tup _ => true
noncomputable def Yy (t : Tgt) (ti : TI) (tb : TS) : TS := fun ℓ σ Q E => ti ℓ σ (fun items inv tup σ₁ => (tup = true → t.isTup = true) ∧ loopT t inv tb items ℓ σ₁ Q E) fun C σ' => E C ℓ σ'
section
variable {A : Around} {env : Env} {s s₁ : Shared} {σ σ₁ : AH} {ℓ ℓ₁ : Loc} {h h' : Heap}
structure Walked (g : Gr) (fp : Addr → Prop) (h : Heap) (σ : AH) : Prop where
  off : ∀ a, fp a → σ a = none
  flds : ∀ a, fp a → ∃ o, h.get? a = some o ∧ ((g.hid a ∧ ∃ vs n, o.data = .seq vs n) ∨ ∃ vs, o.data = .fields vs)
  base : ∀ a, fp a → g.b0.get? a = none
theorem Walked.tups {fp : Addr → Prop} (w : Walked g fp h σ) (k : KeptBut fp h h') : Y8 g h h' := fun a o vs n nh e _ d => by
  refine .of (k a o (fun q => ?_) e)
  obtain ⟨o', e', z⟩ := w.flds a q
  rw [e] at e'; cases e'
  rcases z with z | ⟨us, z⟩
  · exact nh z.1
  · rw [d] at z; cases z
theorem Walked.rel {fp : Addr → Prop} (w : Walked g fp h σ) (R : Rel g h σ) (k : KeptBut fp h h') (hh : ∀ a, g.hid a → fp a → ∃ o, h'.get? a = some o) : Rel g h' σ := by
  refine ⟨fun a ha => ?_, fun a o e => k a o (fun q => ?_) (R.base a o e), fun a ao e => ⟨(R.own a ao e).1, OR_mono (w.tups k) (fun o e' => k a o (fun q => ?_) e') (R.own a ao e).2⟩⟩
  · by_cases q : fp a
    · exact hh a ha q
    · obtain ⟨o, e⟩ := R.hid a ha; exact ⟨o, k a o q e⟩
  · rw [w.base a q] at e; cases e
  · rw [w.off a q] at e; cases e
theorem Walked.loc {fp : Addr → Prop} (w : Walked g fp h σ) (L : LR g h σ env ℓ) (k : KeptBut fp h h') (ho : ∀ a, fp a → ¬ Own env a) : LR g h' σ env ℓ := by
  have kv : ∀ {v : V} {u : Value}, VR g h v u → VR g h' v u := VR.mono (w.tups k)
  obtain ⟨m, hn, hm⟩ := L.ns
  refine ⟨⟨m, ns_upTo hn fun o e => .of (k _ o (fun q => ho _ q (.inl rfl)) e), fun y v a b => let ⟨u, e, f⟩ := hm y v a b; ⟨u, e, kv f⟩⟩, fun y c e => ?_, fun y v a kk => ?_, L.off, L.offc, L.apart, L.has⟩
  · obtain ⟨o, u, e1, e2⟩ := L.cell y c e
    exact ⟨o, u, k c o (fun q => ho _ q (.inr ⟨y, e⟩)) e1, e2⟩
  · obtain ⟨c, u, e, hc, hv⟩ := L.cells y v a kk
    exact ⟨c, u, e, cell_upTo hc fun o z => .of (k _ o (fun q => ho _ q (.inr ⟨_, e⟩)) z), kv hv⟩
theorem Own.present {a : Addr} (L : LR g h σ env ℓ) (w : Own env a) : ∃ o, h.get? a = some o := let ⟨o, e, _⟩ := L.noFields w; ⟨o, e⟩
theorem Walked.stand {fp : Addr → Prop} (w : Walked g fp h σ) (x : Ext (Own env) h σ h' σ₁) (ho : ∀ a, fp a → ¬ Own env a) : ∀ a o, fp a → h.get? a = some o → h'.get? a = some o := fun a o q e => by
  refine (x.keep a o e (w.off a q) (ho a q)).exact fun es n d => ?_
  obtain ⟨o', e', z⟩ := w.flds a q
  rw [e] at e'; cases e'
  rcases z with ⟨_, us, m, z⟩ | ⟨us, z⟩
  · rw [d] at z; cases z
  · rw [d] at z; cases z
theorem Walked.relLess {H : Addr → Prop} {fp : Addr → Prop} (w : Walked (g.wh H) fp h σ) (R : Rel (g.wh H) h σ) (k : KeptBut fp h h') (hH : ∀ a, g.hid a → H a) (hn : ∀ a, fp a → ¬ g.hid a) : Rel g h' σ := by
  refine ⟨fun a ha => ?_, fun a o e => k a o (fun q => ?_) (R.base a o e), fun a ao e => ⟨(R.own a ao e).1, OR.less hH (OR_mono (w.tups k) (fun o e' => k a o (fun q => ?_) e') (R.own a ao e).2)⟩⟩
  · obtain ⟨o, e⟩ := R.hid a (hH a ha); exact ⟨o, k a o (fun q => hn a q ha) e⟩
  · have z : g.b0.get? a = none := w.base a q
    rw [z] at e; cases e
  · rw [w.off a q] at e; cases e
end
theorem PostXB.less {A : Around} {env : Env} {s : Shared} {σ : AH} {H : Addr → Prop} (k : ∀ a, g.hid a → H a) {E : Addr → Loc → AH → Prop} {e : Value} {s' : Shared} (p : PostXS (g.wh H) A env s σ E e s') : PostXS g A env s σ E e s' :=
  let ⟨C, ℓ', σ', h1, h2, h3, h4, h5, h6⟩ := p; ⟨C, ℓ', σ', h1.unwh, h2.less k, h3.less k, h4, h5, h6⟩
inductive ForI (g : Gr) (H : Addr → Prop) (env : Env) (s : Shared) (σ : AH) (t : Tgt) (inv : AH → Prop) (tb : TS) (items : List V) (fp : Addr → Prop) (St : Nat → Heap → Prop) (Q : Fl → Loc → AH → Prop) (E : Addr → Loc → AH → Prop) (n : Nat) (s' : Shared) : Prop
  | mk (k : Nat) (ℓ' : Loc) (σ' : AH) (h1 : k ≤ items.length) (h2 : n = items.length - k) (h3 : St k s'.heap) (h4 : LR (g.wh H) s'.heap σ' env ℓ') (h5 : Rel (g.wh H) s'.heap σ') (h6 : Ext (Own env) s.heap σ s'.heap σ') (h7 : Xu s s') (h8 : ∀ a, fp a → σ' a = none) (h9 : loopT t inv tb (items.drop k) ℓ' σ' Q E) : ForI g H env s σ t inv tb items fp St Q E n s'
theorem for_core {A : Around} {env : Env} {s s₂ : Shared} {ℓ : Loc} {σ σ₁ : AH} {H : Addr → Prop} {target : Expr} {body : List Stmt} {t : Tgt} {tb : TS} {items : List V} {inv : AH → Prop} {I : Addr} {fp : Addr → Prop} {St : Nat → Heap → Prop} {tup : Bool} {Q : Fl → Loc → AH → Prop} {E : Addr → Loc → AH → Prop}
    (hH : ∀ a, g.hid a → H a) (X : Cx g sc r true A env s.heap σ ℓ) (IT : Iters (g.wh H) items inv I fp St tup) (hst : St 0 s₂.heap) (hL0 : LR (g.wh H) s₂.heap σ₁ env ℓ) (hR : Rel (g.wh H) s₂.heap σ₁) (hx : Ext No s.heap σ s₂.heap σ₁) (hsm : Xu s s₂)
    (hfp : ∀ a, fp a → s.heap.get? a = none ∧ σ₁ a = none) (htt : tup = true → t.isTup = true) (hl : loopT t inv tb items ℓ σ₁ Q E) (ht : TgtIs sc target t) (hb : SndSs (g.wh H) sc r true body tb) :
    codeAny (model g.prog g.w) A (.forLoop target (.ref I) body [] env) (fun r s' => match r with | .ok f => PostS g env s σ Q f s' | .error e => cameBackBy (model g.prog g.w) A env (PostXS g A env s σ E) e s') s₂ := by
  have hb0 : ∀ a, fp a → g.b0.get? a = none := fun a q => by
    cases e : g.b0.get? a with
    | none => rfl
    | some o => exact absurd (hfp a q).1 (by rw [X.rel.base a o e]; simp)
  have hown : ∀ a, fp a → ¬ Own env a := fun a q w => by
    obtain ⟨o, e⟩ := Own.present X.loc w
    rw [(hfp a q).1] at e; cases e
  have hhid : ∀ a, fp a → ¬ g.hid a := fun a q w => by
    obtain ⟨o, e⟩ := X.rel.hid a w
    rw [(hfp a q).1] at e; cases e
  have target_tup : tup = true → ∃ es m p, target = .Tuple es m p := fun q => by
    have := htt q
    cases ht with
    | name _ _ => cases this
    | tup _ => exact ⟨_, _, _, rfl⟩
  have X0 : Cx (g.wh H) sc r true A env s₂.heap σ₁ ℓ := ⟨X.gok.wh, X.ok, hL0, X.fr.step hx (fun _ _ _ _ n => n.elim), X.room, hR⟩
  refine codeAny_forLoop_any (ForI g H env s σ t inv tb items fp St Q E) ?_ items.length ⟨0, ℓ, σ₁, Nat.zero_le _, rfl, hst, hL0, hR, hx.own, hsm, fun a q => (hfp a q).2, by simpa using hl⟩
  rintro n s' ⟨k, ℓ', σ', hk, rfl, hst, hL, hR, hx, hsm, hoff, hl⟩
  have W : Walked (g.wh H) fp s'.heap σ' := ⟨hoff, fun a q => IT.flds k _ a hst q, hb0⟩
  have ext : ∀ {s'' : Shared}, KeptBut fp s'.heap s''.heap → Ext (Own env) s.heap σ s''.heap σ' := fun {s''} kb => by
    refine ⟨fun a o e n nw => ?_, fun a o e => ?_, hx.dom⟩
    · refine (hx.keep a o e n nw).then fun o' e' => .of (kb a o' (fun q => ?_) e')
      rw [(hfp a q).1] at e; cases e
    · obtain ⟨o', e'⟩ := hx.pres a o e
      refine ⟨o', kb a o' (fun q => ?_) e'⟩
      rw [(hfp a q).1] at e; cases e
  rcases Nat.lt_or_ge k items.length with hlt | hge
  · have hd : items.drop k = items[k] :: items.drop (k + 1) := List.drop_eq_getElem_cons hlt
    rw [hd] at hl
    obtain ⟨hinv, hbind⟩ := hl
    refine wpAny_mono (IT.item k items[k] A (fun e s' => False) s' σ' target (fun v s₁ => ∃ (kb : KeptBut fp s'.heap s₁.heap), Xu s' s₁ ∧ St (k + 1) s₁.heap ∧ VR (g.wh H) s₁.heap items[k] v) (by simp [hlt]) hst hR hinv hoff target_tup
      fun v s₁ a b d e => ⟨a, b, d, e⟩) (fun rr s₁ p => ?_) fun _ _ p => p.elim
    cases rr with
    | none => exact p.elim
    | some v =>
      refine wpAny_mono p (fun _ s₂ p => ?_) fun _ _ p => p.elim
      obtain ⟨kb, hs2, hst2, hv⟩ := p
      have hL2 := W.loc hL kb hown
      have hR2 := W.rel hR kb fun a w q => let ⟨o, e, _⟩ := IT.flds _ _ a hst2 q; ⟨o, e⟩
      have hx2 := ext kb
      have X2 : Cx (g.wh H) sc r true A env s₂.heap σ' ℓ' := ⟨X.gok.wh, X.ok, hL2, X.fr.step hx2 (X.loc.dicts (hL2.less hH)), X.room, hR2⟩
      have W2 : Walked (g.wh H) fp s₂.heap σ' := ⟨hoff, fun a q => IT.flds _ _ a hst2 q, hb0⟩
      refine wpAny_mono (assign_ok (g := g.wh H) writes_own (E := fun _ _ => False) X2 ht hv hbind) (fun _ s₃ p => ?_) fun _ _ p => p.elim
      obtain ⟨ℓ₃, hL3, hR3, hx3, hs3, hbody⟩ := p
      have hst3 : St (k + 1) s₃.heap := IT.stab _ _ _ hst2 (hx3.tuples hR2 hL2.noSeq) (W2.stand hx3 hown)
      have X3 : Cx (g.wh H) sc r true A env s₃.heap σ' ℓ₃ := X2.stepS hL3 hR3 hx3
      have W3 : Walked (g.wh H) fp s₃.heap σ' := ⟨hoff, fun a q => IT.flds _ _ a hst3 q, hb0⟩
      have hx03 : Ext (Own env) s.heap σ s₃.heap σ' := hx2.trans hx3
      have hs03 : Xu s s₃ := (hsm.trans hs2).trans hs3
      refine wpAny_mono (hb.run A env s₃ ℓ₃ σ' _ E X3 hbody) (fun f s₄ p => ?_) fun e s₄ p => ((p.less hH).back hx03 hs03).noted X fun e s' p => p.came fun e s' p => p
      obtain ⟨f', ℓ₄, σ₄, hf', hL4, hR4, hx4, hs4, hq⟩ := p
      have again : loopT t inv tb (items.drop (k + 1)) ℓ₄ σ₄ Q E → ∃ m, m < items.length - k ∧ ForI g H env s σ t inv tb items fp St Q E m s₄ := fun hl => by
        refine ⟨items.length - (k + 1), by omega, k + 1, ℓ₄, σ₄, hlt, rfl, ?_, hL4, hR4, hx03.trans hx4, hs03.trans hs4, fun a q => ?_, hl⟩
        · exact IT.stab _ _ _ hst3 (hx4.tuples hR3 hL3.noSeq) (W3.stand hx4 hown)
        · obtain ⟨o, e, _⟩ := W3.flds a q
          exact hx4.off e (hoff a q)
      cases f' with
      | next => cases hf'; exact again hq
      | cont => cases hf'; exact again hq
      | brk => cases hf'; exact ⟨.next, ℓ₄, σ₄, rfl, hL4.less hH, hR4.less hH, hx03.trans hx4, hs03.trans hs4, hq⟩
      | ret v => obtain ⟨u, rfl, hu⟩ := hf'; exact ⟨.ret v, ℓ₄, σ₄, ⟨u, rfl, hu.less hH⟩, hL4.less hH, hR4.less hH, hx03.trans hx4, hs03.trans hs4, hq⟩
  · have hd : items.drop k = [] := List.drop_eq_nil_of_le hge
    rw [hd] at hl
    refine IT.last k A _ s' σ' _ hge (X.room.calm rfl) hst hR hl.1 hoff fun s'' kb hs'' => wpAny_execs_nil ?_
    exact ⟨.next, ℓ', σ', rfl, (W.loc hL kb hown).less hH, W.relLess hR kb hH hhid, ext kb, hsm.trans hs'', hl.2⟩
theorem Wv {target iter : Expr} {body : List Stmt} {pos : Pos} {t : Tgt} {ti : TI} {tb : TS} (hi : SndI g sc r true iter ti) (ht : TgtIs sc target t) (hb : SndSs g sc r true body tb)
    (hf : ∀ env x, foldedSetIterable iter env x = pure x) : SndS g sc r true (.For target iter body [] pos) (Yy t ti tb) := .mk fun A env s ℓ σ Q E X h => by
  refine wpAny_For (wpAny_mono (hi.run A env s ℓ σ _ _ X h) (fun x s₁ p => wpAny_mono p (fun it s₂ p => ?_) fun _ _ p => p.toS X) fun _ _ p => p.toS X) (hf env)
  obtain ⟨items, inv, I, fp, St, tup, σ₁, rfl, IT, hst, hR, hx, hsm, hfp, hft, htt, hl⟩ := p
  exact for_core (H := g.hid) (fun _ h => h) X IT hst (X.loc.step X.rel hx) hR hx hsm hfp htt hl ht hb
end
section
open PySem PyProof.Rows
variable {g : Gr} {sc csc : Scope} {r : Nat} {c : Bool}
/-! ## the block of a comprehension -/
noncomputable def Loc.bare (ℓ : Loc) : Loc := fun n => cond (n == ".0") none (ℓ n)
theorem Loc.bare_at {ℓ : Loc} {n : String} : ℓ.bare n = if n = ".0" then none else ℓ n := by
  unfold Loc.bare
  by_cases h : n = ".0"
  · rw [if_pos h, beq_iff_eq.mpr h]; rfl
  · rw [if_neg h, beq_eq_false_iff_ne.mpr h]; rfl
noncomputable def namesApart : List (Str × NameKind) → Bool
  | [] => true
  | (x, _) :: rest => (rest.all fun y => y.1 != x) && namesApart rest
noncomputable def Wu (sc csc : Scope) : Bool :=
  csc.kind == .function && namesApart csc.names && (csc.names.all fun x => x.2 != .cell && x.1 != ("__debug__" : Str) && x.1 != ("__classdict__" : Str)) &&
  (csc.names.all fun x => x.2 != .free || sc.names.any fun y => y.1 == x.1 && (y.2 == .cell || y.2 == .free))
theorem W9 : ∀ {names : List (Str × NameKind)} {x : Str} {k : NameKind}, namesApart names = true → (x, k) ∈ names → names.lookup x = some k
  | (y, j) :: rest, x, k, h, hm => by
    simp only [namesApart, Bool.and_eq_true] at h
    cases hm with
    | head => simp [List.lookup_cons]
    | tail _ hm =>
      have hne : (x == y) = false := by
        have := List.all_eq_true.mp h.1 _ hm
        simpa using this
      rw [List.lookup_cons, hne]
      exact W9 h.2 hm
theorem mem_of_lookup : ∀ {names : List (Str × NameKind)} {x : Str} {k : NameKind}, names.lookup x = some k → (x, k) ∈ names
  | [], x, k, h => by simp at h
  | (y, j) :: rest, x, k, h => by
    rw [List.lookup_cons] at h
    split at h
    · rename_i e; cases h; rw [eq_of_beq e]; exact .head _
    · exact .tail _ (mem_of_lookup h)
theorem closureFor_ok {scope : Scope} {env : Env} (h : ∀ x ∈ scope.names, x.2 = .free → ∃ a, env.cells.lookup x.1 = some a) :
    ∃ cl, closureFor scope env = pure cl ∧ (∀ n a, cl.lookup n = some a → env.cells.lookup n = some a) ∧ ∀ n, (n, NameKind.free) ∈ scope.names → cl.lookup n = env.cells.lookup n := by
  have key : ∀ (names : List (Str × NameKind)) (cs : List (Str × Addr)), (∀ x ∈ names, x.2 = .free → ∃ a, env.cells.lookup x.1 = some a) → (∀ n a, cs.lookup n = some a → env.cells.lookup n = some a) →
      ∃ cl, (forIn names cs fun x cs => if (x.2 == NameKind.free) = true then (do let a ← cellOf env x.1; pure (ForInStep.yield ((x.1, a) :: cs))) else pure (ForInStep.yield cs) : Sem (List (Str × Addr))) = pure cl ∧
        (∀ n a, cl.lookup n = some a → env.cells.lookup n = some a) ∧ (∀ n, (n, NameKind.free) ∈ names ∨ cs.lookup n ≠ none → cl.lookup n = env.cells.lookup n) := by
    intro names
    induction names with
    | nil =>
      intro cs _ hcs
      refine ⟨cs, rfl, hcs, fun n q => ?_⟩
      rcases q with q | q
      · cases q
      · cases e : cs.lookup n with
        | none => exact absurd e q
        | some a => rw [hcs n a e]
    | cons x names ih =>
      intro cs hx hcs
      obtain ⟨n, k⟩ := x
      cases hk : k == NameKind.free with
      | true =>
        obtain ⟨a, ha⟩ := hx (n, k) (.head _) (eq_of_beq hk)
        have hcs' : ∀ m b, ((n, a) :: cs).lookup m = some b → env.cells.lookup m = some b := fun m b q => by
          rw [List.lookup_cons] at q
          split at q
          · rename_i e; cases q; rw [eq_of_beq e]; exact ha
          · exact hcs m b q
        obtain ⟨cl, h1, h2, h3⟩ := ih ((n, a) :: cs) (fun y hy => hx y (.tail _ hy)) hcs'
        refine ⟨cl, ?_, h2, fun m q => h3 m ?_⟩
        · rw [List.forIn_cons]
          simp only [hk, if_true]
          unfold cellOf
          rw [ha]
          exact h1
        · rcases q with q | q
          · cases q with
            | head => right; simp [List.lookup_cons]
            | tail _ q => exact .inl q
          · right
            rw [List.lookup_cons]
            split
            · simp
            · exact q
      | false =>
        obtain ⟨cl, h1, h2, h3⟩ := ih cs (fun y hy => hx y (.tail _ hy)) hcs
        refine ⟨cl, ?_, h2, fun m q => h3 m ?_⟩
        · rw [List.forIn_cons]
          simp only [hk, Bool.false_eq_true, if_false]
          exact h1
        · rcases q with q | q
          · cases q with
            | head => cases hk
            | tail _ q => exact .inl q
          · exact .inr q
  obtain ⟨cl, h1, h2, h3⟩ := key scope.names [] h (fun n a q => by simp at q)
  refine ⟨cl, ?_, h2, fun n q => h3 n (.inl q)⟩
  unfold closureFor
  have : (pure cl : Sem (List (Str × Addr))) = (pure cl >>= fun cs => pure cs) := rfl
  rw [this, ← h1]
theorem LR.forget {h : Heap} {σ : AH} {env : Env} {ℓ ℓ' : Loc} (L : LR g h σ env ℓ) (k : ∀ n v, ℓ' n = some v → ℓ n = some v) : LR g h σ env ℓ' := by
  obtain ⟨m, h1, h2⟩ := L.ns
  exact ⟨⟨m, h1, fun n v e kd => h2 n v (k n v e) kd⟩, L.cell, fun n v e kd => L.cells n v (k n v e) kd, L.off, L.offc, L.apart, L.has⟩
theorem Rel.claim {h : Heap} {σ : AH} {a : Addr} {ao : AO} (R : Rel g h σ) (hb : g.b0.get? a = none) (x : OR g h a ao) : Rel g h (σ.set a ao) := by
  refine ⟨R.hid, R.base, fun b bo e => ?_⟩
  unfold AH.set at e
  split at e
  · rename_i q; subst q; cases e; exact ⟨hb, x⟩
  · exact R.own b bo e
section
variable {A : Around} {env : Env} {s : Shared} {σ : AH} {ℓ : Loc} {h : Heap} {cl : List (Str × Addr)} {C : Addr}
theorem kindOf_comp (cl : List (Str × Addr)) (C : Addr) (env : Env) (x : Str) : (compEnvC csc cl C env).kindOf x = (csc.names.lookup x).map fun k => if (k == .free && env.scope.kind == .function && env.kindOf x == some .cell) then .cell else k := by
  show ((relabel csc env).names).lookup x = _
  unfold relabel
  simp only
  generalize csc.names = names
  induction names with
  | nil => rfl
  | cons y rest ih =>
    obtain ⟨n, k⟩ := y
    rw [List.map_cons, List.lookup_cons]
    by_cases hx : x = n
    · subst hx
      by_cases hc : (k == NameKind.free && env.scope.kind == .function && env.kindOf x == some .cell) = true
      · simp only [hc, if_true, List.lookup_cons, beq_self_eq_true, Option.map_some]
      · simp only [hc, if_false, List.lookup_cons, beq_self_eq_true, Option.map_some]
        simp
    · have hb : (x == n) = false := by simpa using hx
      by_cases hc : (k == NameKind.free && env.scope.kind == .function && env.kindOf n == some .cell) = true
      · simp only [hc, if_true, List.lookup_cons, hb]; exact ih
      · simp only [hc, if_false, List.lookup_cons, hb]; simp only [Bool.false_eq_true, if_false, List.lookup_cons, hb]; exact ih
theorem comp_env (X : Cx g sc r c A env h σ ℓ) (ok : Wu sc csc = true) : EnvOk csc (compEnvC csc cl C env) := by
  simp only [Wu, Bool.and_eq_true] at ok
  obtain ⟨⟨⟨ok1, ok2⟩, ok3⟩, ok4⟩ := ok
  refine ⟨fun x k hm => ?_, fun x k hm => ?_, by show (relabel csc env).kind = _; exact eq_of_beq ok1, X.ok.globals, X.ok.builtins⟩
  · rw [kindOf_comp, W9 ok2 hm]
    simp only [Option.map_some]
    split
    · rename_i hc
      simp only [Bool.and_eq_true] at hc
      exact .inr ⟨eq_of_beq hc.1.1, rfl⟩
    · exact .inl rfl
  · have := List.all_eq_true.mp ok3 _ hm
    simp only [Bool.and_eq_true] at this
    exact ⟨by simpa using this.1.2, by simpa using this.2⟩
theorem comp_loc (X : Cx g sc r c A env h σ ℓ) (ok : Wu sc csc = true) (hcl : ∀ n a, cl.lookup n = some a → env.cells.lookup n = some a) (hcl' : ∀ n, (n, NameKind.free) ∈ csc.names → cl.lookup n = env.cells.lookup n)
    {m : Str → Option Value} (hn : h.Ns C m) (hC : σ C = none) (hCb : g.b0.get? C = none) (hCn : ∀ x a, env.cells.lookup x = some a → a ≠ C)
    {ℓ' : Loc} (hl : ∀ n v, ℓ' n = some v → csc.names.lookup (Str.ofString n) = some .local → ∃ u, m (Str.ofString n) = some u ∧ VR g h v u)
    (hf : ∀ n v, ℓ' n = some v → csc.names.lookup (Str.ofString n) = some .free → ℓ n = some v) : LR g h σ (compEnvC csc cl C env) ℓ' := by
  simp only [Wu, Bool.and_eq_true] at ok
  obtain ⟨⟨⟨ok1, ok2⟩, ok3⟩, ok4⟩ := ok
  have kd : ∀ x k, (compEnvC csc cl C env).kindOf x = some k → (k = .local → csc.names.lookup x = some .local) ∧ (k = .cell ∨ k = .free → csc.names.lookup x = some .free) := fun x k e => by
    rw [kindOf_comp] at e
    cases q : csc.names.lookup x with
    | none => rw [q] at e; cases e
    | some j =>
      rw [q] at e
      simp only [Option.map_some, Option.some.injEq] at e
      have hj : j ≠ .cell := fun z => by
        subst z
        have := List.all_eq_true.mp ok3 _ (mem_of_lookup q)
        simp at this
      split at e
      · rename_i hc
        simp only [Bool.and_eq_true] at hc
        have : j = .free := eq_of_beq hc.1.1
        subst this; subst e
        exact ⟨fun z => (nomatch z), fun _ => rfl⟩
      · subst e
        exact ⟨fun z => by rw [z], fun z => by rcases z with z | z <;> first | exact absurd z hj | rw [z]⟩
  have out : ∀ x, csc.names.lookup x = some .free → env.kindOf x = some .cell ∨ env.kindOf x = some .free := fun x e => by
    have := List.all_eq_true.mp ok4 _ (mem_of_lookup e)
    simp only [bne_self_eq_false, Bool.false_or, List.any_eq_true, Bool.and_eq_true] at this
    obtain ⟨⟨y, j⟩, hy, h1, h2⟩ := this
    have hyx : y = x := eq_of_beq h1
    subst hyx
    rcases X.ok.kinds _ _ hy with q | ⟨_, q⟩
    · rw [q]
      cases j <;> simp at h2 <;> simp
    · exact .inl q
  refine ⟨⟨m, hn, fun n v e k => hl n v e ((kd _ _ k).1 rfl)⟩, fun x a e => X.loc.cell x a (hcl x a e), fun n v e k => ?_, ⟨hC, hCb⟩, fun x a e => ?_, fun x y a e1 e2 => X.loc.apart x y a (hcl x a e1) (hcl y a e2), fun x k => ?_⟩
  · have hfree : csc.names.lookup (Str.ofString n) = some .free := by
      rcases k with k | k
      · exact (kd _ _ k).2 (.inl rfl)
      · exact (kd _ _ k).2 (.inr rfl)
    obtain ⟨a, u, h1, h2, h3⟩ := X.loc.cells n v (hf n v e hfree) (out _ hfree)
    exact ⟨a, u, (hcl' _ (mem_of_lookup hfree)).trans h1, h2, h3⟩
  · obtain ⟨h1, h2, h3⟩ := X.loc.offc x a (hcl x a e)
    exact ⟨h1, hCn x a (hcl x a e), h3⟩
  · have hfree : csc.names.lookup x = some .free := by
      rcases k with k | k
      · exact (kd _ _ k).2 (.inl rfl)
      · exact (kd _ _ k).2 (.inr rfl)
    obtain ⟨a, ha⟩ := X.loc.has x (out x hfree)
    exact ⟨a, (hcl' _ (mem_of_lookup hfree)).trans ha⟩
theorem comp_cells (X : Cx g sc r c A env h σ ℓ) (ok : Wu sc csc = true) : ∀ x ∈ csc.names, x.2 = .free → ∃ a, env.cells.lookup x.1 = some a := fun x hx e => by
  simp only [Wu, Bool.and_eq_true] at ok
  have := List.all_eq_true.mp ok.2 _ hx
  rw [e] at this
  simp only [bne_self_eq_false, Bool.false_or, List.any_eq_true, Bool.and_eq_true] at this
  obtain ⟨⟨y, j⟩, hy, h1, h2⟩ := this
  have hyx : y = x.1 := eq_of_beq h1
  subst hyx
  refine X.loc.has _ ?_
  rcases X.ok.kinds _ _ hy with q | ⟨_, q⟩
  · rw [q]
    cases j <;> simp at h2 <;> simp
  · exact .inl q
end
end
section
open PySem PyProof.Rows
variable {g : Gr} {sc csc : Scope} {r : Nat} {c : Bool}
noncomputable def compT (t : Tgt) (inv : AH → Prop) (tifs : TB) (telt : TE) (ℓ : Loc) : List V → List V → AH → (List V → AH → Prop) → (Addr → AH → Prop) → Prop
  | [], acc, σ, Q, _ => inv σ ∧ Q acc σ
  | x :: xs, acc, σ, Q, E => inv σ ∧ Zj t x ℓ.bare σ fun ℓ₁ => tifs ℓ₁ σ (fun b σ₁ => match b with
      | true => telt ℓ₁ σ₁ (fun v σ₂ => compT t inv tifs telt ℓ xs (acc ++ [v]) σ₂ Q E) E
      | false => compT t inv tifs telt ℓ xs acc σ₁ Q E) E
noncomputable def Yi (t : Tgt) (ti : TI) (tifs : TB) (telt : TE) : Loc → AH → (List V → AH → Prop) → (Addr → AH → Prop) → Prop := fun ℓ σ Q E =>
  ti ℓ σ (fun items inv tup σ₁ => (tup = true → t.isTup = true) ∧ compT t inv tifs telt ℓ items [] σ₁ Q E) E
structure SndT (g : Gr) (sc : Scope) (r : Nat) (c : Bool) (ifs : List Expr) (t : TB) : Prop where
  run : ∀ A env s ℓ σ Q E, Cx g sc r c A env s.heap σ ℓ → t ℓ σ Q E →
  wpAny (model g.prog g.w) A (forIn ifs true fun c r => if r = true then do let ok ← isTrue c env (eval c env); pure (ForInStep.yield ok) else pure (ForInStep.yield r)) (PostB g s σ Q) (Wa g A s σ E) s
theorem sndT_nil : SndT g sc r c [] (Zf true) := .mk fun A env s ℓ σ Q E X h => wpAny_tests_nil (.here rfl X.rel h)
theorem sndT_one {e : Expr} {t : TB} (h1 : SndB g sc r c e t) : SndT g sc r c [e] t := .mk fun A env s ℓ σ Q E X h => wpAny_tests_one (h1.run A env s ℓ σ Q E X h)
theorem compLoop_own {prog : Program} {w : World} {A : Around} {R : Result → Shared → Prop} {s : Shared} {elt target iter : Expr} {ifs : List Expr} {scope : Scope} {pos : Pos} {it acc : Value} {env : Env} (I : Nat → Shared → Prop)
    (turn : ∀ n s, I n s → wpAny (model prog w) A (pyNext it) (fun r s₁ => match r with
      | none => R (.ok .next) s₁
      | some v => wpAny (model prog w) A (letOwnedTupleGo target it v) (fun _ s₁ => wpAny (model prog w) A (assign target env v) (fun _ s₂ =>
          wpAny (model prog w) A (forIn ifs true fun c r => if r = true then do let ok ← isTrue c env (eval c env); pure (ForInStep.yield ok) else pure (ForInStep.yield r)) (fun ok s₃ =>
            if ok = true then wpAny (model prog w) A (eval elt env) (fun x s₄ =>
              wpAny (model prog w) A (call (.builtin "list.append") [acc, x]) (fun _ s₅ => ∃ m, m < n ∧ I m s₅) (notedBy (model prog w) A env fun e s' => R (.error e) s') s₄) (notedBy (model prog w) A env fun e s' => R (.error e) s') s₃
            else ∃ m, m < n ∧ I m s₃) (notedBy (model prog w) A env fun e s' => R (.error e) s') s₂) (notedBy (model prog w) A env fun e s' => R (.error e) s') s₁) (notedBy (model prog w) A env fun e s' => R (.error e) s') s₁) (notedBy (model prog w) A env fun e s' => R (.error e) s') s)
    (n : Nat) (h : I n s) :
    codeAny (model prog w) A (.compLoop (.ListComp elt [⟨target, iter, ifs, 0⟩] scope pos) 0 it acc env) R s := by
  refine codeAny_loop rfl I (fun n s hI => ?_) n h
  show wpAny _ A ((compTurn (.ListComp elt [⟨target, iter, ifs, 0⟩] scope pos) 0 it acc env).onRaise (fun x => do noteFrame x env; theTreesLotGoes x)) _ _ s
  refine wpAny_noted ?_
  rw [compTurn_list]
  refine wpAny_bind (wpAny_standAt (wpAny_bind (wpAny_mono (turn n s hI) (fun r s₁ h₁ => ?_) fun _ _ h' => h')))
  cases r with
  | none => exact wpAny_pure h₁
  | some v =>
    refine wpAny_bind (wpAny_mono h₁ (fun _ s₁ h₁ => ?_) fun _ _ h' => h')
    refine wpAny_bind (wpAny_mono h₁ (fun _ s₂ h₂ => wpAny_bind (wpAny_mono h₂ (fun ok s₃ h₃ => ?_) fun _ _ h' => h')) fun _ _ h' => h')
    cases ok with
    | false => exact wpAny_pure ⟨rfl, h₃⟩
    | true =>
      exact wpAny_bind (wpAny_bind (wpAny_mono h₃ (fun x s₄ h₄ => wpAny_bind (wpAny_mono h₄ (fun _ s₅ h₅ => wpAny_pure (wpAny_pure ⟨rfl, h₅⟩)) fun _ _ h' => h')) fun _ _ h' => h'))
noncomputable def Tgt.names : Tgt → List String
  | .name n => [n]
  | .tup ns => ns
noncomputable def locOk (csc : Scope) (t : Tgt) : Bool := csc.names.all fun x => x.2 != .local || x.1 == Str.ofString ".0" || t.names.any fun n => x.1 == Str.ofString n
noncomputable def Loc.outer (csc : Scope) (ℓ : Loc) : Loc := fun n => if csc.names.lookup (Str.ofString n) = some .local then none else ℓ n
theorem setAll_sub : ∀ {ns : List String} {vs : List V} {ℓa ℓb : Loc}, vs.length = ns.length → (∀ n v, n ∉ ns → ℓa n = some v → ℓb n = some v) → ∀ n v, ℓa.setAll ns vs n = some v → ℓb.setAll ns vs n = some v
  | [], vs, ℓa, ℓb, hl, h, n, v, e => by
    cases vs with
    | nil => exact h n v (by simp) e
    | cons _ _ => simp at hl
  | m :: ns, [], ℓa, ℓb, hl, h, n, v, e => by simp at hl
  | m :: ns, x :: vs, ℓa, ℓb, hl, h, n, v, e => by
    refine setAll_sub (ns := ns) (vs := vs) (ℓa := ℓa.set m x) (ℓb := ℓb.set m x) (by simpa using hl) (fun k u hk q => ?_) n v e
    rw [Loc.set_at] at q ⊢
    split
    · rename_i z; rw [if_pos z] at q; exact q
    · rename_i z; rw [if_neg z] at q; exact h k u (by simp [z, hk]) q
theorem bind_outer {csc : Scope} {t : Tgt} (lk : locOk csc t = true) {x : V} {ℓ : Loc} {σ : AH} {P : Loc → Prop} (h : Zj t x ℓ.bare σ P) : Zj t x (ℓ.outer csc) σ fun ℓ' => ∃ ℓ'', (∀ n v, ℓ'' n = some v → ℓ' n = some v) ∧ P ℓ'' := by
  have sub : ∀ n v, n ∉ t.names → ℓ.bare n = some v → ℓ.outer csc n = some v := fun n v hn e => by
    rw [Loc.bare_at] at e
    split at e
    · cases e
    · rename_i z
      unfold Loc.outer
      rw [if_neg ?_]; exact e
      intro q
      have := List.all_eq_true.mp lk _ (mem_of_lookup q)
      simp only [bne_self_eq_false, Bool.false_or, Bool.or_eq_true, List.any_eq_true] at this
      rcases this with w | ⟨m, hm, w⟩
      · exact z (ofString_inj (eq_of_beq w))
      · exact hn (ofString_inj (eq_of_beq w) ▸ hm)
  cases t with
  | name m =>
    refine ⟨_, fun n v e => ?_, h⟩
    rw [Loc.set_at] at e ⊢
    split
    · rename_i z; rw [if_pos z] at e; exact e
    · rename_i z; rw [if_neg z] at e; exact sub n v (by simp [Tgt.names, z]) e
  | tup ns =>
    simp only [Zj] at h ⊢
    split at h
    · rename_i vs e
      exact ⟨h.1, _, setAll_sub h.1 sub, h.2⟩
    · exact h.elim
theorem Ext.absorb {W : Addr → Prop} {h0 h h' : Heap} {σ0 σ σ' : AH} (x : Ext No h0 σ0 h σ) (y : Ext W h σ h' σ') (hw : ∀ a, W a → h0.get? a = none) : Ext No h0 σ0 h' σ' := by
  refine ⟨fun a o e n nw => ?_, fun a o e => ?_, fun a q => ?_⟩
  · exact (x.keep a o e n nw).then fun o' e' => y.keep a o' e' (x.off e n) fun w => by rw [hw a w] at e; cases e
  · obtain ⟨o', e'⟩ := x.pres a o e; exact y.pres a o' e'
  · rcases y.dom a q with z | z
    · exact x.dom a z
    · cases e : h0.get? a with
      | none => exact .inr rfl
      | some o => obtain ⟨o', e'⟩ := x.pres a o e; rw [e'] at z; cases z
inductive CompX (g : Gr) (A : Around) (s : Shared) (σ : AH) (E : Addr → AH → Prop) (C : Addr) (e : Value) (s' : Shared) : Prop
  | mk (X : Addr) (σ' : AH) (h1 : XAt g false s.heap s'.heap e X σ') (h2 : Rel g s'.heap σ') (h3 : Ext No s.heap σ s'.heap σ') (h4 : Xu s s') (h5 : E X σ') (m : Str → Option Value) (hn : s'.heap.Ns C m) (oC : σ' C = none) : CompX g A s σ E C e s'
theorem Wa.comp {A : Around} {s s₃ s' : Shared} {σ σ₃ : AH} {E : Addr → AH → Prop} {C : Addr} {e : Value} {cenv : Env} {ℓ : Loc} (p : Wa g A s₃ σ₃ E e s') (L : LR g s₃.heap σ₃ cenv ℓ) (x : Ext No s.heap σ s₃.heap σ₃) (y : Xu s s₃) (hc : cenv.locals = C := by rfl) : CompX g A s σ E C e s' := by
  obtain ⟨X, σ', h1, h2, h3, h4, h5⟩ := p
  obtain ⟨m, hn, _⟩ := L.ns
  have ho := L.off.1
  rw [hc] at hn ho
  obtain ⟨o, _, _, e', _⟩ := id hn
  exact ⟨X, σ', h1.back x.pres, h2, x.trans h3, y.trans h4, h5, m, ns_upTo hn fun o e => h3.keep C o e ho id, h3.off e' ho⟩
theorem CompX.less {A : Around} {s : Shared} {σ : AH} {H : Addr → Prop} (k : ∀ a, g.hid a → H a) {E : Addr → AH → Prop} {C : Addr} {e : Value} {s' : Shared} (p : CompX (g.wh H) A s σ E C e s') : CompX g A s σ E C e s' :=
  let ⟨X, σ', h1, h2, h3, h4, h5, m, hn, oC⟩ := p; ⟨X, σ', h1.unwh, h2.less k, h3, h4, h5, m, hn, oC⟩
structure Blk (g : Gr) (csc : Scope) (cl : List (Str × Addr)) (env : Env) (s : Shared) (σ : AH) (fp : Addr → Prop) (St : Nat → Heap → Prop) (D C : Addr) (k : Nat) (acc : List V) (ℓ' : Loc) (s' : Shared) (σ' : AH) : Prop where
  st : St k s'.heap
  dl : ∃ vs n, s'.heap.get? D = some { cls := .type "list", data := .seq vs n } ∧ VRs g s'.heap acc vs.toList
  loc : LR g s'.heap σ' (compEnvC csc cl C env) ℓ'
  rel : Rel g s'.heap σ'
  ext : Ext No s.heap σ s'.heap σ'
  same : Xu s s'
  off : ∀ a, fp a → σ' a = none
  offD : σ' D = none
inductive CompI (g : Gr) (csc : Scope) (cl : List (Str × Addr)) (env : Env) (s : Shared) (σ : AH) (fp : Addr → Prop) (St : Nat → Heap → Prop) (D C : Addr) (items : List V) (t : Tgt) (inv : AH → Prop) (tifs : TB) (telt : TE) (ℓ : Loc) (Q : List V → AH → Prop) (E : Addr → AH → Prop) (n : Nat) (s' : Shared) : Prop
  | mk (k : Nat) (acc : List V) (σ' : AH) (h1 : k ≤ items.length) (h2 : n = items.length - k) (h3 : Blk g csc cl env s σ fp St D C k acc (ℓ.outer csc) s' σ') (h4 : acc.length ≤ k) (h5 : compT t inv tifs telt ℓ (items.drop k) acc σ' Q E) : CompI g csc cl env s σ fp St D C items t inv tifs telt ℓ Q E n s'
section
variable {A : Around} {env : Env} {s : Shared} {σ : AH} {ℓ : Loc} {cl : List (Str × Addr)} {items : List V} {inv : AH → Prop} {I : Addr} {fp : Addr → Prop} {St : Nat → Heap → Prop} {tup : Bool} {D C : Addr}
theorem comp_core {s₂ : Shared} {σ₁ : AH} {elt target iter : Expr} {ifs : List Expr} {pos : Pos} {t : Tgt} {tifs : TB} {telt : TE} {Q : List V → AH → Prop} {E : Addr → AH → Prop} {EE : Value → Shared → Prop} {RR : Value → Addr → Result → Shared → Prop} {H : Addr → Prop}
    (hH : ∀ a, g.hid a → H a) (hK : ∀ a o, s.heap.get? a = some o → H a → g.hid a) (X : Cx g sc r true A env s.heap σ ℓ) (ok : Wu sc csc = true) (IT : Iters (g.wh H) items inv I fp St tup) (hst : St 0 s₂.heap) (hR : Rel (g.wh H) s₂.heap σ₁) (hx : Ext No s.heap σ s₂.heap σ₁) (hsm : Xu s s₂) (hfp : ∀ a, fp a → s.heap.get? a = none ∧ σ₁ a = none)
    (hft : Ym items.length) (htt : tup = true → t.isTup = true) (ht : TgtIs csc target t) (lk : locOk csc t = true) (h1 : SndT (g.wh H) csc r true ifs tifs) (h2 : Y5 (g.wh H) csc r true elt telt)
    (hcl : ∀ n a, cl.lookup n = some a → env.cells.lookup n = some a) (hcl' : ∀ n, (n, NameKind.free) ∈ csc.names → cl.lookup n = env.cells.lookup n)
    (h : compT t inv tifs telt ℓ items [] σ₁ Q E)
    (hRR : ∀ D C s' σ' xs, s.heap.get? D = none → s.heap.get? C = none → D ≠ C → (∃ m, s'.heap.Ns C m) → OR g s'.heap D (.list xs) → Rel g s'.heap σ' → Ext No s.heap σ s'.heap σ' → Xu s s' → σ' D = none → σ' C = none → Q xs σ' → RR (.ref D) C (.ok .next) s')
    (hEE : ∀ D C e s', s.heap.get? C = none → CompX g A s σ E C e s' → notedBy (model g.prog g.w) A (compEnvC csc cl C env) (fun e s' => RR (.ref D) C (.error e) s') e s') :
    wpAny (model g.prog g.w) A (newList []) (fun acc s₃ => wpAny (model g.prog g.w) A (newFunctionEnv csc env.globals cl [] env.qual none .none (some env)) (fun cenv s₄ =>
      codeAny (model g.prog g.w) A (.compStart (.ListComp elt [⟨target, iter, ifs, 0⟩] csc pos) 0 (.ref I) acc { cenv with scope := relabel csc env }) (RR acc cenv.locals) s₄) EE s₃) EE s₂ := by
  have ok' := ok
  simp only [Wu, Bool.and_eq_true] at ok'
  obtain ⟨⟨⟨ok1, ok2⟩, ok3⟩, ok4⟩ := ok'
  have hcell : ∀ y ∈ csc.names, y.2 ≠ .cell := fun y hy e => by
    have := List.all_eq_true.mp ok3 _ hy
    rw [e] at this; simp at this
  refine wpAny_newObj_type (wpAny_newFunctionEnv hcell (by intro y hy; simp at hy) (fun h₁ hns₁ hsb₁ => ?_) (eq_of_beq ok1))
  dsimp only at hns₁ hsb₁ ⊢
  generalize hH2 : s₂.heap.push { cls := .type "list", dict := none, data := .seq ([] : List Value).toArray } = H2 at hns₁ hsb₁ ⊢
  generalize hDd : s₂.heap.objs.size = D at *
  generalize hCd : H2.objs.size = C at *
  have hCD : C = D + 1 := by rw [← hCd, ← hH2, Heap.size_push, hDd]
  have hDC : D ≠ C := by omega
  have lt2 : ∀ b o, s₂.heap.get? b = some o → b < D := fun b o e => by rw [← hDd]; exact Heap.lt_size e
  have old : ∀ b o, s₂.heap.get? b = some o → h₁.get? b = some o := fun b o e => hsb₁.extBut b o (by rw [hCD]; exact Nat.ne_of_lt (Nat.lt_succ_of_lt (lt2 b o e))) (Heap.get?_push_of_some _ (hH2 ▸ Heap.get?_push_of_some _ e))
  have hacc : h₁.get? D = some { cls := .type "list", data := .seq #[] } := hsb₁.extBut _ _ hDC (Heap.get?_push_of_some _ (hH2 ▸ (hDd ▸ Heap.get?_push_size _ rfl)))
  have fresh2 : ∀ a, D ≤ a → s₂.heap.get? a = none := fun a ha => by
    cases e : s₂.heap.get? a with
    | none => rfl
    | some o' => exact absurd (lt2 a o' e) (Nat.not_lt.mpr ha)
  have fresh : ∀ a, D ≤ a → s.heap.get? a = none := fun a ha => by
    cases e : s.heap.get? a with
    | none => rfl
    | some o => obtain ⟨o', e'⟩ := hx.pres a o e; rw [fresh2 a ha] at e'; cases e'
  have hDs := fresh D (Nat.le_refl _)
  have hCs := fresh C (by omega)
  have b0 : ∀ a, s.heap.get? a = none → g.b0.get? a = none := fun a e => by
    cases q : g.b0.get? a with
    | none => rfl
    | some o => rw [X.rel.base a o q] at e; cases e
  have hhid : ∀ a, s.heap.get? a = none → ¬ g.hid a := fun a e w => by
    obtain ⟨o, e'⟩ := X.rel.hid a w; rw [e] at e'; cases e'
  have fpD : ∀ a, fp a → a < D := fun a q => by obtain ⟨o, e, _⟩ := IT.flds 0 _ a hst q; exact lt2 a o e
  have cellsIn : ∀ x a, env.cells.lookup x = some a → ∃ o, s.heap.get? a = some o := fun x a e => let ⟨o, u, h1, _⟩ := X.loc.cell x a e; ⟨o, h1⟩
  have ownC : ∀ a, Own (compEnvC csc cl C env) a → a = C ∨ ∃ o, s.heap.get? a = some o := fun a w => by
    rcases w with w | ⟨x, e⟩
    · exact .inl w
    · exact .inr (cellsIn x a (hcl x a e))
  have fpOwn : ∀ a, fp a → ¬ Own (compEnvC csc cl C env) a := fun a q w => by
    rcases ownC a w with z | ⟨o, z⟩
    · have q' := fpD a q; rw [z, hCD] at q'; exact absurd q' (Nat.not_lt.mpr (Nat.le_succ D))
    · rw [(hfp a q).1] at z; cases z
  have DOwn : ¬ Own (compEnvC csc cl C env) D := fun w => by
    rcases ownC D w with z | ⟨o, z⟩
    · exact hDC z
    · rw [hDs] at z; cases z
  have writes : Writes (· = C) csc (compEnvC csc cl C env) := ⟨fun a q => .inl q, fun n k a hm q1 q2 hk => by
    cases k with
    | «local» => exact q1 rfl
    | cell => exact absurd rfl (hcell _ hm)
    | _ => cases hk⟩
  have target_tup : tup = true → ∃ es m p, target = .Tuple es m p := fun q => by
    have := htt q
    cases ht with
    | name _ _ => cases this
    | tup _ => exact ⟨_, _, _, rfl⟩
  have XC : ∀ {k acc ℓ' s' σ'}, Blk (g.wh H) csc cl env s σ fp St D C k acc ℓ' s' σ' → Cx (g.wh H) csc r true A (compEnvC csc cl C env) s'.heap σ' ℓ' := fun {k acc ℓ' s' σ'} b =>
    ⟨X.gok.wh, comp_env X ok, b.loc, X.fr.step b.ext (fun _ _ _ _ n => n.elim), X.room, b.rel⟩
  have XB : ∀ {h' : Heap} {σ' : AH}, Rel (g.wh H) h' σ' → Ext No s.heap σ h' σ' → Cx (g.wh H) sc r true A env h' σ' ℓ := fun {h' σ'} R x =>
    ⟨X.gok.wh, X.ok, LR.stepT (LR.more hK X.loc) (fun a o vs n nh => x.tuples X.rel Xz a o vs n fun q => nh (hH a q)) x, X.fr.step x (fun _ _ _ _ n => n.elim), X.room, R⟩
  have stepE : ∀ {k acc ℓ' s' σ' s'' σ''}, Blk (g.wh H) csc cl env s σ fp St D C k acc ℓ' s' σ' → Ext No s'.heap σ' s''.heap σ'' → Rel (g.wh H) s''.heap σ'' → Xu s' s'' → Blk (g.wh H) csc cl env s σ fp St D C k acc ℓ' s'' σ'' := fun {k acc ℓ' s' σ' s'' σ''} b x R hs => by
    have tk : Y8 (g.wh H) s'.heap s''.heap := x.tuples b.rel Xz
    obtain ⟨vs, n, e, hv⟩ := b.dl
    refine ⟨IT.stab _ _ _ b.st tk fun a o q e => ?_, ⟨vs, n, (x.keep D _ e b.offD id).exact (fun _ _ => Data.noConfusion), VRs.mono tk hv⟩, b.loc.step b.rel x, R, b.ext.trans x, b.same.trans hs, fun a q => ?_, x.off e b.offD⟩
    · refine (x.keep a o e (b.off a q) id).exact fun es m d => ?_
      obtain ⟨o', e', z⟩ := IT.flds _ _ a b.st q
      rw [e] at e'; cases e'
      rcases z with ⟨_, _, _, z⟩ | ⟨us, z⟩ <;> (rw [d] at z; cases z)
    · obtain ⟨o', e', z⟩ := IT.flds _ _ a b.st q
      exact x.off e' (b.off a q)
  have loop : ∀ s₃ : Shared, s₃ = { s₂ with heap := h₁, toks := s₂.toks + ([] : List (Str × Value)).length } →
      codeAny (model g.prog g.w) A (.compLoop (.ListComp elt [⟨target, iter, ifs, 0⟩] csc pos) 0 (.ref I) (.ref D) (compEnvC csc cl C env)) (RR (.ref D) C) s₃ := by
    rintro s₃ rfl
    have B0 : Blk (g.wh H) csc cl env s σ fp St D C 0 [] (ℓ.outer csc) { s₂ with heap := h₁, toks := s₂.toks + ([] : List (Str × Value)).length } σ₁ := by
      have k1 : ∀ a o, s₂.heap.get? a = some o → h₁.get? a = some o := old
      have X1 : Cx (g.wh H) sc r true A env h₁ σ₁ ℓ := XB (hR.keeps k1) (hx.trans (.keeps k1))
      refine ⟨IT.stab _ _ _ hst (fun a o _ _ _ e _ _ => .of (k1 a o e)) fun a o _ e => k1 a o e, ⟨#[], 0, hacc, Xs⟩, ?_, hR.keeps k1, hx.trans (.keeps k1), hsm.trans ⟨rfl, rfl, rfl⟩, fun a q => (hfp a q).2, hR.fresh (fresh2 D (Nat.le_refl _))⟩
      refine comp_loc X1 ok hcl hcl' hns₁ (hR.fresh (fresh2 C (by omega))) (b0 C hCs) (fun x a e z => ?_) (fun n v e q => ?_) (fun n v e q => ?_)
      · obtain ⟨o, e'⟩ := cellsIn x a e; rw [z, hCs] at e'; cases e'
      · unfold Loc.outer at e; rw [if_pos q] at e; cases e
      · unfold Loc.outer at e; split at e
        · cases e
        · exact e
    refine compLoop_own (CompI (g.wh H) csc cl env s σ fp St D C items t inv tifs telt ℓ Q E) ?_ items.length
      ⟨0, [], σ₁, Nat.zero_le _, rfl, B0, Nat.le_refl _, by simpa using h⟩
    rintro n s' ⟨k, acc, σ', hk, rfl, B, hal, hl⟩
    have W : Walked (g.wh H) fp s'.heap σ' := ⟨B.off, fun a q => IT.flds k _ a B.st q, fun a q => b0 a (hfp a q).1⟩
    have hne : ∀ a, fp a → a ≠ D := fun a q => Nat.ne_of_lt (fpD a q)
    have extK : ∀ {s'' : Shared}, KeptBut fp s'.heap s''.heap → Ext No s.heap σ s''.heap σ' := fun {s''} kb => by
      refine ⟨fun a o e n nw => ?_, fun a o e => ?_, B.ext.dom⟩
      · refine (B.ext.keep a o e n nw).then fun o' e' => .of (kb a o' (fun q => ?_) e')
        rw [(hfp a q).1] at e; cases e
      · obtain ⟨o', e'⟩ := B.ext.pres a o e
        refine ⟨o', kb a o' (fun q => ?_) e'⟩
        rw [(hfp a q).1] at e; cases e
    obtain ⟨vs, nn, eD, hvs⟩ := B.dl
    rcases Nat.lt_or_ge k items.length with hlt | hge
    · have hd : items.drop k = items[k] :: items.drop (k + 1) := List.drop_eq_getElem_cons hlt
      rw [hd] at hl
      obtain ⟨hinv, hbind⟩ := hl
      refine wpAny_mono (IT.item k items[k] A (fun e s' => False) s' σ' target (fun v s₁ => ∃ (kb : KeptBut fp s'.heap s₁.heap), Xu s' s₁ ∧ St (k + 1) s₁.heap ∧ VR (g.wh H) s₁.heap items[k] v) (by simp [hlt]) B.st B.rel hinv B.off target_tup
        fun v s₁ a b d e => ⟨a, b, d, e⟩) (fun rr s₁ p => ?_) fun _ _ p => p.elim
      cases rr with
      | none => exact p.elim
      | some v =>
        refine wpAny_mono p (fun _ s₂ p => ?_) fun _ _ p => p.elim
        obtain ⟨kb, hs2, hst2, hv⟩ := p
        have B2 : Blk (g.wh H) csc cl env s σ fp St D C (k + 1) acc (ℓ.outer csc) s₂ σ' :=
          ⟨hst2, ⟨vs, nn, kb D _ (fun q => hne D q rfl) eD, VRs.mono (W.tups kb) hvs⟩, W.loc B.loc kb fpOwn, W.rel B.rel kb fun a w q => let ⟨o, e, _⟩ := IT.flds _ _ a hst2 q; ⟨o, e⟩, extK kb, B.same.trans hs2, B.off, B.offD⟩
        refine wpAny_mono (assign_ok (g := g.wh H) writes (E := fun _ _ => False) (XC B2) ht hv (bind_outer lk hbind)) (fun _ s₃ p => ?_) fun _ _ p => p.elim
        obtain ⟨ℓ₃, hL3, hR3, hx3, hs3, ℓ₄, hsub, hbody⟩ := p
        have noseq : NoSeq (· = C) s₂.heap := fun a o w => B2.loc.noSeq a o (.inl w)
        have tk3 : Y8 (g.wh H) s₂.heap s₃.heap := hx3.tuples B2.rel noseq
        have B3 : Blk (g.wh H) csc cl env s σ fp St D C (k + 1) acc ℓ₄ s₃ σ' := by
          obtain ⟨vs2, nn2, eD2, hvs2⟩ := B2.dl
          refine ⟨IT.stab _ _ _ hst2 tk3 fun a o q e => ?_, ⟨vs2, nn2, (hx3.keep D _ eD2 B2.offD hDC).exact (fun _ _ => Data.noConfusion), VRs.mono tk3 hvs2⟩, hL3.forget hsub, hR3, B2.ext.absorb hx3 (fun a w => w ▸ hCs), B2.same.trans hs3, B2.off, B2.offD⟩
          refine (hx3.keep a o e (B2.off a q) fun w => fpOwn a q (.inl w)).exact fun es m d => ?_
          obtain ⟨o', e', z⟩ := IT.flds _ _ a hst2 q
          rw [e] at e'; cases e'
          rcases z with ⟨_, _, _, z⟩ | ⟨us, z⟩ <;> (rw [d] at z; cases z)
        have again : ∀ {s₅ : Shared} {σ₅ : AH} {acc' : List V}, Blk (g.wh H) csc cl env s σ fp St D C (k + 1) acc' ℓ₄ s₅ σ₅ → acc'.length ≤ k + 1 → compT t inv tifs telt ℓ (items.drop (k + 1)) acc' σ₅ Q E →
            ∃ m, m < items.length - k ∧ CompI (g.wh H) csc cl env s σ fp St D C items t inv tifs telt ℓ Q E m s₅ := fun {s₅ σ₅ acc'} b hle hc => by
          refine ⟨items.length - (k + 1), by omega, k + 1, acc', σ₅, hlt, rfl, ⟨b.st, b.dl, ?_, b.rel, b.ext, b.same, b.off, b.offD⟩, hle, hc⟩
          have X5 : Cx (g.wh H) sc r true A env s₅.heap σ₅ ℓ := XB b.rel b.ext
          obtain ⟨m, hn5, _⟩ := b.loc.ns
          refine comp_loc X5 ok hcl hcl' hn5 b.loc.off.1 (b0 C hCs) (fun x a e z => ?_) (fun n v e q => ?_) (fun n v e q => ?_)
          · obtain ⟨o, e'⟩ := cellsIn x a e; have z' : a = C := z; rw [z', hCs] at e'; cases e'
          · unfold Loc.outer at e; rw [if_pos q] at e; cases e
          · unfold Loc.outer at e; split at e
            · cases e
            · exact e
        refine wpAny_mono (h1.run A _ s₃ ℓ₄ σ' _ E (XC B3) hbody) (fun b s₄ p => ?_) fun e s₄ p => hEE D C e s₄ hCs ((p.comp B3.loc B3.ext B3.same).less hH)
        obtain ⟨b', σ₄, rfl, hR4, hx4, hs4, hq⟩ := p
        have B4 := stepE B3 hx4 hR4 hs4
        cases b' with
        | false => exact again B4 (by omega) hq
        | true =>
          rw [if_pos rfl]
          refine wpAny_mono (h2.run A _ s₄ ℓ₄ σ₄ _ E (XC B4) hq) (fun y s₅ p => ?_) fun e s₅ p => hEE D C e s₅ hCs ((p.comp B4.loc B4.ext B4.same).less hH)
          refine X7.elim p fun y' σ₅ hy hR5 hx5 hs5 hq => ?_
          have B5 := stepE B4 hx5 hR5 hs5
          obtain ⟨vs5, nn5, eD5, hvs5⟩ := B5.dl
          have hsz : vs5.size ≤ sizeLine := by
            have := Yb hvs5
            have h2 := hft.line
            simp at this; omega
          refine wpAny_list_append_plain ⟨nn5, eD5⟩ (fun h' hpl sb => ?_) hsz
          obtain ⟨n6, eD6⟩ := hpl
          have tk6 : Y8 (g.wh H) s₅.heap h' := fun a o us m _ e cc d => by
            refine .of (sb.extBut a o (fun z => ?_) e)
            subst z; rw [eD5] at e; cases e; exact absurd cc (by simp)
          have pD : ∃ o, h'.get? D = some o := ⟨_, eD6⟩
          have x6 : Ext (· = D) s₅.heap σ₅ h' σ₅ := ⟨fun a o e _ nw => .of (sb.extBut a o nw e), fun a o e => by
            by_cases z : a = D
            · rw [z]; exact pD
            · exact ⟨o, sb.extBut a o z e⟩, fun a q => .inl q⟩
          have R6 : Rel (g.wh H) h' σ₅ := by
            refine ⟨fun a ha => ?_, fun a o e => sb.extBut a o (fun z => ?_) (hR5.base a o e), fun a ao e => ⟨(hR5.own a ao e).1, OR_mono tk6 (fun o e' => sb.extBut a o (fun z => ?_) e') (hR5.own a ao e).2⟩⟩
            · obtain ⟨o, e⟩ := hR5.hid a ha
              exact x6.pres a o e
            · have q0 : (g.wh H).b0.get? D = none := b0 D hDs
              rw [z, q0] at e; cases e
            · rw [z, B5.offD] at e; cases e
          have L6 : LR (g.wh H) h' σ₅ (compEnvC csc cl C env) ℓ₄ := by
            have kv : ∀ {v : V} {u : Value}, VR (g.wh H) s₅.heap v u → VR (g.wh H) h' v u := VR.mono tk6
            obtain ⟨m, hn, hm⟩ := B5.loc.ns
            have hCD' : (compEnvC csc cl C env).locals ≠ D := fun z => hDC z.symm
            refine ⟨⟨m, ns_upTo hn fun o e => .of (sb.extBut _ o hCD' e), fun y v a b => let ⟨u, e, f⟩ := hm y v a b; ⟨u, e, kv f⟩⟩, fun y c e => ?_, fun y v a kk => ?_, B5.loc.off, B5.loc.offc, B5.loc.apart, B5.loc.has⟩
            · obtain ⟨o, u, e1, e2⟩ := B5.loc.cell y c e
              exact ⟨o, u, sb.extBut c o (fun z => DOwn (z ▸ .inr ⟨y, e⟩)) e1, e2⟩
            · obtain ⟨c, u, e, hc, hv⟩ := B5.loc.cells y v a kk
              exact ⟨c, u, e, cell_upTo hc fun o z => .of (sb.extBut _ o (fun z => DOwn (z ▸ .inr ⟨_, e⟩)) z), kv hv⟩
          have hvs6 : VRs (g.wh H) h' (acc ++ [y']) (vs5.push y).toList := by
            rw [Array.toList_push]
            exact VRs_snoc (VRs.mono tk6 hvs5) (VR.mono tk6 hy)
          refine again (s₅ := { s₅ with heap := h' }) ⟨IT.stab _ _ _ B5.st tk6 fun a o q e => sb.extBut a o (hne a q) e, ⟨_, n6, eD6, hvs6⟩, L6, R6, B5.ext.absorb x6 (fun a w => w ▸ hDs), B5.same.trans ⟨rfl, rfl, rfl⟩, B5.off, B5.offD⟩ (by simp; omega) hq
    · have hd : items.drop k = [] := List.drop_eq_nil_of_le hge
      rw [hd] at hl
      refine IT.last k A _ s' σ' _ hge (X.room.calm rfl) B.st B.rel hl.1 B.off fun s'' kb hs'' => ?_
      have hL := W.loc B.loc kb fpOwn
      obtain ⟨m, hn, _⟩ := hL.ns
      exact hRR D C s'' σ' acc hDs hCs hDC ⟨m, hn⟩ (OR.less (ao := .list acc) hH ⟨hft.le (by omega), vs, nn, kb D _ (fun q => hne D q rfl) eD, VRs.mono (W.tups kb) hvs⟩) (W.relLess B.rel kb hH fun a q => hhid a (hfp a q).1) (extK kb) (B.same.trans hs'') B.offD hL.off.1 hl.2
  exact codeAny_compStart_list (loop _ rfl) (IT.self 0 _ _ _ _ (IT.stab _ _ _ hst (fun a o _ _ _ e _ _ => .of (old a o e)) fun a o _ e => old a o e) (loop _ rfl))
end
/-! ## the comprehension as an expression, and bound to a name -/
noncomputable def Zn (tc : Loc → AH → (List V → AH → Prop) → (Addr → AH → Prop) → Prop) : TE := fun ℓ σ Q E => tc ℓ σ (fun xs σ₁ => ∀ a, σ₁ a = none → Q (.ref a) (σ₁.set a (.list xs))) E
theorem sameBut_rel {C : Addr} {h h' : Heap} {σ : AH} (R : Rel g h σ) (hn : ∃ m, h.Ns C m) (sb : Heap.SameBut C h h') (hC : σ C = none) (hb : g.b0.get? C = none) (hh : ¬ g.hid C) : Rel g h' σ ∧ Y8 g h h' := by
  obtain ⟨m, oC, es, ep, eC, dC, _⟩ := hn
  have tk : Y8 g h h' := fun a o us n _ e _ d => by
    refine .of (sb.extBut a o (fun z => ?_) e)
    subst z; rw [eC] at e; cases e; rw [dC] at d; cases d
  refine ⟨⟨fun a ha => ?_, fun a o e => sb.extBut a o (fun z => ?_) (R.base a o e), fun a ao e => ⟨(R.own a ao e).1, OR_mono tk (fun o e' => sb.extBut a o (fun z => ?_) e') (R.own a ao e).2⟩⟩, tk⟩
  · obtain ⟨o, e⟩ := R.hid a ha
    exact ⟨o, sb.extBut a o (fun z => hh (z ▸ ha)) e⟩
  · rw [z, hb] at e; cases e
  · rw [z, hC] at e; cases e
theorem comp_err {A : Around} {env : Env} {s s' : Shared} {σ : AH} {ℓ : Loc} {cl : List (Str × Addr)} {C : Addr} {E : Addr → AH → Prop} {e : Value} {EE : Value → Shared → Prop} {use : Option (Value → Sem Unit)} {Q : Value → Shared → Prop} {acc : Value} (X : Cx g sc r c A env s.heap σ ℓ) (hC : s.heap.get? C = none) (p : CompX g A s σ E C e s') (k : ∀ e s', Wa g A s σ E e s' → EE e s') :
    notedBy (model g.prog g.w) A (compEnvC csc cl C env) (fun e s' => compPost (model g.prog g.w) A EE use Q acc C (.error e) s') e s' := by
  obtain ⟨D, σ', h1, h2, h3, h4, h5, m, hn, oC⟩ := p
  have b0 : g.b0.get? C = none := by
    cases q : g.b0.get? C with
    | none => rfl
    | some o => rw [X.rel.base C o q] at hC; cases hC
  have hh : ¬ g.hid C := fun w => by obtain ⟨o, e'⟩ := X.rel.hid C w; rw [hC] at e'; cases e'
  have F : FrOk g A (compEnvC csc cl C env) s'.heap σ' := X.fr.step h3 (fun _ _ _ _ n => n.elim)
  refine note_ok F h2 h3.pres h1 fun s₁ t x hs => ?_
  have hn₁ := t.ns hn
  refine ⟨m, hn₁, fun h' sb cenv _ => ?_⟩
  obtain ⟨R2, tk⟩ := sameBut_rel (t.rel h2) ⟨m, hn₁⟩ sb oC b0 hh
  obtain ⟨oc, es, ep, ec, dc, _⟩ := hn₁
  have nf : ∀ a o vs, s₁.heap.get? a = some o → o.data = .fields vs → h'.get? a = some o := fun a o vs e d => sb.extBut a o (fun z => by subst z; rw [ec] at e; cases e; rw [d] at dc; cases dc) e
  have x' : XAt g true s.heap h' e D σ' := by
    obtain ⟨a, o, vs, ea, x0, xb, xs, xo, xc, xn, xd, xz, xt⟩ := x
    exact ⟨a, o, vs, ea, x0, xb, xs, nf a o _ xo xd, xc, xn, xd, xz, xt.imp id fun ⟨T, o, ts, et, ne, t0, tb, ts0, ho, hd, hs⟩ => ⟨T, o, ts, et, ne, t0, tb, ts0, nf T o _ ho hd, hd, hs⟩⟩
  have xa := t.ext h3
  have x2 : Ext No s.heap σ h' σ' := ⟨fun a o e n w => (xa.keep a o e n w).then fun o' e' => .of (sb.extBut a o' (fun z => by rw [z, hC] at e; cases e) e'), fun a o e => let ⟨o', e'⟩ := xa.pres a o e; ⟨o', sb.extBut a o' (fun z => by rw [z, hC] at e; cases e) e'⟩, xa.dom⟩
  exact pass_ok (s := { s₁ with heap := h' }) x' fun s₂ t2 y hs2 => k _ _ ⟨D, σ', y.weak, t2.rel R2, t2.ext x2, (h4.trans hs).trans (Xu.trans ⟨rfl, rfl, rfl⟩ hs2), h5⟩
theorem hnames_of (ok : Wu sc csc = true) : ∀ x ∈ csc.names, x.2 = .local → csc.names.lookup x.1 = some .local := fun x hx e => by
  simp only [Wu, Bool.and_eq_true] at ok
  exact W9 ok.1.1.2 (e ▸ hx)
inductive PostIH (g : Gr) (BP : (Addr → Prop) → Prop) (s : Shared) (σ : AH) (Q : List V → (AH → Prop) → Bool → AH → Prop) (it : Value) (s' : Shared) : Prop
  | mk (H : Addr → Prop) (hb : BP H) (hH : ∀ a, g.hid a → H a) (hK : ∀ a o, s.heap.get? a = some o → H a → g.hid a) (items : List V) (inv : AH → Prop) (I : Addr) (fp : Addr → Prop) (St : Nat → Heap → Prop) (tup : Bool) (σ' : AH) (h0 : it = .ref I) (h1 : Iters (g.wh H) items inv I fp St tup) (h2 : St 0 s'.heap) (h3 : Rel (g.wh H) s'.heap σ') (h4 : Ext No s.heap σ s'.heap σ') (h5 : Xu s s') (h6 : ∀ a, fp a → s.heap.get? a = none ∧ σ' a = none) (h7 : Ym items.length) (h8 : Q items inv tup σ') : PostIH g BP s σ Q it s'
structure SndIH (g : Gr) (sc : Scope) (r : Nat) (c : Bool) (BP : (Addr → Prop) → Prop) (e : Expr) (t : TI) : Prop where
  run : ∀ A env s ℓ σ Q E, Cx g sc r c A env s.heap σ ℓ → t ℓ σ Q E →
  wpAny (model g.prog g.w) A (eval e env) (fun x s₁ => wpAny (model g.prog g.w) A (pyIter x) (PostIH g BP s σ Q) (Wa g A s σ E) s₁) (Wa g A s σ E) s
theorem SndI.toH {e : Expr} {t : TI} (h : SndI g sc r c e t) : SndIH g sc r c (· = g.hid) e t := .mk fun A env s ℓ σ Q E X q =>
  wpAny_mono (h.run A env s ℓ σ Q E X q) (fun _ _ p => wpAny_mono p (fun _ _ p => let ⟨items, inv, I, fp, St, tup, σ₁, h0, h1, h2, h3, h4, h5, h6, h7, h8⟩ := p; ⟨g.hid, rfl, fun _ h => h, fun _ _ _ h => h, items, inv, I, fp, St, tup, σ₁, h0, h1, h2, h3, h4, h5, h6, h7, h8⟩) fun _ _ p => p) fun _ _ p => p
theorem sndE_compH {BP : (Addr → Prop) → Prop} {elt target iter : Expr} {ifs : List Expr} {pos : Pos} {t : Tgt} {ti : TI} {tifs : TB} {telt : TE} (ok : Wu sc csc = true) (hi : SndIH g sc r true BP iter ti) (ht : TgtIs csc target t) (lk : locOk csc t = true) (h1 : ∀ H, BP H → SndT (g.wh H) csc r true ifs tifs) (h2 : ∀ H, BP H → Y5 (g.wh H) csc r true elt telt)
    (hf : ∀ env x, foldedSetIterable iter env x = pure x) : Y5 g sc r true (.ListComp elt [⟨target, iter, ifs, 0⟩] csc pos) (Zn (Yi t ti tifs telt)) := .mk fun A env s ℓ σ Q E X h => by
  obtain ⟨cl, hclos, hcl, hcl'⟩ := closureFor_ok (comp_cells X ok)
  have b0 : ∀ a, s.heap.get? a = none → g.b0.get? a = none := fun a e => by
    cases q : g.b0.get? a with
    | none => rfl
    | some o => rw [X.rel.base a o q] at e; cases e
  have hhid : ∀ a, s.heap.get? a = none → ¬ g.hid a := fun a e w => by
    obtain ⟨o, e'⟩ := X.rel.hid a w; rw [e] at e'; cases e'
  have hk : csc.kind = .function := by simp only [Wu, Bool.and_eq_true] at ok; exact eq_of_beq ok.1.1.1
  rw [eval_ListComp]
  refine wpAny_comprehension_free (use := none) rfl (hf env) hclos hk (hnames_of ok) (wpAny_mono (hi.run A env s ℓ σ _ _ X h) (fun x s₁ p => wpAny_mono p (fun it s₂ p => ?_) fun _ _ p => p) fun _ _ p => p)
  obtain ⟨H, bp, hH, hK, items, inv, I, fp, St, tup, σ₁, rfl, IT, hst, hR, hx, hsm, hfp, hft, htt, hl⟩ := p
  refine comp_core hH hK (RR := fun acc C => compPost (model g.prog g.w) A (Wa g A s σ E) none (PostE g s σ Q) acc C) X ok IT hst hR hx hsm hfp hft htt ht lk (h1 H bp) (h2 H bp) hcl hcl' hl (fun D C s' σ' xs hD hC hDC hn ho hR' hx' hs' oD oC hq => ?_) fun D C e s' hC p => ?_
  · obtain ⟨m, hn⟩ := hn
    refine ⟨m, hn, fun h' sb => ?_⟩
    obtain ⟨R2, tk⟩ := sameBut_rel hR' ⟨m, hn⟩ sb oC (b0 C hC) (hhid C hC)
    have ho' : OR g h' D (.list xs) := OR_mono tk (fun o e => sb.extBut D o hDC e) ho
    refine ⟨.ref D, σ'.set D (.list xs), Yt.mpr rfl, R2.claim (b0 D hD) ho', ⟨fun a o e n w => (hx'.keep a o e n w).then fun o' e' => .of (sb.extBut a o' (fun z => ?_) e'), fun a o e => ?_, fun a q => ?_⟩, hs'.trans ⟨rfl, rfl, rfl⟩, hq D oD⟩
    · rw [z, hC] at e; cases e
    · obtain ⟨o', e'⟩ := hx'.pres a o e
      exact ⟨o', sb.extBut a o' (fun z => by rw [z, hC] at e; cases e) e'⟩
    · unfold AH.set at q
      by_cases z : a = D
      · rw [z]; exact .inr hD
      · rw [if_neg z] at q; exact hx'.dom a q
  · exact comp_err X hC p fun _ _ p => p
theorem sndE_comp {elt target iter : Expr} {ifs : List Expr} {pos : Pos} {t : Tgt} {ti : TI} {tifs : TB} {telt : TE} (ok : Wu sc csc = true) (hi : SndI g sc r true iter ti) (ht : TgtIs csc target t) (lk : locOk csc t = true) (h1 : SndT g csc r true ifs tifs) (h2 : Y5 g csc r true elt telt)
    (hf : ∀ env x, foldedSetIterable iter env x = pure x) : Y5 g sc r true (.ListComp elt [⟨target, iter, ifs, 0⟩] csc pos) (Zn (Yi t ti tifs telt)) :=
  sndE_compH ok hi.toH ht lk (fun H e => by subst e; exact h1) (fun H e => by subst e; exact h2) hf
noncomputable def Zk (n : String) (tc : Loc → AH → (List V → AH → Prop) → (Addr → AH → Prop) → Prop) : TS := fun ℓ σ Q E => tc ℓ σ (fun xs σ₁ => ∀ a, σ₁ a = none → Q .next (ℓ.set n (.ref a)) (σ₁.set a (.list xs))) fun C σ' => E C ℓ σ'
end
section
open PySem PyProof.Rows
variable {g : Gr} {sc csc : Scope} {r : Nat} {c : Bool}
theorem sndS_assignCompH {BP : (Addr → Prop) → Prop} {n : String} {k : NameKind} {p' pos spos : Pos} {elt target iter : Expr} {ifs : List Expr} {t : Tgt} {ti : TI} {tifs : TB} {telt : TE} (hm : (Str.ofString n, k) ∈ sc.names) (hk : (k == .local || k == .cell) = true)
    (ok : Wu sc csc = true) (hi : SndIH g sc r true BP iter ti) (ht : TgtIs csc target t) (lk : locOk csc t = true) (h1 : ∀ H, BP H → SndT (g.wh H) csc r true ifs tifs) (h2 : ∀ H, BP H → Y5 (g.wh H) csc r true elt telt)
    (hf : ∀ env x, foldedSetIterable iter env x = pure x) : SndS g sc r true (.Assign [.Name (Str.ofString n) p'] (.ListComp elt [⟨target, iter, ifs, 0⟩] csc pos) spos) (Zk n (Yi t ti tifs telt)) := .mk fun A env s ℓ σ Q E X h => by
  have hsw : ∃ b, swapsWith (.ListComp elt [⟨target, iter, ifs, 0⟩] csc pos) (some (.Name (Str.ofString n) p')) spos.line env = pure b := ⟨_, rfl⟩
  obtain ⟨b, hsw⟩ := hsw
  cases b with
  | false =>
    refine wpAny_Assign_Name (wpAny_mono ((sndE_compH (pos := pos) ok hi ht lk h1 h2 hf).run A env s ℓ σ (fun v σ' => Q .next (ℓ.set n v) σ') (fun C σ' => E C ℓ σ') X h) (fun v s₁ p => ?_) fun _ _ p => p.toS X) hsw
    refine X7.elim p fun x σ₁ hv hR hx hs hq => ?_
    exact store_ok (X.step hR hx) hm hk hv fun s' a _ _ w hL hR' hx' hs' => ⟨.next, _, σ₁, rfl, hL, hR', hx.own.trans (hx'.weaken fun b z => z ▸ w), hs.trans hs', hq⟩
  | true =>
    obtain ⟨cl, hclos, hcl, hcl'⟩ := closureFor_ok (comp_cells X ok)
    have b0 : ∀ a, s.heap.get? a = none → g.b0.get? a = none := fun a e => by
      cases q : g.b0.get? a with
      | none => rfl
      | some o => rw [X.rel.base a o q] at e; cases e
    have hhid : ∀ a, s.heap.get? a = none → ¬ g.hid a := fun a e w => by
      obtain ⟨o, e'⟩ := X.rel.hid a w; rw [e] at e'; cases e'
    have hkd : csc.kind = .function := by simp only [Wu, Bool.and_eq_true] at ok; exact eq_of_beq ok.1.1.1
    rw [exec_Assign_Name_used _ _ _ _ hsw]
    refine wpAny_bind (wpAny_standAt (wpAny_bind ?_))
    show wpAny _ A (do let _ ← comprehension (.ListComp elt [⟨target, iter, ifs, 0⟩] csc pos) csc env _ (newList []) false (eval iter env) (some (assign (.Name (Str.ofString n) p') env))) _ _ s
    refine wpAny_bind (wpAny_mono (wpAny_comprehension_free (use := some (assign (.Name (Str.ofString n) p') env)) (Q := fun _ s' => PostS g env s σ Q .next s') (E := PostXS g A env s σ E) rfl (hf env) hclos hkd (hnames_of ok)
      (wpAny_mono (hi.run A env s ℓ σ _ _ X h) (fun x s₁ p => wpAny_mono p (fun it s₂ p => ?_) fun _ _ p => p.toS X) fun _ _ p => p.toS X)) (fun _ s' hq => wpAny_pure (wpAny_pure hq)) fun _ _ e => e)
    obtain ⟨H, bp, hH, hK, items, inv, I, fp, St, tup, σ₁, rfl, IT, hst, hR, hx, hsm, hfp, hft, htt, hl⟩ := p
    refine comp_core hH hK (RR := fun acc C => compPost (model g.prog g.w) A (PostXS g A env s σ E) (some (assign (.Name (Str.ofString n) p') env)) (fun _ s' => PostS g env s σ Q .next s') acc C) X ok IT hst hR hx hsm hfp hft htt ht lk (h1 H bp) (h2 H bp) hcl hcl' hl (fun D C s' σ' xs hD hC hDC hn ho hR' hx' hs' oD oC hq => ?_) fun D C e s' hC p => ?_
    · obtain ⟨m, hn⟩ := hn
      have R1 : Rel g s'.heap (σ'.set D (.list xs)) := hR'.claim (b0 D hD) ho
      have x1 : Ext No s.heap σ s'.heap (σ'.set D (.list xs)) := ⟨hx'.keep, hx'.pres, fun a q => by
        unfold AH.set at q
        by_cases z : a = D
        · rw [z]; exact .inr hD
        · rw [if_neg z] at q; exact hx'.dom a q⟩
      have X1 : Cx g sc r true A env s'.heap (σ'.set D (.list xs)) ℓ := X.step R1 x1
      have oC1 : (σ'.set D (.list xs)) C = none := by unfold AH.set; rw [if_neg (Ne.symm hDC)]; exact oC
      show wpAny _ A (assign (.Name (Str.ofString n) p') env (.ref D)) _ _ _
      refine wpAny_assign_Name (store_ok X1 hm hk (Yt.mpr rfl) fun s'' a _ _ w hL hR'' hx'' hs'' => ?_)
      have hCa : C ≠ a := fun z => by
        obtain ⟨o, e⟩ := Own.present X.loc w
        rw [← z, hC] at e; cases e
      have hn'' : s''.heap.Ns C m := ns_upTo hn fun o e => hx''.keep C o e oC1 hCa
      refine ⟨m, hn'', fun h' sb => ?_⟩
      obtain ⟨R2, tk⟩ := sameBut_rel hR'' ⟨m, hn''⟩ sb oC1 (b0 C hC) (hhid C hC)
      have hOC : ¬ Own env C := fun w => by obtain ⟨o, e⟩ := Own.present X.loc w; rw [hC] at e; cases e
      have kv : ∀ {v : V} {u : Value}, VR g s''.heap v u → VR g h' v u := VR.mono tk
      have L2 : LR g h' (σ'.set D (.list xs)) env (ℓ.set n (.ref D)) := by
        obtain ⟨m2, hn2, hm2⟩ := hL.ns
        refine ⟨⟨m2, ns_upTo hn2 fun o e => .of (sb.extBut _ o (fun z => hOC (.inl z.symm)) e), fun y v a b => let ⟨u, e, f⟩ := hm2 y v a b; ⟨u, e, kv f⟩⟩, fun y c e => ?_, fun y v a kk => ?_, hL.off, hL.offc, hL.apart, hL.has⟩
        · obtain ⟨o, u, e1, e2⟩ := hL.cell y c e
          exact ⟨o, u, sb.extBut c o (fun z => hOC (z ▸ .inr ⟨y, e⟩)) e1, e2⟩
        · obtain ⟨c, u, e, hc, hv⟩ := hL.cells y v a kk
          exact ⟨c, u, e, cell_upTo hc fun o z => .of (sb.extBut _ o (fun z => hOC (z ▸ .inr ⟨_, e⟩)) z), kv hv⟩
      have xa : Ext (Own env) s.heap σ s''.heap (σ'.set D (.list xs)) := x1.own.trans (hx''.weaken fun b z => z ▸ w)
      refine ⟨.next, _, _, rfl, L2, R2, ⟨fun a o e n nw => (xa.keep a o e n nw).then fun o' e' => .of (sb.extBut a o' (fun z => ?_) e'), fun a o e => ?_, xa.dom⟩, (hs'.trans hs'').trans ⟨rfl, rfl, rfl⟩, hq D oD⟩
      · rw [z, hC] at e; cases e
      · obtain ⟨o', e'⟩ := xa.pres a o e
        exact ⟨o', sb.extBut a o' (fun z => by rw [z, hC] at e; cases e) e'⟩
    · exact comp_err X hC p fun _ _ p => p.toS X
theorem sndS_assignComp {n : String} {k : NameKind} {p' pos spos : Pos} {elt target iter : Expr} {ifs : List Expr} {t : Tgt} {ti : TI} {tifs : TB} {telt : TE} (hm : (Str.ofString n, k) ∈ sc.names) (hk : (k == .local || k == .cell) = true)
    (ok : Wu sc csc = true) (hi : SndI g sc r true iter ti) (ht : TgtIs csc target t) (lk : locOk csc t = true) (h1 : SndT g csc r true ifs tifs) (h2 : Y5 g csc r true elt telt)
    (hf : ∀ env x, foldedSetIterable iter env x = pure x) : SndS g sc r true (.Assign [.Name (Str.ofString n) p'] (.ListComp elt [⟨target, iter, ifs, 0⟩] csc pos) spos) (Zk n (Yi t ti tifs telt)) :=
  sndS_assignCompH hm hk ok hi.toH ht lk (fun H e => by subst e; exact h1) (fun H e => by subst e; exact h2) hf
end
section
open PySem PyProof.Rows
variable {g : Gr} {sc csc : Scope} {r : Nat} {c : Bool}
noncomputable abbrev TF := List V → AH → (V → AH → Prop) → (Addr → AH → Prop) → Prop
noncomputable def FrL (g : Gr) (A : Around) (h : Heap) (σ : AH) : Prop := ∃ l, A.frames = some l ∧ h.FunFrames g.b0 l ∧ ∀ e ∈ l, ∀ f, e.frame = some f → OffFr h σ f
theorem FrOk.frl {A : Around} {env : Env} {h : Heap} {σ : AH} (F : FrOk g A env h σ) : FrL g A h σ := let ⟨e0, outer, h1, h2, h3, h4, _, _, _, _⟩ := F; ⟨_, h1, h3, h4⟩
structure SndF (g : Gr) (r : Nat) (f : Value) (t : TF) : Prop where
  run : ∀ A s σ xs vs Q E, GOk g → FrL g A s.heap σ → Room A r true → Rel g s.heap σ → VRs g s.heap xs vs → t xs σ Q E →
  wpAny (model g.prog g.w) A (call f vs []) (PostE g s σ Q) (Wa g A s σ E) s
structure Xm (g : Gr) (r : Nat) (f : Value) (t : TF) : Prop where
  run : ∀ A s σ xs vs Q E, GOk g → FrL g A s.heap σ → Room A r true → Rel g s.heap σ → VRs g s.heap xs vs → t xs σ Q E →
  codeAny (model g.prog g.w) A (.call f ⟨vs, []⟩) (fun r s' => match r with | .ok (.ret v) => PostE g s σ Q v s' | .ok _ => False | .error e => Wa g A s σ E e s') s
theorem Xm.toF {r : Nat} {f : Value} {t : TF} (h : Xm g r f t) : SndF g r f t := .mk fun A s σ xs vs Q E G F R Re Vs T => wpAny_call (h.run A s σ xs vs Q E G F R Re Vs T)
theorem Xm.mono {r : Nat} {f : Value} {t t' : TF} (h : Xm g r f t) (k : ∀ xs σ Q E, t' xs σ Q E → t xs σ Q E) : Xm g r f t' := .mk fun A s σ xs vs Q E G F R Re Vs T => h.run A s σ xs vs Q E G F R Re Vs (k _ _ _ _ T)
theorem SndF.le {r r' : Nat} {f : Value} {t : TF} (h : SndF g r f t) (k : r ≤ r') : SndF g r' f t := .mk fun A s σ xs vs Q E G F R => h.run A s σ xs vs Q E G F (R.le k)
noncomputable def fnOk (sc : Scope) (ps : List String) : Bool := sc.kind == .function && namesApart sc.names && !sc.isGenerator && !sc.isCoroutine &&
  (sc.names.all fun x => x.2 != .free && x.1 != ("__debug__" : Str) && x.1 != ("__classdict__" : Str)) &&
  (ps.all fun p => sc.names.any fun y => y.1 == Str.ofString p && (y.2 == .local || y.2 == .cell))
theorem cellsFrom_has : ∀ (names : List (Str × NameKind)) (b : Nat) (acc : List (Str × Addr)) (x : Str), (x, NameKind.cell) ∈ names ∨ (acc.lookup x).isSome = true → ((cellsFrom b names acc).lookup x).isSome = true
  | [], b, acc, x, h => by
    rcases h with h | h
    · cases h
    · exact h
  | (n, k) :: rest, b, acc, x, h => by
    unfold cellsFrom
    split
    · refine cellsFrom_has rest _ _ x ?_
      rcases h with h | h
      · cases h with
        | head => right; simp [List.lookup_cons]
        | tail _ h => exact .inl h
      · right
        rw [List.lookup_cons]
        split
        · rfl
        · exact h
    · rename_i hk
      refine cellsFrom_has rest _ _ x ?_
      rcases h with h | h
      · cases h with
        | head => simp at hk
        | tail _ h => exact .inl h
      · exact .inr h
noncomputable def Loc.empty : Loc := fun _ => none
theorem bind_rel {h : Heap} {kd : Str → Option NameKind} : ∀ {ps : List String} {xs : List V} {vs : List Value} {m cm : Str → Option Value} {ℓ : Loc}, (∀ n v, ℓ n = some v → kd (Str.ofString n) = some .local → ∃ u, m (Str.ofString n) = some u ∧ VR g h v u) →
    (∀ n v, ℓ n = some v → kd (Str.ofString n) = some .cell → ∃ u, cm (Str.ofString n) = some u ∧ VR g h v u) → VRs g h xs vs → xs.length = ps.length →
    (∀ n v, ℓ.setAll ps xs n = some v → kd (Str.ofString n) = some .local → ∃ u, bindL kd ((ps.map Str.ofString).zip vs) m (Str.ofString n) = some u ∧ VR g h v u) ∧
    (∀ n v, ℓ.setAll ps xs n = some v → kd (Str.ofString n) = some .cell → ∃ u, bindC kd ((ps.map Str.ofString).zip vs) cm (Str.ofString n) = some u ∧ VR g h v u)
  | [], xs, vs, m, cm, ℓ, h1, h2, hv, hl => by
    cases xs with
    | nil => exact ⟨h1, h2⟩
    | cons _ _ => simp at hl
  | p :: ps, [], vs, m, cm, ℓ, h1, h2, hv, hl => by simp at hl
  | p :: ps, x :: xs, vs, m, cm, ℓ, h1, h2, hv, hl => by
    obtain ⟨v, vs, rfl, hx, hxs⟩ := Zv hv
    show (∀ n w, (ℓ.set p x).setAll ps xs n = some w → _ → ∃ u, bindL kd ((ps.map Str.ofString).zip vs) (if kd (Str.ofString p) = some .local then fun y => if y = Str.ofString p then some v else m y else m) (Str.ofString n) = some u ∧ _) ∧
      (∀ n w, (ℓ.set p x).setAll ps xs n = some w → _ → ∃ u, bindC kd ((ps.map Str.ofString).zip vs) (if kd (Str.ofString p) = some .local then cm else fun y => if y = Str.ofString p then some v else cm y) (Str.ofString n) = some u ∧ _)
    refine bind_rel (fun n w e k => ?_) (fun n w e k => ?_) hxs (by simpa using hl)
    · rw [Loc.set_at] at e
      by_cases z : n = p
      · subst z; rw [if_pos rfl] at e; cases e
        rw [if_pos k]; exact ⟨v, by simp, hx⟩
      · rw [if_neg z] at e
        obtain ⟨u, e1, e2⟩ := h1 n w e k
        refine ⟨u, ?_, e2⟩
        split
        · exact (if_neg fun q => z (ofString_inj q)).trans e1
        · exact e1
    · rw [Loc.set_at] at e
      by_cases z : n = p
      · subst z; rw [if_pos rfl] at e; cases e
        rw [if_neg (by rw [k]; simp)]; exact ⟨v, by simp, hx⟩
      · rw [if_neg z] at e
        obtain ⟨u, e1, e2⟩ := h2 n w e k
        refine ⟨u, ?_, e2⟩
        split
        · exact e1
        · exact (if_neg fun q => z (ofString_inj q)).trans e1
noncomputable def tFun (ps : List String) (tb : TS) : TF := fun xs σ Q E => xs.length = ps.length ∧ tb (Loc.empty.setAll ps xs) σ (fun f _ σ' => match f with
  | .ret v => ∃ σ'', (∀ a o, σ'' a = some o → σ' a = some o) ∧ Q v σ''
  | _ => ∃ σ'', (∀ a o, σ'' a = some o → σ' a = some o) ∧ Q .none σ'') fun C _ σ' => ∃ σ'', (∀ a o, σ'' a = some o → σ' a = some o) ∧ E C σ''
theorem sndC_fd {a : Addr} {o : Obj} {fd : FuncData} {body : List Stmt} {ps : List String} {tb : TS} (ho : g.b0.get? a = some o) (hd : o.data = .func fd) (hcd : g.b0.CodeRec fd.code fd.qualname) (hbody : fd.body = .stmts body)
    (hbind : ∀ vs : List Value, vs.length = ps.length → bindArgs fd ⟨vs, []⟩ = pure ((ps.map Str.ofString).zip vs)) (hclo : fd.closure = []) (hgl : fd.globals = mainGlobals) (hbl : fd.builtins = builtinsNs) (ok : fnOk fd.scope ps = true)
    (hb : SndSs g fd.scope r true body tb) : Xm g (r + 1) (.ref a) (tFun ps tb) := .mk fun A s σ xs vs Q E G F Rm R hv h => by
  obtain ⟨hlen, h⟩ := h
  have hlv : vs.length = ps.length := (Yb hv) ▸ hlen
  simp only [fnOk, Bool.and_eq_true] at ok
  obtain ⟨⟨⟨⟨⟨ok1, ok2⟩, ok5⟩, ok6⟩, ok3⟩, ok4⟩ := ok
  have hk : fd.scope.kind = .function := eq_of_beq ok1
  have keepCode : s.heap.CodeRec fd.code fd.qualname := hcd.keeps R.base
  have kdOf : ∀ p ∈ ps, fd.scope.names.lookup (Str.ofString p) = some .local ∨ fd.scope.names.lookup (Str.ofString p) = some .cell := fun p hp => by
    have := List.all_eq_true.mp ok4 p hp
    simp only [List.any_eq_true, Bool.and_eq_true] at this
    obtain ⟨⟨y, j⟩, hy, e, hj⟩ := this
    have e' : y = Str.ofString p := eq_of_beq e
    subst e'
    rw [W9 ok2 hy]
    cases j <;> simp at hj <;> simp
  refine codeAny_call_cells (body := body) (Rm.room) (R.base a o ho) hd (G.nolimit.keeps R.base) keepCode hbody (hbind vs hlv) hclo (fun x hx => ?_) (fun s₁ IC => ?_) (by simpa using ok6) (by simpa using ok5) hk
  · have hx1 : x.1 ∈ ps.map Str.ofString := List.of_mem_zip (a := x.1) (b := x.2) hx |>.1
    obtain ⟨p, hp, e⟩ := List.mem_map.mp hx1
    rcases kdOf p hp with q | q
    · exact .inl (e ▸ q)
    · exact .inr ⟨e ▸ q, e ▸ cellsFrom_has _ _ _ _ (.inl (mem_of_lookup q))⟩
  · generalize hE : callEnvC fd s.heap.objs.size a = env at IC ⊢
    have hsc : env.scope = fd.scope := by rw [← hE]; rfl
    have hloc : env.locals = s.heap.objs.size := by rw [← hE]; rfl
    have hcs : env.cells = cellsFrom (s.heap.objs.size + 1) fd.scope.names [] := by rw [← hE]; rfl
    have hfrm : env.frame = some s.heap.objs.size := by rw [← hE]; rfl
    have hglo : env.globals = mainGlobals := by rw [← hE]; exact hgl
    have hblt : env.builtins = builtinsNs := by rw [← hE]; exact hbl
    obtain ⟨h1, tk, rfl⟩ := IC.toInCall.same
    have kp := IC.toInCall.keep
    have kdE : ∀ x, env.kindOf x = fd.scope.names.lookup x := fun x => by show env.scope.names.lookup x = _; rw [hsc]
    have above : ∀ x cc, env.cells.lookup x = some cc → s.heap.objs.size < cc := fun x cc e => by rw [← hloc]; exact IC.above x cc (PySem.mem_of_lookup e)
    have freshC : ∀ x cc, env.cells.lookup x = some cc → s.heap.get? cc = none := fun x cc e => Heap.get?_none_of_le (Nat.le_of_lt (above x cc e))
    have freshL : s.heap.get? env.locals = none := by rw [hloc]; exact Yw _
    have b0 : ∀ a, s.heap.get? a = none → g.b0.get? a = none := fun a e => by
      cases q : g.b0.get? a with
      | none => rfl
      | some o => rw [R.base a o q] at e; cases e
    have tk1 : Y8 g s.heap h1 := fun a o _ _ _ e _ _ => .of (kp a o e)
    obtain ⟨br1, br2⟩ := bind_rel (kd := env.kindOf) (ℓ := Loc.empty) (m := fun _ => none) (cm := fun _ => none) (ps := ps) (xs := xs) (vs := vs) (h := h1) (g := g) (fun n v e => nomatch e) (fun n v e => nomatch e) (VRs.mono tk1 hv) hlen
    have noFree : ∀ x, env.kindOf x ≠ some .free := fun x e => by
      rw [kdE] at e
      have := List.all_eq_true.mp ok3 _ (mem_of_lookup e)
      simp at this
    have L1 : LR g h1 σ env (Loc.empty.setAll ps xs) := by
      refine ⟨⟨_, IC.toInCall.ns, br1⟩, fun x cc e => ?_, fun n v e k => ?_, ⟨R.fresh freshL, b0 _ freshL⟩, fun x cc e => ⟨R.fresh (freshC x cc e), ?_, b0 _ (freshC x cc e)⟩, fun x y cc e1 e2 => ?_, fun x k => ?_⟩
      · obtain ⟨o, e1, e2⟩ := IC.cell x cc e; exact ⟨o, _, e1, e2⟩
      · rcases k with k | k
        · obtain ⟨u, e1, e2⟩ := br2 n v e k
          have : ((cellsFrom (s.heap.objs.size + 1) fd.scope.names []).lookup (Str.ofString n)).isSome = true := cellsFrom_has _ _ _ _ (.inl (mem_of_lookup (by rw [← kdE]; exact k)))
          obtain ⟨cc, hcc⟩ := Option.isSome_iff_exists.mp this
          have hcc' : env.cells.lookup (Str.ofString n) = some cc := by rw [hcs]; exact hcc
          exact ⟨cc, u, hcc', e1 ▸ IC.cell _ cc hcc', e2⟩
        · exact absurd k (noFree _)
      · rw [hloc]; exact Nat.ne_of_gt (above x cc e)
      · exact name_of_addr IC.apart (PySem.mem_of_lookup e1) (PySem.mem_of_lookup e2)
      · rcases k with k | k
        · have : ((cellsFrom (s.heap.objs.size + 1) fd.scope.names []).lookup x).isSome = true := cellsFrom_has _ _ _ _ (.inl (mem_of_lookup (by rw [← kdE]; exact k)))
          obtain ⟨cc, hcc⟩ := Option.isSome_iff_exists.mp this
          exact ⟨cc, by rw [hcs]; exact hcc⟩
        · exact absurd k (noFree _)
    have R1 : Rel g h1 σ := R.keeps kp
    have x1 : Ext No s.heap σ h1 σ := .keeps kp
    have F1 : FrOk g (A.deeper env) env h1 σ := by
      obtain ⟨l, hl, ff, off⟩ := F
      have hns : ∃ o, h1.get? env.locals = some o ∧ ∀ vs, o.data ≠ .fields vs := L1.noFields (.inl rfl)
      obtain ⟨k1, k2⟩ := frames_step (W := No) (h' := h1) (σ' := σ) (fun a o es n e d q => ⟨q, o, es, n, kp a o e, d⟩) _ ff off
      refine ⟨env, l, by show A.frames.map (env :: ·) = _; rw [hl]; rfl, rfl, ⟨by rw [hsc, hk]; decide, ⟨s.heap.objs.size, ?_⟩, k1⟩, fun e he f hf => ?_, by rw [hsc]; simpa using ok5, by rw [hsc]; simpa using ok6, hblt, hglo⟩
      · obtain ⟨o, e, d⟩ := hns
        exact ⟨o, hfrm, b0 _ (Yw _), hloc ▸ e, d⟩
      · cases he with
        | head =>
          rw [hfrm] at hf; cases hf
          obtain ⟨m, ⟨o, es, ep, e, d, _⟩, _⟩ := L1.ns
          exact ⟨R.fresh (Yw _), o, es, ep, hloc ▸ e, d⟩
        | tail _ q => exact k2 e q f hf
    have X1 : Cx g fd.scope r true (A.deeper env) env h1 σ (Loc.empty.setAll ps xs) := by
      refine ⟨G, ⟨fun x k hm => .inl ?_, fun x k hm => ?_, by rw [hsc]; exact hk, hglo, hblt⟩, L1, F1, Rm.deeper env, R1⟩
      · rw [kdE]; exact W9 ok2 hm
      · have := List.all_eq_true.mp ok3 _ hm
        simp only [Bool.and_eq_true] at this
        exact ⟨by simpa using this.1.2, by simpa using this.2⟩
    have freshOwn : ∀ b, Own env b → s.heap.get? b = none := fun b w => by
      rcases w with rfl | ⟨x, e⟩
      · exact freshL
      · exact freshC x b e
    refine wpAny_mono (hb.run (A.deeper env) env { s with heap := h1, toks := tk } _ σ _ _ X1 h) (fun f s' p => ?_) fun e s' p => ?_
    · obtain ⟨f', ℓ', σ', hf', _, hR', hx', hs', hq⟩ := p
      have fin : ∀ {x : V} {u : Value}, VR g s'.heap x u → (∃ σ'', (∀ a o, σ'' a = some o → σ' a = some o) ∧ Q x σ'') → PostE g s σ Q u s' := fun {x u} hu q => by
        obtain ⟨σ'', hsub, hq⟩ := q
        exact ⟨x, σ'', hu, hR'.forget hsub, (x1.absorb hx' freshOwn).forget hsub, Xu.trans ⟨rfl, rfl, rfl⟩ hs', hq⟩
      cases f' with
      | ret v => obtain ⟨u, rfl, hu⟩ := hf'; exact fin hu hq
      | next => cases hf'; exact fin (Wj.mpr rfl) hq
      | brk => cases hf'; exact fin (Wj.mpr rfl) hq
      | cont => cases hf'; exact fin (Wj.mpr rfl) hq
    · obtain ⟨D, ℓ', σ', hX, hL', hR', hx', hs', σ'', hsub, hq⟩ := p
      refine wpAny_bind (note_ok (X1.fr.step hx' (L1.dicts hL')) hR' hx'.pres hX fun s₂ t2 x2 hs2 => flight_ok x2 fun s₃ t3 x3 hs3 => ?_)
      refine ⟨D, σ'', (x3.weak.back fun b o e => ⟨o, kp b o e⟩).forget hsub, (t3.rel (t2.rel hR')).forget hsub, (x1.absorb (t3.ext (t2.ext hx')) freshOwn).forget hsub, Xu.trans ⟨rfl, rfl, rfl⟩ ((hs'.trans hs2).trans hs3), hq⟩
theorem Y2 {a : Addr} {o : Obj} {nm q : Str} {pa : Arguments} {body : List Stmt} {scp : Scope} {gl : Addr} {clo : List (Str × Addr)} {dv kd doc pm : Value} {an : Option Addr} {cd ct : Value} {bl : Addr} {ps : List String} {tb : TS} (ho : g.b0.get? a = some o)
    (hd : o.data = .func ⟨nm, q, pa, .stmts body, scp, gl, clo, dv, kd, doc, pm, an, cd, ct, bl⟩) (hcd : g.b0.CodeRec cd q) (hbody : FuncBody.stmts body = .stmts body)
    (hbind : ∀ vs : List Value, vs.length = ps.length → bindArgs ⟨nm, q, pa, .stmts body, scp, gl, clo, dv, kd, doc, pm, an, cd, ct, bl⟩ ⟨vs, []⟩ = pure ((ps.map Str.ofString).zip vs)) (hclo : clo = []) (hgl : gl = mainGlobals) (hbl : bl = builtinsNs) (ok : fnOk scp ps = true)
    (hb : SndSs g scp r true body tb) : Xm g (r + 1) (.ref a) (tFun ps tb) := sndC_fd ho hd hcd hbody hbind hclo hgl hbl ok hb
end
section
open PySem PyProof.Rows
variable {g : Gr} {sc csc : Scope} {r : Nat} {c : Bool}
/-! ## global names -/
noncomputable def Glo (g : Gr) (n : String) (v : Value) : Prop := ∃ mg, g.b0.Ns mainGlobals mg ∧ mg (Str.ofString n) = some v
noncomputable def Bui (g : Gr) (n : String) (v : Value) : Prop := ∃ mg mb, g.b0.Ns mainGlobals mg ∧ mg (Str.ofString n) = none ∧ g.b0.Ns builtinsNs mb ∧ mb (Str.ofString n) = some v
noncomputable def Xi (g : Gr) (n : String) (v : Value) : Prop := Glo g n v ∨ Bui g n v
theorem Y7 {A : Around} {env : Env} {s : Shared} {σ : AH} {ℓ : Loc} {n : String} {v : Value} {pos : Pos} {E : Value → Shared → Prop} {Q : Value → Shared → Prop} (X : Cx g sc r c A env s.heap σ ℓ) (hm : (Str.ofString n, NameKind.globalImplicit) ∈ sc.names) (hk : Xi g n v) (h : Q v s) :
    wpAny (model g.prog g.w) A (eval (.Name (Str.ofString n) pos) env) Q E s := by
  have kd : env.kindOf (Str.ofString n) = some .globalImplicit := by
    rcases X.ok.kinds _ _ hm with q | ⟨q, _⟩
    · exact q
    · cases q
  refine Calls.Name_function_global X.ok.kind kd ?_ (X.ok.plain _ _ hm).1
  rcases hk with ⟨mg, h1, h2⟩ | ⟨mg, mb, h1, h2, h3, h4⟩
  · exact Calls.loadGlobal_global (by rw [X.ok.globals]; exact h1.at' fun o e => X.rel.base _ o e) h2 h
  · exact Calls.loadGlobal_builtin (by rw [X.ok.globals]; exact h1.at' fun o e => X.rel.base _ o e) h2 (by rw [X.ok.builtins]; exact h3.at' fun o e => X.rel.base _ o e) h4 h
theorem Y6 {n : String} {pos : Pos} {v : Value} {x : V} (hm : (Str.ofString n, NameKind.globalImplicit) ∈ sc.names) (hk : Xi g n v) (hx : ∀ h, VR g h x v) : Y5 g sc r c (.Name (Str.ofString n) pos) (Zi x) := .mk fun A env s ℓ σ Q E X h =>
  Y7 X hm hk (.here (hx _) X.rel h)
/-! ## calls by name -/
noncomputable def Plain (es : List Expr) : Prop := (es.all fun e => !isStar e) = true
theorem Plain.any : ∀ {es : List Expr}, Plain es → ∀ env, (starEach es env).any (·.1) = false
  | [], _, env => rfl
  | e :: es, h, env => by
    simp only [Plain, List.all_cons, Bool.and_eq_true] at h
    rw [Yx env (by simpa using h.1), List.any_cons, Plain.any h.2 env]; rfl
theorem evalArgs_ok {M : Model} {A : Around} {E : Value → Shared → Prop} {s : Shared} {f : Value} {l : List (Bool × Sem Value)} {Q : Args → Shared → Prop} (hp : l.any (·.1) = false)
    (h : wpAny M A (spliced l) (fun vs s' => Q ⟨vs, []⟩ s') E s) : wpAny M A (evalArgs f true l []) Q E s := by
  match l, hp, h with
  | [], _, h =>
    unfold evalArgs
    show wpAny M A (spliced [] >>= _) Q E s
    refine wpAny_bind (wpAny_mono h (fun vs s' h' => ?_) fun _ _ x => x)
    refine wpAny_bind (wpAny_pure ?_)
    refine wpAny_holding ?_
    exact wpAny_bind (wpAny_pure (wpAny_bind (wpAny_pure (wpAny_pure h'))))
  | (false, x) :: rest, _, h => exact Calls.evalArgs_plain h
  | (true, x) :: rest, hp, _ => simp at hp
theorem Wr {es : List Expr} (hp : Plain es) (pos : Pos) (env : Env) : (backTo pos (starEach es env)).any (·.1) = false := by
  have := hp.any env
  unfold backTo
  rw [List.any_map]
  exact this
noncomputable def Callee (g : Gr) (v : Value) : Prop := (∃ a o fd, v = .ref a ∧ g.b0.get? a = some o ∧ o.data = .func fd) ∨ (∃ id, v = .builtin id) ∨ ∃ T, v = .type T
theorem Xn {A : Around} {E : Value → Shared → Prop} {s : Shared} {pos : Pos} {f : Value} {first : List Value} {l : List (Bool × Sem Value)} {Q : Value → Shared → Prop} (hf : Callee g f) (hp : l.any (·.1) = false)
    (h : wpAny (model g.prog g.w) A (spliced l) (fun vs s' => (∀ a o, g.b0.get? a = some o → s'.heap.get? a = some o) ∧ wpAny (model g.prog g.w) A (call f (first ++ vs) []) Q E s') E s) : wpAny (model g.prog g.w) A (callWith pos f first l []) Q E s := by
  rcases hf with ⟨a, o, fd, rfl, ho, hd⟩ | ⟨id, rfl⟩ | ⟨T, rfl⟩
  · exact Calls.callWith_function (o := o) (fd := fd) (evalArgs_ok hp (wpAny_mono h (fun vs s' h' => ⟨⟨h'.1 a o ho, hd⟩, h'.2⟩) fun _ _ x => x))
  · exact Calls.callWith_builtin hp (evalArgs_ok hp (wpAny_mono h (fun vs s' h' => h'.2) fun _ _ x => x))
  · exact PySem.callWith_type hp (evalArgs_ok hp (wpAny_mono h (fun vs s' h' => h'.2) fun _ _ x => x))
noncomputable def Zs (ts : TL) (t : TF) : TE := fun ℓ σ Q E => ts ℓ σ (fun vs σ₁ => t vs σ₁ Q E) E
noncomputable def FnG (g : Gr) (n : String) (r : Nat) (t : TF) : Prop := ∃ v, Xi g n v ∧ Callee g v ∧ SndF g r v t
theorem FnG.le {n : String} {r r' : Nat} {t : TF} (h : FnG g n r t) (k : r ≤ r') : FnG g n r' t := let ⟨v, h1, h2, h3⟩ := h; ⟨v, h1, h2, h3.le k⟩
theorem Z7 {n : String} {p pos : Pos} {args : List Expr} {ts : TL} {t : TF} (hm : (Str.ofString n, NameKind.globalImplicit) ∈ sc.names) (hf : FnG g n r t) (hL : SndL g sc r true args ts) (hp : Plain args) :
    Y5 g sc r true (.Call (.Name (Str.ofString n) p) args [] pos) (Zs ts t) := .mk fun A env s ℓ σ Q E X h => by
  obtain ⟨v, hk, hc, hF⟩ := hf
  show wpAny _ A (do callWith pos (← eval (.Name (Str.ofString n) p) env) [] (backTo pos (starEach args env)) (backToKw pos (keywordEach [] env))) _ _ s
  refine wpAny_bind (Y7 X hm hk ?_)
  refine Xn hc (Wr hp pos env) (wpAny_mono (hL.run A env pos s ℓ σ _ E X h) (fun vs s₁ p => ?_) fun _ _ p => p)
  refine X7.elim p fun xs σ₁ hv hR hx hs hq => ?_
  have X1 := X.step hR hx
  exact ⟨fun a o e => hR.base a o e, wp_back hx hs (hF.run A s₁ σ₁ xs vs Q E X.gok X1.fr.frl X1.room hR hv hq)⟩
/-! ## builtins -/
theorem post_value {s s' : Shared} {σ : AH} {Q : V → AH → Prop} {x : V} {v : Value} (R : Rel g s.heap σ) (e : s'.heap = s.heap) (sm : Xu s s') (hv : VR g s.heap x v) (h : Q x σ) : PostE g s σ Q v s' :=
  ⟨x, σ, e ▸ hv, e ▸ R, e ▸ .refl, sm, h⟩
noncomputable def Xg (x : V) (σ : AH) : Option Nat := match x with
  | .tup xs => some xs.length
  | .frz xs => some xs.length
  | .ref a => match σ a with
    | some (.list xs) => some xs.length
    | some (.dictI kvs _) => some kvs.length
    | some (.dictS kvs _) => some kvs.length
    | _ => none
  | _ => none
noncomputable def Xf : TF := fun xs σ Q _ => match xs with | [x] => (match Xg x σ with | some n => Q (.int n) σ | none => False) | _ => False
theorem Wp : SndF g r (.builtin "len") Xf := .mk fun A s σ xs vs Q E G F Rm R hv h => by
  match xs, hv, h with
  | [x], hv, h =>
    obtain ⟨v, _, rfl, hx, hr⟩ := Zv hv
    rw [Yr hr]
    simp only [Xf] at h
    split at h
    · rename_i n e
      have key : ∀ (m : Nat) (tk tk' : Nat), m = n → PostE g s σ Q (.int m tk) { s with toks := tk' } := fun m tk tk' q => by subst q; exact post_value R rfl ⟨rfl, rfl, rfl⟩ (Yl.mpr ⟨_, rfl⟩) h
      cases x with
      | tup ys =>
        obtain ⟨hf, a, o, us, m, rfl, _, ho, hc, hd, hvs⟩ := Wd.mp hx
        cases e
        have hl : ys.length = us.size := by rw [Yb hvs]; simp
        exact PyProof.Rows.len_tuple ⟨o, ho, hc, m, hd⟩ (hl ▸ hf.fit) (key _ _ _ hl.symm)
      | frz ys =>
        obtain ⟨hf, a, o, us, m, rfl, ho, hc, hd, hvs⟩ := VR_frz.mp hx
        cases e
        have hl : ys.length = us.size := by rw [Yb hvs]; simp
        exact PySem.Calls.call_len_list ⟨o, R.base a o ho, hc, m, hd⟩ (hl ▸ hf.fit) (key _ _ _ hl.symm)
      | ref a =>
        rw [Yt.mp hx]
        simp only [Xg] at e
        split at e
        · rename_i ys q
          cases e
          obtain ⟨hf, us, m, ho, hvs⟩ := (R.own a _ q).2
          have hl : ys.length = us.size := by rw [Yb hvs]; simp
          exact PySem.Calls.call_len_list ⟨_, ho, rfl, m, rfl⟩ (hl ▸ hf.fit) (key _ _ _ hl.symm)
        · rename_i kvs ep q
          cases e
          obtain ⟨hf, us, hd, hk, hvs⟩ := (R.own a _ q).2
          have hl : kvs.length = us.length := by have := congrArg List.length hk; simpa using this.symm
          exact call_len_dict (sysMod_ne G R q) hd.dictOf (hl ▸ hf.fit) (key _ _ _ hl.symm)
        · rename_i kvs ep q
          cases e
          obtain ⟨hf, us, hd, hk, hvs⟩ := (R.own a _ q).2
          have hl : kvs.length = us.length := by have := congrArg List.length hk; simpa using this.symm
          exact call_len_dict (sysMod_ne G R q) hd.dictOf (hl ▸ hf.fit) (key _ _ _ hl.symm)
        · cases e
      | _ => cases e
    · exact h.elim
  | [], _, h => exact h.elim
  | _ :: _ :: _, _, h => exact h.elim
end
section
open PySem PyProof.Rows
variable {g : Gr} {sc csc : Scope} {r : Nat} {c : Bool}
/-! ## max and min of ints -/
noncomputable def intsV : List V → Option (List Int)
  | [] => some []
  | .int i :: xs => (intsV xs).map (i :: ·)
  | _ => none
theorem intsV_get : ∀ {xs : List V} {ns : List Int}, intsV xs = some ns → xs = ns.map V.int
  | [], ns, h => by cases h; rfl
  | x :: xs, ns, h => by
    cases x with
    | int i =>
      simp only [intsV] at h
      cases e : intsV xs with
      | none => rw [e] at h; cases h
      | some ms => rw [e] at h; cases h; rw [intsV_get e]; rfl
    | _ => cases h
theorem intsV_map (ns : List Int) : intsV (ns.map V.int) = some ns := by
  induction ns with
  | nil => rfl
  | cons n ns ih => simp [intsV, ih]
theorem VRs_ints {h : Heap} : ∀ {ns : List Int} {vs : List Value}, VRs g h (ns.map V.int) vs → ∀ (i : Nat) (v : Value), vs[i]? = some v → ∃ t, v = Value.int (ns.getD i 0) t
  | [], vs, a, i, v, e => by rw [Yr a] at e; cases e
  | n :: ns, vs, a, i, v, e => by
    obtain ⟨u, us, rfl, hu, hus⟩ := Zv a
    cases i with
    | zero => cases e; obtain ⟨t, rfl⟩ := Yl.mp hu; exact ⟨t, rfl⟩
    | succ i => exact VRs_ints hus i v (by simpa using e)
theorem argBest_le (bt : Nat → Nat → Bool) : ∀ k, argBest bt k ≤ k
  | 0 => Nat.le_refl _
  | k + 1 => by
    unfold argBest
    split
    · exact Nat.le_refl _
    · exact Nat.le_succ_of_le (argBest_le bt k)
theorem argBest_gt (val : Nat → Int) : ∀ k i, i ≤ k → val i ≤ val (argBest (fun i j => decide (val i > val j)) k)
  | 0, i, h => by have : i = 0 := by omega
                  subst this; exact Int.le_refl _
  | k + 1, i, h => by
    have ih := argBest_gt val k
    unfold argBest
    by_cases q : val (k + 1) > val (argBest (fun i j => decide (val i > val j)) k)
    · rw [if_pos (by simpa using q)]
      rcases Nat.lt_or_ge i (k + 1) with w | w
      · have := ih i (by omega); omega
      · have : i = k + 1 := by omega
        subst this; omega
    · rw [if_neg (by simpa using q)]
      rcases Nat.lt_or_ge i (k + 1) with w | w
      · exact ih i (by omega)
      · have : i = k + 1 := by omega
        subst this; omega
noncomputable def listInts (x : V) (σ : AH) : Option (List Int) := match x with
  | .ref a => match σ a with | some (.list xs) => intsV xs | _ => none
  | _ => none
noncomputable def tMax : TF := fun xs σ Q _ => match xs with
  | [x] => match listInts x σ with | some ns => ns ≠ [] ∧ ∀ m, m ∈ ns → (∀ n ∈ ns, n ≤ m) → Q (.int m) σ | none => False
  | _ => False
theorem listInts_at {h : Heap} {σ : AH} {x : V} {v : Value} {ns : List Int} (R : Rel g h σ) (hv : VR g h x v) (e : listInts x σ = some ns) : ∃ a vs n, v = .ref a ∧ h.get? a = some { cls := .type "list", data := .seq vs n } ∧ VRs g h (ns.map V.int) vs.toList := by
  cases x with
  | ref a =>
    simp only [listInts] at e
    split at e
    · rename_i xs q
      obtain ⟨_, vs, n, ho, hvs⟩ := (R.own a _ q).2
      rw [intsV_get e] at hvs
      exact ⟨a, vs, n, Yt.mp hv, ho, hvs⟩
    · cases e
  | _ => cases e
theorem best_mem {ns : List Int} {k : Nat} (h : k < ns.length) : ns.getD k 0 ∈ ns := by
  rw [List.getD_eq_getElem?_getD, List.getElem?_eq_getElem h]; exact List.getElem_mem h
theorem mem_getD {ns : List Int} {n : Int} (h : n ∈ ns) : ∃ i, i < ns.length ∧ ns.getD i 0 = n := by
  obtain ⟨i, hi, e⟩ := List.getElem_of_mem h
  exact ⟨i, hi, by rw [List.getD_eq_getElem?_getD, List.getElem?_eq_getElem hi]; exact e⟩
theorem sndF_max : SndF g r (.builtin "max") tMax := .mk fun A s σ xs vs Q E G F Rm R hv h => by
  match xs, hv, h with
  | [x], hv, h =>
    obtain ⟨v, _, rfl, hx, hr⟩ := Zv hv
    rw [Yr hr]
    simp only [tMax] at h
    split at h
    · rename_i ns e
      obtain ⟨a, us, n, rfl, ho, hus⟩ := listInts_at R hx e
      have hlen : ns.length = us.size := by have := Yb hus; simpa using this
      have hpos : 0 < ns.length := List.length_pos_iff.mpr h.1
      have hne : a ≠ s.heap.objs.size := Nat.ne_of_lt (Heap.lt_size ho)
      refine call_max_walk (wpAny_pyIter_list ⟨_, ho, rfl, n, rfl⟩ ?_)
      refine ⟨s.heap.objs.size, _, _, us.size, _, _, _, rfl, Walks.list (by show A.handled = none; exact Rm.calm rfl) _ a hne us, ⟨⟨_, Heap.get?_push_size _ rfl, rfl, rfl⟩, ⟨_, Heap.get?_push_of_some _ ho, rfl, n, rfl⟩⟩, ?_, by omega,
        CmpOf.ints_gt (fun i => ns.getD i 0) (fun i v q => VRs_ints hus i v (by simpa using q)), fun v h' tk q kp => ?_⟩
      · intro b hb
        simp at hb
        rcases hb with rfl | rfl
        · rw [Heap.size_push]; exact Nat.lt_succ_self _
        · rw [Heap.size_push]; exact Nat.lt_succ_of_lt (Heap.lt_size ho)
      · obtain ⟨t, rfl⟩ := VRs_ints hus (argBest (fun i j => decide (ns.getD i 0 > ns.getD j 0)) (us.size - 1)) v (by rw [Array.getElem?_toList]; exact q)
        have hb := argBest_le (fun i j => decide (ns.getD i 0 > ns.getD j 0)) (us.size - 1)
        refine .keeps (fun b o e => kp b o (fun hm => ?_) (Heap.get?_push_of_some _ e)) ⟨rfl, rfl, rfl⟩ (Yl.mpr ⟨t, rfl⟩) R (h.2 _ (best_mem (by omega)) fun m hm => ?_)
        · simp at hm; subst hm; rw [Yw] at e; cases e
        · obtain ⟨i, hi, rfl⟩ := mem_getD hm
          exact argBest_gt (fun i => ns.getD i 0) (us.size - 1) i (by omega)
    · exact h.elim
  | [], _, h => exact h.elim
  | _ :: _ :: _, _, h => exact h.elim
/-! ## list() of a list or a tuple -/
noncomputable def Ys : TF := fun xs σ Q _ => match xs with
  | [x] => match partsV x σ with | some vs => ∀ a, σ a = none → Q (.ref a) (σ.set a (.list vs)) | none => False
  | _ => False
theorem parts_at {h : Heap} {σ : AH} {x : V} {v : Value} {xs : List V} (R : Rel g h σ) (hv : VR g h x v) (e : partsV x σ = some xs) : Ym xs.length ∧ ∃ a o T vs n, v = .ref a ∧ (T = "list" ∨ T = "tuple") ∧ h.get? a = some o ∧ o.cls = .type T ∧ o.data = .seq vs n ∧ VRs g h xs vs.toList := by
  cases x with
  | tup ys => obtain ⟨hf, a, o, us, m, rfl, _, ho, hc, hd, hvs⟩ := Wd.mp hv; cases e; exact ⟨hf, a, o, _, us, m, rfl, .inr rfl, ho, hc, hd, hvs⟩
  | frz ys => obtain ⟨hf, a, o, us, m, rfl, ho, hc, hd, hvs⟩ := VR_frz.mp hv; cases e; exact ⟨hf, a, o, _, us, m, rfl, .inl rfl, R.base a o ho, hc, hd, hvs⟩
  | ref a =>
    simp only [partsV] at e
    split at e
    · rename_i ys q
      cases e
      obtain ⟨hf, us, n, ho, hvs⟩ := (R.own a _ q).2
      exact ⟨hf, a, _, _, us, n, Yt.mp hv, .inl rfl, ho, rfl, rfl, hvs⟩
    · cases e
  | _ => cases e
theorem sndF_list : SndF g r (.type "list") Ys := .mk fun A s σ xs vs Q E G F Rm R hv h => by
  match xs, hv, h with
  | [x], hv, h =>
    obtain ⟨v, _, rfl, hx, hr⟩ := Zv hv
    rw [Yr hr]
    simp only [Ys] at h
    split at h
    · rename_i ys e
      obtain ⟨hf, a, o, T, us, n, rfl, hT, ho, hc, hd, hus⟩ := parts_at R hx e
      have hlen : ys.length = us.size := by have := Yb hus; simpa using this
      refine call_list_seq a hT ho hc hd (fun h' c' kp hn => ?_) (by rw [← hlen]; exact hf.line)
      refine ⟨.ref _, _, Yt.mpr rfl, R.alloc (ao := .list ys) kp (Yw _) ⟨hf, us, c', hn, VRs.mono (fun a o _ _ _ e _ _ => .of (kp a o e)) hus⟩, .alloc kp (Yw _), ⟨rfl, rfl, rfl⟩, h _ (R.fresh (Yw _))⟩
    · exact h.elim
  | [], _, h => exact h.elim
  | _ :: _ :: _, _, h => exact h.elim
/-! ## isinstance -/
inductive TyK where
  | int
  | bool
  | str
  | tuple
  | list
  | dict
noncomputable def TyK.name : TyK → String
  | .int => "int"
  | .bool => "bool"
  | .str => "str"
  | .tuple => "tuple"
  | .list => "list"
  | .dict => "dict"
noncomputable def isiV (k : TyK) (v : V) (σ : AH) : Option Bool := match v with
  | .int _ => (match k with | .int => some true | .bool => some false | _ => none)
  | .tup _ => (match k with | .tuple => some true | .list => some false | _ => none)
  | .ref a => match σ a with
    | some (.list _) => (match k with | .list => some true | .tuple => some false | _ => none)
    | _ => none
  | .str _ => (match k with | .str => some true | .int => some false | _ => none)
  | .none => (match k with | .int => some false | _ => none)
  | .bool _ => (match k with | .int => some true | .bool => some true | _ => none)
  | _ => none
noncomputable def tIsI (k : TyK) (t : TE) : TE := fun ℓ σ Q E => t ℓ σ (fun v σ₁ => match isiV k v σ₁ with | some b => Q (.bool b) σ₁ | none => False) E
theorem isi_ok {A : Around} {E : Value → Shared → Prop} {s : Shared} {σ : AH} {k : TyK} {x : V} {v : Value} {b : Bool} {Q : V → AH → Prop} (R : Rel g s.heap σ) (hx : VR g s.heap x v) (e : isiV k x σ = some b) (h : Q (.bool b) σ) :
    wpAny (model g.prog g.w) A (call (.builtin "isinstance") [v, .type k.name]) (PostE g s σ Q) E s := by
  have key : ∀ tk, PostE g s σ Q (.bool b) { s with toks := tk } := fun tk => post_value R rfl ⟨rfl, rfl, rfl⟩ (Wk.mpr rfl) h
  have key0 : PostE g s σ Q (.bool b) s := key s.toks
  cases x with
  | int i =>
    obtain ⟨t, rfl⟩ := Yl.mp hx
    cases k <;> cases e
    · exact IsiPair.int_int key0
    · exact IsiPair.int_bool (key _)
  | tup ys =>
    obtain ⟨_, a, o, us, m, rfl, _, ho, hc, hd, _⟩ := Wd.mp hx
    cases k <;> cases e
    · exact IsiPair.tuple_tuple ho hc key0
    · exact IsiPair.tuple_list ho hc (key _)
  | ref a =>
    rw [Yt.mp hx]
    simp only [isiV] at e
    split at e
    · rename_i ys q
      obtain ⟨_, us, n, ho, _⟩ := (R.own a _ q).2
      cases k <;> cases e
      · exact IsiPair.list_tuple ho rfl (key _)
      · exact IsiPair.list_list ho rfl key0
    · cases e
  | str y =>
    obtain ⟨_, t, rfl⟩ := Xp.mp hx
    cases k <;> cases e
    · exact IsiPair.str_int (key _)
    · exact IsiPair.str_str key0
  | none =>
    rw [Wj.mp hx]
    cases k <;> cases e
    exact IsiPair.NoneType_int (key _)
  | bool y =>
    rw [Wk.mp hx]
    cases k <;> cases e
    · exact IsiPair.bool_int key0
    · exact IsiPair.bool_bool key0
  | _ => cases e
theorem W8 {k : TyK} {e : Expr} {p p' pos : Pos} {t : TE} (hm : (Str.ofString "isinstance", NameKind.globalImplicit) ∈ sc.names) (hb : Xi g "isinstance" (.builtin "isinstance")) (hm' : (Str.ofString k.name, NameKind.globalImplicit) ∈ sc.names) (hb' : Xi g k.name (.type k.name))
    (h1 : Y5 g sc r true e t) (hs : isStar e = false) :
    Y5 g sc r true (.Call (.Name (Str.ofString "isinstance") p) [e, .Name (Str.ofString k.name) p'] [] pos) (tIsI k t) := .mk fun A env s ℓ σ Q E X h => by
  show wpAny _ A (do callWith pos (← eval (.Name (Str.ofString "isinstance") p) env) [] (backTo pos (starEach [e, .Name (Str.ofString k.name) p'] env)) (backToKw pos (keywordEach [] env))) _ _ s
  refine wpAny_bind (Y7 X hm hb ?_)
  rw [Yx env hs, Yx (es := []) env rfl]
  refine Xn (.inr (.inl ⟨_, rfl⟩)) rfl ?_
  show wpAny _ A (spliced [(false, eval e env), (false, eval (.Name (Str.ofString k.name) p') env)]) _ _ s
  refine Calls.spliced_cons (wpAny_mono (h1.run A env s ℓ σ _ E X h) (fun v s₁ p => ?_) fun _ _ p => p)
  refine X7.elim p fun x σ₁ hv hR hx hs1 hq => ?_
  refine Calls.spliced_cons (Y7 (X.step hR hx) hm' hb' (Calls.spliced_nil ⟨fun a o e => hR.base a o e, ?_⟩))
  split at hq
  · rename_i b e
    exact wp_back hx hs1 (isi_ok hR hv e hq)
  · exact hq.elim
end
section
open PySem PyProof.Rows
variable {g : Gr} {sc csc : Scope} {r : Nat} {c : Bool}
/-! ## what is walked through -/
theorem postI_one {s s₁ : Shared} {σ σ₁ : AH} {Q : List V → (AH → Prop) → Bool → AH → Prop} {items : List V} {inv : AH → Prop} {St : Nat → Heap → Prop} {tup : Bool} {o : Obj} (hR : Rel g s₁.heap σ₁) (hx : Ext No s.heap σ s₁.heap σ₁) (hs : Xu s s₁)
    (IT : Iters g items inv s₁.heap.objs.size (· = s₁.heap.objs.size) St tup) (hst : St 0 (s₁.heap.push o)) (hf : Ym items.length) (hq : Q items inv tup σ₁) : PostI g s σ Q (.ref s₁.heap.objs.size) { s₁ with heap := s₁.heap.push o } := by
  have kp := X9 s₁.heap o
  refine ⟨items, inv, _, _, St, tup, σ₁, rfl, IT, hst, hR.keeps kp, hx.trans (.keeps kp), hs.trans ⟨rfl, rfl, rfl⟩, fun a e => ?_, hf, hq⟩
  subst e
  refine ⟨?_, hR.fresh (Yw _)⟩
  cases e : s.heap.get? s₁.heap.objs.size with
  | none => rfl
  | some o => obtain ⟨o', e'⟩ := hx.pres _ o e; rw [Yw] at e'; cases e'
noncomputable def Zx (x : V) (σ : AH) (Q : List V → (AH → Prop) → Bool → AH → Prop) : Prop := match x with
  | .tup xs => Q xs (fun _ => True) false σ
  | .ref a => match σ a with
    | some (.list xs) => Q xs (fun σ => σ a = some (.list xs)) false σ
    | _ => False
  | _ => False
noncomputable def Zy (t : TE) : TI := fun ℓ σ Q E => t ℓ σ (fun x σ₁ => Zx x σ₁ Q) E
theorem Xb {e : Expr} {t : TE} (h1 : Y5 g sc r c e t) : SndI g sc r c e (Zy t) := .mk fun A env s ℓ σ Q E X h => by
  refine wpAny_mono (h1.run A env s ℓ σ _ E X h) (fun v s₁ p => ?_) fun _ _ p => p
  refine X7.elim p fun x σ₁ hv hR hx hs hq => ?_
  cases x with
  | tup xs =>
    obtain ⟨hf, a, o, us, m, rfl, nh, ho, hc, hd, hvs⟩ := Wd.mp hv
    refine wpAny_pyIter_tuple ⟨o, ho, hc, m, hd⟩ (postI_one hR hx hs (iters_tuple a _ xs) ⟨⟨_, Heap.get?_push_size _ rfl, rfl, rfl⟩, ?_⟩ hf hq)
    exact VR.mono (fun a o _ _ _ e _ _ => .of (X9 _ _ a o e)) hv
  | ref a =>
    rw [Yt.mp hv]
    simp only [Zx] at hq
    split at hq
    · rename_i xs e
      obtain ⟨hf, us, n, ho, hvs⟩ := (hR.own a _ e).2
      exact wpAny_pyIter_list ⟨_, ho, rfl, n, rfl⟩ (postI_one hR hx hs (iters_list a _ xs) ⟨_, Heap.get?_push_size _ rfl, rfl, rfl⟩ hf hq)
    · exact hq.elim
  | _ => exact hq.elim
noncomputable def Yd (t : TE) : TI := fun ℓ σ Q E => t ℓ σ (fun x σ₁ => match x with | .int n => 0 ≤ n ∧ Ym n.toNat ∧ Q (Xw 0 n.toNat) (fun _ => True) false σ₁ | _ => False) E
theorem range_iter {A : Around} {s s₁ : Shared} {σ σ₁ : AH} {Q : List V → (AH → Prop) → Bool → AH → Prop} {E : Value → Shared → Prop} {lo hi : Int} {rr : Addr} {t u v : Tok} (hr : IsRange s₁.heap rr lo hi 1 t u v) (hlo : -(2 ^ 62) ≤ lo ∧ lo < 2 ^ 62) (hhi : -(2 ^ 62) ≤ hi ∧ hi < 2 ^ 62) (hR : Rel g s₁.heap σ₁) (hx : Ext No s.heap σ s₁.heap σ₁) (hs : Xu s s₁)
    (hf : Ym (hi - lo).toNat) (hq : Q (Xw lo (hi - lo).toNat) (fun _ => True) false σ₁) : wpAny (model g.prog g.w) A (pyIter (.ref rr)) (PostI g s σ Q) E s₁ := by
  refine wpAny_pyIter_range hr (small_one hlo.1 hlo.2 hhi.1 hhi.2) (postI_one hR hx hs (iters_range _ lo (hi - lo).toNat) ?_ (by simpa [Xw] using hf) hq)
  have hsz : Builtin.Range.rangeSize lo hi 1 = (((hi - lo).toNat : Nat) : Int) := by rw [rangeSize_one]; split <;> omega
  have e1 : lo + ((0 : Nat) : Int) = lo := by simp
  have e2 : (((hi - lo).toNat : Nat) : Int) - ((0 : Nat) : Int) = Builtin.Range.rangeSize lo hi 1 := by rw [hsz]; simp
  show IsRangeIter _ _ (lo + ((0 : Nat) : Int)) ((((hi - lo).toNat : Nat) : Int) - ((0 : Nat) : Int)) 1
  rw [e1, e2]
  exact Heap.get?_push_size _ rfl
theorem sndI_range1 {e : Expr} {p pos : Pos} {t : TE} (hm : (Str.ofString "range", NameKind.globalImplicit) ∈ sc.names) (hb : Xi g "range" (.type "range")) (h1 : Y5 g sc r c e t) (hs : isStar e = false) :
    SndI g sc r c (.Call (.Name (Str.ofString "range") p) [e] [] pos) (Yd t) := .mk fun A env s ℓ σ Q E X h => by
  show wpAny _ A (do callWith pos (← eval (.Name (Str.ofString "range") p) env) [] (backTo pos (starEach [e] env)) (backToKw pos (keywordEach [] env))) _ _ s
  refine wpAny_bind (Y7 X hm hb ?_)
  rw [Yx (es := []) env hs]
  refine Xn (.inr (.inr ⟨_, rfl⟩)) rfl ?_
  show wpAny _ A (spliced [(false, eval e env)]) _ _ s
  refine Calls.spliced_cons (wpAny_mono (h1.run A env s ℓ σ _ E X h) (fun v s₁ p => ?_) fun _ _ p => p)
  refine X7.elim p fun x σ₁ hv hR hx hs1 hq => ?_
  refine Calls.spliced_nil ⟨fun a o e => hR.base a o e, ?_⟩
  cases x with
  | int n =>
    obtain ⟨t, rfl⟩ := Yl.mp hv
    refine call_range_1 ?_
    have kp := X9 s₁.heap { cls := .type "range", data := .fields #[.int 0 s₁.toks, .int n t, .int 1 (s₁.toks + 1)] }
    have hn : n.toNat ≤ 1000000 := hq.2.1
    have hz : (n - 0).toNat = n.toNat := by simp
    exact range_iter (lo := 0) (hi := n) (IsRange.new ..) (by decide) ⟨by have := hq.1; omega, by have := hq.1; omega⟩ (hR.keeps kp) (hx.trans (.keeps kp)) (hs1.trans ⟨rfl, rfl, rfl⟩) (hz ▸ hq.2.1) (hz ▸ hq.2.2)
  | _ => exact hq.elim
noncomputable def tEnum (t : TE) : TI := fun ℓ σ Q E => t ℓ σ (fun x σ₁ => match x with
  | .ref a => match σ₁ a with | some (.list xs) => Q (enumV 0 xs) (fun σ => σ a = some (.list xs)) true σ₁ | _ => False
  | _ => False) E
theorem sndI_enum {e : Expr} {p pos : Pos} {t : TE} (hm : (Str.ofString "enumerate", NameKind.globalImplicit) ∈ sc.names) (hb : Xi g "enumerate" (.type "enumerate")) (h1 : Y5 g sc r c e t) (hs : isStar e = false) :
    SndI g sc r c (.Call (.Name (Str.ofString "enumerate") p) [e] [] pos) (tEnum t) := .mk fun A env s ℓ σ Q E X h => by
  show wpAny _ A (do callWith pos (← eval (.Name (Str.ofString "enumerate") p) env) [] (backTo pos (starEach [e] env)) (backToKw pos (keywordEach [] env))) _ _ s
  refine wpAny_bind (Y7 X hm hb ?_)
  rw [Yx (es := []) env hs]
  refine Xn (.inr (.inr ⟨_, rfl⟩)) rfl ?_
  show wpAny _ A (spliced [(false, eval e env)]) _ _ s
  refine Calls.spliced_cons (wpAny_mono (h1.run A env s ℓ σ _ E X h) (fun v s₁ p => ?_) fun _ _ p => p)
  refine X7.elim p fun x σ₁ hv hR hx hs1 hq => ?_
  refine Calls.spliced_nil ⟨fun a o e => hR.base a o e, ?_⟩
  cases x with
  | ref a =>
    rw [Yt.mp hv]
    simp only at hq
    split at hq
    · rename_i xs e
      obtain ⟨hf, us, n, ho, hvs⟩ := (hR.own a _ e).2
      refine call_enumerate_1 ho fun h' he hit hz kp => ?_
      refine wpAny_pyIter_enum he ?_
      have fr : ∀ b, s₁.heap.objs.size ≤ b → s₁.heap.get? b = none := fun b hb => Heap.get?_none_of_le hb
      have fr0 : ∀ b, s₁.heap.objs.size ≤ b → s.heap.get? b = none := fun b hb => by
        cases e : s.heap.get? b with
        | none => rfl
        | some o => obtain ⟨o', e'⟩ := hx.pres _ o e; rw [fr b hb] at e'; cases e'
      refine ⟨_, _, _, _, _, _, σ₁, rfl, iters_enum a (s₁.heap.objs.size + 1) s₁.heap.objs.size xs (Nat.succ_ne_self _), ⟨⟨_, he⟩, hit⟩, hR.keeps kp, hx.trans (.keeps kp), hs1.trans ⟨rfl, rfl, rfl⟩, fun b e => ?_, by rw [enumV_length]; exact hf, hq⟩
      rcases e with rfl | rfl
      · exact ⟨fr0 _ (Nat.le_succ _), hR.fresh (fr _ (Nat.le_succ _))⟩
      · exact ⟨fr0 _ (Nat.le_refl _), hR.fresh (fr _ (Nat.le_refl _))⟩
    · exact hq.elim
  | _ => exact hq.elim
/-! ## methods of builtin types -/
noncomputable def typeV (x : V) (σ : AH) : Option String := match x with
  | .ref a => match σ a with
    | some (.list _) => some "list"
    | some (.dictI _ _) => some "dict"
    | some (.dictS _ _) => some "dict"
    | some (.dictT _ _) => some "dict"
    | _ => none
  | .str _ => some "str"
  | _ => none
theorem typeV_at {s : Shared} {σ : AH} {x : V} {v : Value} {T : String} (R : Rel g s.heap σ) (hv : VR g s.heap x v) (e : typeV x σ = some T) : s.TypeIs v T ∧ ∀ a, v = .ref a → ∃ ob, s.heap.get? a = some ob ∧ ob.dict = none := by
  cases x with
  | str y => obtain ⟨_, t, rfl⟩ := Xp.mp hv; cases e; exact ⟨typeIs_str s y t, fun a q => nomatch q⟩
  | ref a =>
    rw [Yt.mp hv]
    simp only [typeV] at e
    split at e <;> first | cases e | skip
    · rename_i ys q
      obtain ⟨_, us, n, ho, _⟩ := (R.own a _ q).2
      exact ⟨⟨_, ho, rfl⟩, fun b q => by cases q; exact ⟨_, ho, rfl⟩⟩
    all_goals
      rename_i kvs ep q
      obtain ⟨_, us, ⟨o, es, ho, hc, _⟩, _⟩ := (R.own a _ q).2
      exact ⟨⟨_, ho, hc.1⟩, fun b q => by cases q; exact ⟨_, ho, hc.2.1⟩⟩
  | _ => cases e
noncomputable def Ws (k : TyK) (x : V) (σ : AH) : Prop := match x with
  | .ref a => match σ a with
    | some (.list _) => (match k with | .list => True | _ => False)
    | some (.dictI _ _) => (match k with | .dict => True | _ => False)
    | some (.dictS _ _) => (match k with | .dict => True | _ => False)
    | some (.dictT _ _) => (match k with | .dict => True | _ => False)
    | _ => False
  | .str _ => (match k with | .str => True | _ => False)
  | _ => False
theorem tyIs_type {k : TyK} {x : V} {σ : AH} (h : Ws k x σ) : typeV x σ = some k.name := by
  unfold Ws at h
  split at h
  · split at h <;> first | exact h.elim | (rename_i q; simp only [typeV, q]; cases k <;> first | exact h.elim | rfl)
  · cases k <;> first | exact h.elim | rfl
  · exact h.elim
noncomputable def Yp (T : TyK) (t : TF) (to : TE) (ts : TL) : TE := fun ℓ σ Q E => to ℓ σ (fun o σ₁ => Ws T o σ₁ ∧ ts ℓ σ₁ (fun vs σ₂ => t (o :: vs) σ₂ Q E) E) E
noncomputable def isCall : Expr → Bool
  | .Call .. => true
  | _ => false
theorem base_plain {o : Expr} {name : Str} {env : Env} (h : isCall o = false) : attributeBase o name env (eval o env) = eval o env := by
  cases o <;> first | rfl | cases h
theorem few_plain {args : List Expr} {pos : Pos} {env : Env} (hp : Plain args) (hf : decide (args.length < 30) = true) : ((backTo pos (starEach args env)).all (fun x => !x.1) && (backToKw pos (keywordEach [] env)).all (fun x => x.1.isSome) && decide (args.length + ([] : List Keyword).length + (if ([] : List Keyword).isEmpty then 0 else 1) < 30)) = true := by
  have h1 : (backTo pos (starEach args env)).all (fun x => !x.1) = true := by
    have := Wr hp pos env
    rw [List.all_eq_true]
    intro x hx
    have := List.any_eq_false.mp this x hx
    simpa using this
  have h2 : (backToKw pos (keywordEach [] env)).all (fun x => x.1.isSome) = true := rfl
  rw [h1, h2]
  simpa using hf
theorem sndE_method {o : Expr} {name : Str} {apos pos : Pos} {args : List Expr} {T : TyK} {id : String} {t : TF} {to : TE} {ts : TL} (pa : PlainAttrs T.name) (slot : Slot T.name name id) (hty : typeOf (.builtin id) = pure (.type "method_descriptor")) (hF : SndF g r (.builtin id) t)
    (ho : Y5 g sc r true o to) (hL : SndL g sc r true args ts) (hp : Plain args) (hbase : isCall o = false) (hfew : decide (args.length < 30) = true)
    (hline : (apos.endLine == pos.line) = true) : Y5 g sc r true (.Call (.Attribute o name apos) args [] pos) (Yp T t to ts) := .mk fun A env s ℓ σ Q E X h => by
  refine wpAny_Call_method (base_plain hbase) (few_plain hp hfew) hline pa slot hty (wpAny_mono (ho.run A env s ℓ σ _ E X h) (fun v s₁ p => ?_) fun _ _ p => p)
  obtain ⟨x, σ₁, hv, hR, hx, hs1, hT, hq⟩ := p
  have X1 := X.step hR hx
  refine ⟨(typeV_at hR hv (tyIs_type hT)).1, (typeV_at hR hv (tyIs_type hT)).2, ?_⟩
  refine Xn (.inr (.inl ⟨_, rfl⟩)) (Wr hp pos env) (wpAny_mono (hL.run A env pos s₁ ℓ σ₁ _ E X1 hq) (fun vs s₂ p => ?_) fun _ _ p => p.back hx hs1)
  refine X7.elim p fun xs σ₂ hvs hR2 hx2 hs2 hq => ?_
  have X2 := X1.step hR2 hx2
  exact ⟨fun a o e => hR2.base a o e, wp_back (hx.trans hx2) (hs1.trans hs2) (hF.run A s₂ σ₂ (x :: xs) (v :: vs) Q E X.gok X2.fr.frl X2.room hR2 (Y4 (hx2.vr hR Xz hv) hvs) hq)⟩
noncomputable def Yq : TF := fun xs σ Q _ => match xs with
  | [.ref a, x] => match σ a with | some (.list ys) => Ym (ys.length + 1) ∧ Q .none (σ.set a (.list (ys ++ [x]))) | _ => False
  | _ => False
theorem list_changed {s : Shared} {σ : AH} {Q : V → AH → Prop} {a : Addr} {ys zs : List V} {us : Array Value} {n : Nat} {h' : Heap} {v : Value} {x : V} (R : Rel g s.heap σ) (e : σ a = some (.list ys)) (hf : Ym zs.length) (ho' : h'.get? a = some { cls := .type "list", data := .seq us n })
    (sb : Heap.SameBut a s.heap h') (hvs : VRs g s.heap zs us.toList) (hv : VR g s.heap x v) (h : Q x (σ.set a (.list zs))) {tk : Nat} : PostE g s σ Q v { s with heap := h', toks := tk } := by
  obtain ⟨o₀, e₀, c₀⟩ := OR_some (R.own a _ e).2
  have tk : Y8 g s.heap h' := fun b o us m _ q cc d => by
    refine .of (sb.extBut b o (fun z => ?_) q)
    subst z; rw [e₀] at q; cases q; exact c₀ _ _ cc d
  exact ⟨x, _, VR.mono tk hv, R.upd (ao' := .list zs) e sb ⟨hf, us, n, ho', VRs.mono tk hvs⟩, .upd e sb ⟨_, ho'⟩, ⟨rfl, rfl, rfl⟩, h⟩
theorem sndF_append : SndF g r (.builtin "list.append") Yq := .mk fun A s σ xs vs Q E G F Rm R hv h => by
  unfold Yq at h
  split at h
  · rename_i a x
    obtain ⟨v, _, rfl, ha, hr⟩ := Zv hv
    obtain ⟨u, _, rfl, hx, hr⟩ := Zv hr; clear hr
    rw [Yr hr, Yt.mp ha]
    split at h
    · rename_i ys e
      obtain ⟨hf, us, n, ho, hvs⟩ := (R.own a _ e).2
      have hlen : ys.length = us.size := by have := Yb hvs; simpa using this
      refine wpAny_list_append_plain ⟨n, ho⟩ (fun h' hpl sb => ?_) (by rw [← hlen]; exact hf.line)
      obtain ⟨m, ho'⟩ := hpl
      exact list_changed R e (by simpa using h.1) ho' sb (by rw [Array.toList_push]; exact VRs_snoc hvs hx) (Wj.mpr rfl) h.2
    · exact h.elim
  · exact h.elim
noncomputable def tCount : TF := fun xs σ Q _ => match xs with
  | [x, .int k] => match listInts x σ with | some ns => Q (.int (ns.count k : Nat)) σ | none => False
  | _ => False
theorem intsAre_of {h : Heap} : ∀ {ns : List Int} {vs : List Value}, VRs g h (ns.map V.int) vs → IntsAre vs ns
  | [], vs, a => by rw [Yr a]; exact .nil
  | n :: ns, vs, a => by
    obtain ⟨u, us, rfl, hu, hus⟩ := Zv a
    obtain ⟨t, rfl⟩ := Yl.mp hu
    exact .cons n t (intsAre_of hus)
theorem sndF_count : SndF g r (.builtin "list.count") tCount := .mk fun A s σ xs vs Q E G F Rm R hv h => by
  unfold tCount at h
  split at h
  · rename_i x k
    obtain ⟨v, _, rfl, hx, hr⟩ := Zv hv
    obtain ⟨u, _, rfl, hk, hr2⟩ := Zv hr
    obtain ⟨t, rfl⟩ := Yl.mp hk
    rw [Yr hr2]
    split at h
    · rename_i ns e
      obtain ⟨a, us, n, rfl, ho, hus⟩ := listInts_at R hx e
      exact count_list_ints ⟨_, ho, rfl, n, rfl⟩ (intsAre_of hus) (post_value R rfl ⟨rfl, rfl, rfl⟩ (Yl.mpr ⟨_, rfl⟩) h)
    · exact h.elim
  · exact h.elim
end
section
open PySem PyProof.Rows
variable {g : Gr} {sc csc : Scope} {r : Nat} {c : Bool}
theorem fitsS {x : Str} (h : x.length ≤ 1000000) : Ym x.length := h
section
variable {o : Expr} {apos pos : Pos} {args : List Expr} {to : TE} {ts : TL}
theorem mAppend (ho : Y5 g sc r true o to) (hL : SndL g sc r true args ts) (hp : Plain args) (hbase : isCall o = false) (hfew : decide (args.length < 30) = true)
    (hline : (apos.endLine == pos.line) = true) : Y5 g sc r true (.Call (.Attribute o (Str.ofString "append") apos) args [] pos) (Yp .list Yq to ts) :=
  sndE_method (T := .list) F.plainAttrs_list F.slot_list_append F.type_list_append sndF_append ho hL hp hbase hfew hline
theorem mCount (ho : Y5 g sc r true o to) (hL : SndL g sc r true args ts) (hp : Plain args) (hbase : isCall o = false) (hfew : decide (args.length < 30) = true)
    (hline : (apos.endLine == pos.line) = true) : Y5 g sc r true (.Call (.Attribute o (Str.ofString "count") apos) args [] pos) (Yp .list tCount to ts) :=
  sndE_method (T := .list) F.plainAttrs_list F.slot_list_count F.type_list_count sndF_count ho hL hp hbase hfew hline
end
noncomputable def nth {α : Type} : List α → Nat → Option α
  | [], _ => none
  | a :: _, 0 => some a
  | _ :: l, i + 1 => nth l i
theorem at_ {α : Type} : ∀ {l : List α} {i : Nat} {x : α}, nth l i = some x → x ∈ l
  | _ :: _, 0, _, h => by cases h; exact .head _
  | _ :: _, _ + 1, _, h => .tail _ (at_ h)
theorem len1 {vs : List Value} (h : vs.length = 1) : ∃ a, vs = [a] := List.length_eq_one_iff.mp h
theorem len2 {vs : List Value} (h : vs.length = 2) : ∃ a b, vs = [a, b] := by
  cases vs with
  | nil => cases h
  | cons a l => obtain ⟨b, rfl⟩ := len1 (Nat.succ.inj h); exact ⟨_, _, rfl⟩
theorem len3 {vs : List Value} (h : vs.length = 3) : ∃ a b c, vs = [a, b, c] := by
  cases vs with
  | nil => cases h
  | cons a l => obtain ⟨b, c, rfl⟩ := len2 (Nat.succ.inj h); exact ⟨_, _, _, rfl⟩
theorem len4 {vs : List Value} (h : vs.length = 4) : ∃ a b c d, vs = [a, b, c, d] := by
  cases vs with
  | nil => cases h
  | cons a l => obtain ⟨b, c, d, rfl⟩ := len3 (Nat.succ.inj h); exact ⟨_, _, _, _, rfl⟩
theorem len5 {vs : List Value} (h : vs.length = 5) : ∃ a b c d e, vs = [a, b, c, d, e] := by
  cases vs with
  | nil => cases h
  | cons a l => obtain ⟨b, c, d, e, rfl⟩ := len4 (Nat.succ.inj h); exact ⟨_, _, _, _, _, rfl⟩
/-! ## names of the module -/
theorem glo_of {mg : Str → Option Value} {o : Obj} {es : Array DictEntry} {ep : Nat} {n : String} {v : Value} (hN : g.b0.Ns mainGlobals mg) (h3 : g.b0.get? mainGlobals = some o) (hd : o.data = .dict es ep) (e : nsFind es (Str.ofString n) = some v) : Xi g n v := by
  obtain ⟨o', es', ep', ho, hd', hk, hf⟩ := id hN
  rw [h3] at ho; cases ho
  rw [hd] at hd'; cases hd'
  exact .inl ⟨mg, hN, (hf _).symm.trans e⟩
theorem bui_of {mg mb : Str → Option Value} {o : Obj} {es : Array DictEntry} {ep : Nat} {n : String} {v : Value} (hN : g.b0.Ns mainGlobals mg) (h3 : g.b0.get? mainGlobals = some o) (hd : o.data = .dict es ep) (e : nsFind es (Str.ofString n) = none)
    (hB : g.b0.Ns builtinsNs mb) (hb : ∀ x : Str, x ≠ "__name__" → mb x = bootBuiltins x) (hn : Str.ofString n ≠ "__name__") (hv : bootBuiltins (Str.ofString n) = some v) : Xi g n v := by
  obtain ⟨o', es', ep', ho, hd', hk, hf⟩ := id hN
  rw [h3] at ho; cases ho
  rw [hd] at hd'; cases hd'
  exact .inr ⟨mg, mb, hN, (hf _).symm.trans e, hB, (hb _ hn).trans hv⟩
theorem Xc {n id : String} {t : TF} (h : Xi g n (.builtin id)) (hF : SndF g r (.builtin id) t) : FnG g n r t := ⟨_, h, .inr (.inl ⟨_, rfl⟩), hF⟩
theorem fn_type {n id : String} {t : TF} (h : Xi g n (.type id)) (hF : SndF g r (.type id) t) : FnG g n r t := ⟨_, h, .inr (.inr ⟨_, rfl⟩), hF⟩
theorem fn_def {n : String} {a : Addr} {o : Obj} {fd : FuncData} {t : TF} (h : Xi g n (.ref a)) (ho : g.b0.get? a = some o) (hd : o.data = .func fd) (hF : SndF g r (.ref a) t) : FnG g n r t := ⟨_, h, .inl ⟨a, o, fd, rfl, ho, hd⟩, hF⟩
theorem CodeRec.mk' {h : Heap} {c : Addr} {oc : Obj} {vs : Array Value} {tq : Tok} {q : Str} (hoc : h.get? c = some oc) (hd : oc.data = .fields vs) (hq : vs[1]? = some (.str q tq)) : h.CodeRec (.ref c) q := ⟨c, oc, vs, tq, rfl, hoc, hd, hq⟩
end
section
open PySem PyProof.Rows
/-! ## reasoning with the abstract heap -/
theorem AH.set_same {σ : AH} {a : Addr} {o : AO} : (σ.set a o) a = some o := if_pos rfl
theorem AH.set_other {σ : AH} {a b : Addr} {o : AO} (h : b ≠ a) : (σ.set a o) b = σ b := if_neg h
noncomputable def Sub (σ σ' : AH) : Prop := ∀ a o, σ a = some o → σ' a = some o
theorem Sub.refl {σ : AH} : Sub σ σ := fun _ _ h => h
theorem Sub.trans {σ σ' σ'' : AH} (x : Sub σ σ') (y : Sub σ' σ'') : Sub σ σ'' := fun a o h => y a o (x a o h)
theorem Sub.new {σ σ' : AH} {a : Addr} {o : AO} (x : Sub σ σ') (h : σ' a = none) : Sub σ (σ'.set a o) := fun b p e => by
  have e' := x b p e
  rw [AH.set_other fun z => by rw [z, h] at e'; cases e']
  exact e'
theorem Sub.upd {σ σ' : AH} {a : Addr} {o : AO} (x : Sub σ σ') (h : σ a = none) : Sub σ (σ'.set a o) := fun b p e => by
  rw [AH.set_other fun z => by rw [z, h] at e; cases e]
  exact x b p e
theorem Sub.none {σ σ' : AH} {a : Addr} (x : Sub σ σ') (h : σ' a = Option.none) : σ a = Option.none := by
  cases e : σ a with
  | none => rfl
  | some o => rw [x a o e] at h; cases h
theorem ne_of {σ : AH} {a b : Addr} {o : AO} (h : σ a = some o) (k : σ b = none) : a ≠ b := fun z => by rw [z, k] at h; cases h
theorem Zt {σ : AH} {a b : Addr} {o p : AO} (h : σ a = some o) (k : σ b = none) : (σ.set b p) a = some o := by rw [AH.set_other (ne_of h k)]; exact h
/-! ## ints -/
theorem loopT_ind {t : Tgt} {inv : AH → Prop} {tb : TS} {Q : Fl → Loc → AH → Prop} {E : Addr → Loc → AH → Prop} (I : List V → Loc → AH → Prop) (h0 : ∀ ℓ σ, I [] ℓ σ → inv σ ∧ Q .next ℓ σ)
    (h1 : ∀ x xs ℓ σ, (∀ ℓ' σ', I xs ℓ' σ' → loopT t inv tb xs ℓ' σ' Q E) → I (x :: xs) ℓ σ → inv σ ∧ Zj t x ℓ σ fun ℓ₁ => tb ℓ₁ σ (fun f ℓ₂ σ₂ => match f with
      | .next => loopT t inv tb xs ℓ₂ σ₂ Q E
      | .cont => loopT t inv tb xs ℓ₂ σ₂ Q E
      | .brk => Q .next ℓ₂ σ₂
      | .ret v => Q (.ret v) ℓ₂ σ₂) E) : ∀ xs ℓ σ, I xs ℓ σ → loopT t inv tb xs ℓ σ Q E
  | [], ℓ, σ, h => h0 ℓ σ h
  | x :: xs, ℓ, σ, h => h1 x xs ℓ σ (fun ℓ' σ' h' => loopT_ind I h0 h1 xs ℓ' σ' h') h
theorem compT_map {α : Type} {t : Tgt} {inv : AH → Prop} {tifs : TB} {telt : TE} {ℓ : Loc} {σ : AH} {Q : List V → AH → Prop} {E : Addr → AH → Prop} (f : α → V) (p : α → Bool) (F : α → V) (hinv : inv σ) :
    ∀ (xs : List α) (acc : List V), (∀ x ∈ xs, ∃ ℓ₁, (∀ P : Loc → Prop, P ℓ₁ → Zj t (f x) ℓ.bare σ P) ∧ (∀ Qb, Qb (p x) σ → tifs ℓ₁ σ Qb E) ∧ (p x = true → ∀ Qv, Qv (F x) σ → telt ℓ₁ σ Qv E)) →
      Q (acc ++ (xs.filter p).map F) σ → compT t inv tifs telt ℓ (xs.map f) acc σ Q E
  | [], acc, _, h => ⟨hinv, by simpa using h⟩
  | x :: xs, acc, hs, h => by
    obtain ⟨ℓ₁, h1, h2, h3⟩ := hs x (.head _)
    have ih := compT_map (t := t) (inv := inv) (tifs := tifs) (telt := telt) (ℓ := ℓ) (E := E) (Q := Q) f p F hinv xs
    refine ⟨hinv, h1 _ (h2 _ ?_)⟩
    cases e : p x with
    | true =>
      refine h3 e _ (ih _ (fun y hy => hs y (.tail _ hy)) ?_)
      rw [List.filter_cons_of_pos (by simpa using e)] at h
      simpa using h
    | false =>
      refine ih _ (fun y hy => hs y (.tail _ hy)) ?_
      rw [List.filter_cons_of_neg (by simp [e])] at h
      exact h
theorem rangeV_drop {lo : Int} {n i : Nat} (h : i < n) : (Xw lo n).drop i = .int (lo + (i : Int)) :: (Xw lo n).drop (i + 1) := by
  have hl : i < (Xw lo n).length := by simpa [Xw] using h
  rw [List.drop_eq_getElem_cons hl]
  simp [Xw]
theorem rangeV_end {lo : Int} {n : Nat} : (Xw lo n).drop n = [] := List.drop_eq_nil_of_le (by simp [Xw])
theorem loopT_range {t : Tgt} {inv : AH → Prop} {tb : TS} {Q : Fl → Loc → AH → Prop} {E : Addr → Loc → AH → Prop} {n : Nat} (I : Nat → Loc → AH → Prop) (h0 : ∀ ℓ σ, I n ℓ σ → inv σ ∧ Q .next ℓ σ)
    (h1 : ∀ i ℓ σ, i < n → (∀ ℓ' σ', I (i + 1) ℓ' σ' → loopT t inv tb ((Xw 0 n).drop (i + 1)) ℓ' σ' Q E) → I i ℓ σ → inv σ ∧ Zj t (.int (i : Int)) ℓ σ fun ℓ₁ => tb ℓ₁ σ (fun f ℓ₂ σ₂ => match f with
      | .next => loopT t inv tb ((Xw 0 n).drop (i + 1)) ℓ₂ σ₂ Q E
      | .cont => loopT t inv tb ((Xw 0 n).drop (i + 1)) ℓ₂ σ₂ Q E
      | .brk => Q .next ℓ₂ σ₂
      | .ret v => Q (.ret v) ℓ₂ σ₂) E) {ℓ : Loc} {σ : AH} (h : I 0 ℓ σ) : loopT t inv tb (Xw 0 n) ℓ σ Q E := by
  have key : ∀ k i ℓ σ, n - i = k → i ≤ n → I i ℓ σ → loopT t inv tb ((Xw 0 n).drop i) ℓ σ Q E := by
    intro k
    induction k with
    | zero =>
      intro i ℓ σ hk hi h
      have : i = n := by omega
      subst this
      rw [rangeV_end]
      exact h0 ℓ σ h
    | succ k ih =>
      intro i ℓ σ hk hi h
      have hlt : i < n := by omega
      rw [rangeV_drop hlt]
      have := h1 i ℓ σ hlt (fun ℓ' σ' h' => ih (i + 1) ℓ' σ' (by omega) hlt h') h
      rw [show (0 : Int) + (i : Int) = (i : Int) by omega]
      exact this
  simpa using key n 0 ℓ σ (by omega) (by omega) h
theorem filter_all {α : Type} (xs : List α) : xs.filter (fun _ => true) = xs := by
  induction xs with
  | nil => rfl
  | cons x xs ih => rw [List.filter_cons_of_pos rfl, ih]
theorem compT_each {α : Type} {t : Tgt} {inv : AH → Prop} {telt : TE} {ℓ : Loc} {σ : AH} {Q : List V → AH → Prop} {E : Addr → AH → Prop} (f : α → V) (F : α → V) (hinv : inv σ) (xs : List α)
    (hs : ∀ x ∈ xs, ∃ ℓ₁, (∀ P : Loc → Prop, P ℓ₁ → Zj t (f x) ℓ.bare σ P) ∧ ∀ Qv, Qv (F x) σ → telt ℓ₁ σ Qv E) (h : Q (xs.map F) σ) : compT t inv (Zf true) telt ℓ (xs.map f) [] σ Q E :=
  compT_map f (fun _ => true) F hinv xs [] (fun x hx => let ⟨ℓ₁, h1, h2⟩ := hs x hx; ⟨ℓ₁, h1, fun _ h => h, fun _ => h2⟩) (by rw [filter_all]; exact h)
theorem compT_some {α : Type} {t : Tgt} {inv : AH → Prop} {tifs : TB} {telt : TE} {ℓ : Loc} {σ : AH} {Q : List V → AH → Prop} {E : Addr → AH → Prop} (f : α → V) (p : α → Bool) (F : α → V) (hinv : inv σ) (xs : List α)
    (hs : ∀ x ∈ xs, ∃ ℓ₁, (∀ P : Loc → Prop, P ℓ₁ → Zj t (f x) ℓ.bare σ P) ∧ (∀ Qb, Qb (p x) σ → tifs ℓ₁ σ Qb E) ∧ (p x = true → ∀ Qv, Qv (F x) σ → telt ℓ₁ σ Qv E)) (h : Q ((xs.filter p).map F) σ) : compT t inv tifs telt ℓ (xs.map f) [] σ Q E :=
  compT_map f p F hinv xs [] hs h
/-! ## with what comes behind left unsaid -/
theorem Xv {ps : List String} {tb : TS} {xs : List V} {σ : AH} {Q : V → AH → Prop} {E : Addr → AH → Prop} (hl : xs.length = ps.length)
    (h : ∀ (K : Fl → Loc → AH → Prop) (KE : Addr → Loc → AH → Prop), (∀ v ℓ' σ' σ'', Sub σ'' σ' → Q v σ'' → K (.ret v) ℓ' σ') → (∀ ℓ' σ' σ'', Sub σ'' σ' → Q .none σ'' → K .next ℓ' σ') → (∀ C ℓ' σ' σ'', Sub σ'' σ' → E C σ'' → KE C ℓ' σ') →
      tb (Loc.empty.setAll ps xs) σ K KE) : tFun ps tb xs σ Q E :=
  ⟨hl, h _ _ (fun _ _ _ σ'' hs hq => ⟨σ'', hs, hq⟩) (fun _ _ σ'' hs hq => ⟨σ'', hs, hq⟩) fun _ _ _ σ'' hs hq => ⟨σ'', hs, hq⟩⟩
theorem loopT_k0 {t : Tgt} {inv : AH → Prop} {tb : TS} {Q : Fl → Loc → AH → Prop} {E : Addr → Loc → AH → Prop} (I : List V → Loc → AH → Prop) (h0 : ∀ ℓ σ, I [] ℓ σ → inv σ ∧ Q .next ℓ σ)
    (h1 : ∀ x xs ℓ σ (K : Fl → Loc → AH → Prop), (∀ ℓ' σ', I xs ℓ' σ' → K .next ℓ' σ') → (∀ v ℓ' σ', Q (.ret v) ℓ' σ' → K (.ret v) ℓ' σ') → (∀ ℓ' σ', Q .next ℓ' σ' → K .brk ℓ' σ') → (∀ ℓ' σ', I xs ℓ' σ' → K .cont ℓ' σ') →
      I (x :: xs) ℓ σ → inv σ ∧ Zj t x ℓ σ fun ℓ₁ => tb ℓ₁ σ K E) {xs : List V} {ℓ : Loc} {σ : AH} (h : I xs ℓ σ) : loopT t inv tb xs ℓ σ Q E :=
  loopT_ind I h0 (fun x xs ℓ σ ih hI => h1 x xs ℓ σ _ (fun ℓ' σ' h => ih ℓ' σ' h) (fun _ _ _ h => h) (fun _ _ h => h) (fun ℓ' σ' h => ih ℓ' σ' h) hI) xs ℓ σ h
theorem loopT_rangeK0 {t : Tgt} {inv : AH → Prop} {tb : TS} {Q : Fl → Loc → AH → Prop} {E : Addr → Loc → AH → Prop} {n : Nat} (I : Nat → Loc → AH → Prop) (h0 : ∀ ℓ σ, I n ℓ σ → inv σ ∧ Q .next ℓ σ)
    (h1 : ∀ i ℓ σ (K : Fl → Loc → AH → Prop), i < n → (∀ ℓ' σ', I (i + 1) ℓ' σ' → K .next ℓ' σ') → (∀ v ℓ' σ', Q (.ret v) ℓ' σ' → K (.ret v) ℓ' σ') → (∀ ℓ' σ', Q .next ℓ' σ' → K .brk ℓ' σ') → (∀ ℓ' σ', I (i + 1) ℓ' σ' → K .cont ℓ' σ') →
      I i ℓ σ → inv σ ∧ Zj t (.int (i : Int)) ℓ σ fun ℓ₁ => tb ℓ₁ σ K E) {ℓ : Loc} {σ : AH} (h : I 0 ℓ σ) : loopT t inv tb (Xw 0 n) ℓ σ Q E :=
  loopT_range I h0 (fun i ℓ σ hi ih hI => h1 i ℓ σ _ hi (fun ℓ' σ' h => ih ℓ' σ' h) (fun _ _ _ h => h) (fun _ _ h => h) (fun ℓ' σ' h => ih ℓ' σ' h) hI) h
theorem loopT_k {t : Tgt} {inv : AH → Prop} {tb : TS} {Q : Fl → Loc → AH → Prop} {E : Addr → Loc → AH → Prop} (I : List V → Loc → AH → Prop) (h0 : ∀ ℓ σ, I [] ℓ σ → inv σ ∧ Q .next ℓ σ)
    (h1 : ∀ x xs ℓ σ (K : Fl → Loc → AH → Prop), (∀ ℓ' σ', I xs ℓ' σ' → K .next ℓ' σ') → (∀ v ℓ' σ', Q (.ret v) ℓ' σ' → K (.ret v) ℓ' σ') → I (x :: xs) ℓ σ → inv σ ∧ Zj t x ℓ σ fun ℓ₁ => tb ℓ₁ σ K E) {xs : List V} {ℓ : Loc} {σ : AH} (h : I xs ℓ σ) : loopT t inv tb xs ℓ σ Q E :=
  loopT_k0 I h0 (fun x xs ℓ σ K a b _ _ => h1 x xs ℓ σ K a b) h
theorem loopT_rangeK {t : Tgt} {inv : AH → Prop} {tb : TS} {Q : Fl → Loc → AH → Prop} {E : Addr → Loc → AH → Prop} {n : Nat} (I : Nat → Loc → AH → Prop) (h0 : ∀ ℓ σ, I n ℓ σ → inv σ ∧ Q .next ℓ σ)
    (h1 : ∀ i ℓ σ (K : Fl → Loc → AH → Prop), i < n → (∀ ℓ' σ', I (i + 1) ℓ' σ' → K .next ℓ' σ') → (∀ v ℓ' σ', Q (.ret v) ℓ' σ' → K (.ret v) ℓ' σ') → I i ℓ σ → inv σ ∧ Zj t (.int (i : Int)) ℓ σ fun ℓ₁ => tb ℓ₁ σ K E) {ℓ : Loc} {σ : AH} (h : I 0 ℓ σ) : loopT t inv tb (Xw 0 n) ℓ σ Q E :=
  loopT_rangeK0 I h0 (fun i ℓ σ K hi a b _ _ => h1 i ℓ σ K hi a b) h
theorem Yj {t ts : TS} {ℓ : Loc} {σ : AH} {Q : Fl → Loc → AH → Prop} {E : Addr → Loc → AH → Prop} (h : ∀ K : Fl → Loc → AH → Prop, (∀ ℓ' σ', ts ℓ' σ' Q E → K .next ℓ' σ') → t ℓ σ K E) : tSeq t ts ℓ σ Q E :=
  h _ (fun _ _ h => h)
theorem X8 {t ts : TS} {ℓ : Loc} {σ : AH} {Q : Fl → Loc → AH → Prop} {E : Addr → Loc → AH → Prop} (h : ∀ K : Fl → Loc → AH → Prop, (∀ ℓ' σ', ts ℓ' σ' Q E → K .next ℓ' σ') → (∀ v ℓ' σ', Q (.ret v) ℓ' σ' → K (.ret v) ℓ' σ') → t ℓ σ K E) : tSeq t ts ℓ σ Q E :=
  h _ (fun _ _ h => h) (fun _ _ _ h => h)
theorem Xl {t ts : TS} {ℓ : Loc} {σ : AH} {Q : Fl → Loc → AH → Prop} {E : Addr → Loc → AH → Prop} (h : ∀ K : Fl → Loc → AH → Prop, (∀ v ℓ' σ', Q (.ret v) ℓ' σ' → K (.ret v) ℓ' σ') → t ℓ σ K E) : tSeq t ts ℓ σ Q E :=
  h _ (fun _ _ _ h => h)
theorem map_cons_inv {α : Type} {f : α → V} {v : V} {xs : List V} {l : List α} (h : v :: xs = l.map f) : ∃ a r, l = a :: r ∧ v = f a ∧ xs = r.map f := by
  cases l with
  | nil => cases h
  | cons a r => injection h with h1 h2; exact ⟨a, r, rfl, h1, h2⟩
theorem map_nil_inv {α : Type} {f : α → V} {l : List α} (h : [] = l.map f) : l = [] := by
  cases l with
  | nil => rfl
  | cons a r => cases h
end
section
open PySem PyProof.Rows
/-! ## data of ints and of rows -/
noncomputable def rowV (r : List Int) : V := .tup (r.map V.int)
noncomputable def rowD (r : List Int) : PyData := .tuple (r.map PyData.int)
theorem data_ints {σ : AH} : ∀ (ns : List Int), Wc σ (ns.map PyData.int) (ns.map V.int)
  | [] => by simp [Wc]
  | n :: ns => by
    simp only [List.map_cons, Wc]
    exact ⟨_, _, rfl, by simp [Xe], data_ints ns⟩
theorem data_row {σ : AH} (r : List Int) : Xe σ (rowD r) (rowV r) := by
  unfold rowD Xe; exact ⟨_, rfl, data_ints r⟩
theorem data_rows {σ : AH} : ∀ (rs : List (List Int)), Wc σ (rs.map rowD) (rs.map rowV)
  | [] => by simp [Wc]
  | r :: rs => by
    simp only [List.map_cons, Wc]
    exact ⟨_, _, rfl, data_row r, data_rows rs⟩
theorem data_list {σ : AH} {a : Addr} {xs : List V} {ds : List PyData} (e : σ a = some (.list xs)) (h : Wc σ ds xs) : Xe σ (.list ds) (.ref a) := by
  unfold Xe; exact ⟨a, xs, rfl, e, h⟩
theorem canLay_ints : ∀ ns : List Int, PyData.canLayAll0 (ns.map PyData.int) = true
  | [] => by simp [PyData.canLayAll0]
  | n :: ns => by simp [PyData.canLayAll0, PyData.canLay0, canLay_ints ns]
theorem depth_ints : ∀ ns : List Int, PyData.depthAll (ns.map PyData.int) ≤ 1
  | [] => by simp [PyData.depthAll]
  | n :: ns => by
    have := depth_ints ns
    simp only [List.map_cons, PyData.depthAll, PyData.depth]; omega
theorem canLay_rows : ∀ rs : List (List Int), PyData.canLayAll0 (rs.map rowD) = true
  | [] => by simp [PyData.canLayAll0]
  | n :: ns => by simp [PyData.canLayAll0, PyData.canLay0, rowD, canLay_ints, canLay_rows ns]
theorem depth_rows : ∀ rs : List (List Int), PyData.depthAll (rs.map rowD) ≤ 3
  | [] => by simp [PyData.depthAll]
  | n :: ns => by
    have := depth_rows ns
    have := depth_ints n
    simp only [List.map_cons, PyData.depthAll, rowD, PyData.depth]; omega
theorem lay_int (n : Int) : Lay (.int n) := ⟨by simp [PyData.canLay0], by simp [PyData.depth]⟩
theorem lay_none : Lay .none := ⟨by simp [PyData.canLay0], by simp [PyData.depth]⟩
theorem lay_ints (ns : List Int) : Lay (.list (ns.map PyData.int)) := ⟨by simp [PyData.canLay0, canLay_ints], by have := depth_ints ns; simp only [PyData.depth]; omega⟩
theorem lay_rows (rs : List (List Int)) : Lay (.list (rs.map rowD)) := ⟨by simp [PyData.canLay0, canLay_rows], by have := depth_rows rs; simp only [PyData.depth]; omega⟩
theorem eqvAll_ints : ∀ ns ms : List Int, PyData.eqvAll (ns.map PyData.int) (ms.map PyData.int) = (ns == ms)
  | [], [] => by simp [PyData.eqvAll]
  | [], m :: ms => by simp [PyData.eqvAll]
  | n :: ns, [] => by simp [PyData.eqvAll]
  | n :: ns, m :: ms => by
    simp only [List.map_cons, PyData.eqvAll, PyData.eqv, eqvAll_ints ns ms]
    rw [Bool.eq_iff_iff]; simp
theorem eqv_row (r t : List Int) : PyData.eqv (rowD r) (rowD t) = (r == t) := by
  simp only [rowD, PyData.eqv, eqvAll_ints]
theorem eqvAll_rows : ∀ rs ts : List (List Int), PyData.eqvAll (rs.map rowD) (ts.map rowD) = (rs == ts)
  | [], [] => by simp [PyData.eqvAll]
  | [], m :: ms => by simp [PyData.eqvAll]
  | n :: ns, [] => by simp [PyData.eqvAll]
  | n :: ns, m :: ms => by
    simp only [List.map_cons, PyData.eqvAll, eqv_row, eqvAll_rows ns ms]
    rw [Bool.eq_iff_iff]; simp
theorem eqD_rows {σ : AH} {a b : Addr} {rs ts : List (List Int)} {Q : Bool → Prop} (ha : σ a = some (.list (rs.map rowV))) (hb : σ b = some (.list (ts.map rowV))) (h : Q (rs == ts)) : eqD (.ref a) (.ref b) σ Q := by
  unfold eqD
  exact ⟨_, _, data_list ha (data_rows rs), data_list hb (data_rows ts), lay_rows rs, lay_rows ts, by simpa only [PyData.eqv, eqvAll_rows] using h⟩
theorem any_int : ∀ (ns : List Int) (k : Int), ((ns.map PyData.int).any fun y => PyData.eqv y (.int k)) = decide (k ∈ ns)
  | [], k => by simp
  | n :: ns, k => by
    simp only [List.map_cons, List.any_cons, any_int ns k, PyData.eqv]
    by_cases q : n = k
    · subst q; simp
    · have q' : ¬ k = n := fun z => q z.symm
      have : (n == k) = false := by simpa using q
      rw [this]; simp [q']
theorem inD_ints {σ : AH} {a : Addr} {ns : List Int} {k : Int} {Q : Bool → Prop} (ha : σ a = some (.list (ns.map V.int))) (h : Q (decide (k ∈ ns))) : inD (.int k) (.ref a) σ Q := by
  simp only [inD, ha]
  exact ⟨_, .int k, data_ints ns, by simp [Xe], lay_ints ns, lay_int k, by rw [any_int]; exact h⟩
theorem atV_nat {xs : List V} {i : Nat} {x : V} (h : xs[i]? = some x) : atV xs (i : Int) = some x := by
  have hl : i < xs.length := by
    rcases Nat.lt_or_ge i xs.length with q | q
    · exact q
    · rw [List.getElem?_eq_none q] at h; cases h
  have e : seqIndex? (i : Int) xs.length = some i := by
    unfold seqIndex?
    rw [if_neg (show ¬ ((i : Int) < 0) by omega)]
    simp only
    rw [if_pos (by simp; omega)]
    simp
  unfold atV
  rw [e]; exact h
theorem Xx {xs : List V} {k : Int} {x : V} (h0 : 0 ≤ k) (h : xs[k.toNat]? = some x) : atV xs k = some x := by
  have : k = ((k.toNat : Nat) : Int) := by omega
  rw [this]; exact atV_nat h
theorem row_at {r : List Int} {i : Nat} (h : i < r.length) : atV (r.map V.int) (i : Int) = some (.int (r.getD i 0)) := by
  refine atV_nat ?_
  simp [h]
end
section
open PySem PySem.W PyProof.Rows
variable {g : Gr} {sc csc : Scope} {r : Nat} {c : Bool} {K : Frag}
/-! ## objects of a class of the program -/
structure ClsOk (K : Frag) (C : Addr) : Prop where
  get : plainGet K C (Str.ofString "x") = true
  dict : hasDictIn K C = true
  set : findIn K (.ref C) "__setattr__" = some (some (.builtin "object.__setattr__"))
  over : plainOver K C = true
theorem look_of_ns {o : Obj} {es : Array DictEntry} {ep : Nat} {name : Str} (hd : o.data = .dict es ep) (hk : StrKeys es) : lookIn name o = some (nsFind es name) := by
  unfold lookIn
  rw [hd]
  have hr : es.toList.any (·.refKey) = false := by
    rw [List.any_eq_false]
    intro e he
    obtain ⟨n, t, q⟩ := hk e (by simpa using he)
    simp [DictEntry.refKey, q]
  unfold nsFind findBy
  cases q : es.toList.find? (·.key.isStr name) with
  | none =>
    have : es.find? (fun e => e.key.isStr name) = none := by rw [← Array.find?_toList]; exact q
    simp [hr, this]
  | some e =>
    have : es.find? (fun e => e.key.isStr name) = some e := by rw [← Array.find?_toList]; exact q
    simp [this]
variable {g : Gr} {sc csc : Scope} {r : Nat} {c : Bool} {K : Frag}
theorem mem_names {kvs : List (Str × V)} {x : Str} (h : kvs.lookup x ≠ none) : x ∈ kvs.map (·.1) := by
  induction kvs with
  | nil => simp at h
  | cons p kvs ih =>
    obtain ⟨y, v⟩ := p
    rw [List.lookup_cons] at h
    by_cases z : x = y
    · subst z; simp
    · have zb : (x == y) = false := by simpa using z
      rw [zb] at h
      exact List.mem_map.mpr (let ⟨q, h1, h2⟩ := List.mem_map.mp (ih h); ⟨q, .tail _ h1, h2⟩)
noncomputable def nameOf (e : DictEntry) : Str := match e.key with | .str n _ => n | _ => Str.empty
theorem ns1_size {h : Heap} {a : Addr} {m : Str → Option Value} (hn : h.Ns1 a m) (names : List Str) (hm : ∀ x, m x ≠ none → x ∈ names) : ∃ o es ep, h.get? a = some o ∧ o.data = .dict es ep ∧ es.size ≤ names.length := by
  obtain ⟨o, es, ep, ho, hd, hk, hu, hf⟩ := hn
  refine ⟨o, es, ep, ho, hd, ?_⟩
  have isn : ∀ e ∈ es.toList, e.key.isStr (nameOf e) = true := fun e he => by
    obtain ⟨n, t, q⟩ := hk e (by simpa using he)
    simp [nameOf, q, Value.isStr]
  have hnd : (es.toList.map nameOf).Nodup := by
    unfold List.Nodup
    rw [List.pairwise_map]
    refine List.Pairwise.imp_of_mem (fun {a b} ha hb h q => ?_) hu
    exact h (nameOf a) (isn a ha) (q ▸ isn b hb)
  have hsub : es.toList.map nameOf ⊆ names := fun x hx => by
    obtain ⟨e, he, rfl⟩ := List.mem_map.mp hx
    refine hm _ fun q => ?_
    rw [← hf] at q
    unfold nsFind findBy at q
    have : es.find? (fun e' => e'.key.isStr (nameOf e)) = none := by simpa using q
    rw [Array.find?_eq_none] at this
    exact this e (by simpa using he) (isn e he)
  have := List.Nodup.length_le_of_subset hnd hsub
  simpa using this
theorem inst_at {h : Heap} {σ : AH} {x C d : Addr} {kvs : List (Str × V)} (R : Rel g h σ) (hx : σ x = some (.inst C d)) (hd : σ d = some (.attrs kvs)) :
    ∃ od, InstAt h x (instObj C d) C (some od) ∧ (∀ name v, kvs.lookup name = some v → ∃ u, lookIn name od = some (some u) ∧ VR g h v u) ∧ (∀ name, kvs.lookup name = none → lookIn name od = some none) ∧ Ym kvs.length ∧ ∃ m, h.Ns1 d m ∧ ∀ x, (∀ v, kvs.lookup x = some v → ∃ u, m x = some u ∧ VR g h v u) ∧ (kvs.lookup x = none → m x = none) := by
  have ox : h.get? x = some (instObj C d) := (R.own x _ hx).2
  obtain ⟨hft, m, hn, hm⟩ := (R.own d _ hd).2
  obtain ⟨od, es, ep, hod, hdd, hk, _, hf⟩ := id hn
  refine ⟨od, ⟨ox, rfl, rfl, hod⟩, fun name v e => ?_, fun name e => ?_, hft, m, hn, hm⟩
  · obtain ⟨u, h1, h2⟩ := (hm name).1 v e
    exact ⟨u, by rw [look_of_ns hdd hk, hf, h1], h2⟩
  · rw [look_of_ns hdd hk, hf, (hm name).2 e]
theorem handed_of {h : Heap} {x : V} {v : Value} (hv : VR g h x v) : handedIn v = true := by
  cases x with
  | none => rw [Wj.mp hv]; rfl
  | bool b => rw [Wk.mp hv]; rfl
  | int i => obtain ⟨t, rfl⟩ := Yl.mp hv; rfl
  | str y => obtain ⟨_, t, rfl⟩ := Xp.mp hv; rfl
  | ref a => rw [Yt.mp hv]; rfl
  | tup xs => obtain ⟨_, a, _, _, _, rfl, _⟩ := Wd.mp hv; rfl
  | frz xs => obtain ⟨_, a, _, _, _, rfl, _⟩ := VR_frz.mp hv; rfl
noncomputable def attrOf (C : Addr) (name : Str) (v : V) (σ : AH) : Option V := match v with
  | .ref x => match σ x with
    | some (.inst C' d) => if C' = C then (match σ d with | some (.attrs kvs) => kvs.lookup name | _ => none) else none
    | _ => none
  | _ => none
theorem attrOf_eq {C x d : Addr} {name : Str} {σ : AH} {kvs : List (Str × V)} {u : V} (hx : σ x = some (.inst C d)) (hd : σ d = some (.attrs kvs)) (h : kvs.lookup name = some u) : attrOf C name (.ref x) σ = some u := by
  simp [attrOf, hx, hd, h]
theorem attrOf_some {C : Addr} {name : Str} {v u : V} {σ : AH} (h : attrOf C name v σ = some u) : ∃ x d kvs, v = .ref x ∧ σ x = some (.inst C d) ∧ σ d = some (.attrs kvs) ∧ kvs.lookup name = some u := by
  unfold attrOf at h
  split at h
  · rename_i x
    split at h
    · rename_i C' d e
      split at h
      · rename_i q; subst q
        split at h
        · rename_i kvs e'; exact ⟨x, d, kvs, rfl, e, e', h⟩
        · cases h
      · cases h
    · cases h
  · cases h
noncomputable def Xh (C : Addr) (name : String) (t : TE) : TE := fun ℓ σ Q E => t ℓ σ (fun v σ₁ => match attrOf C (Str.ofString name) v σ₁ with | some u => Q u σ₁ | none => False) E
theorem Xq {C : Addr} {e : Expr} {name : String} {pos : Pos} {t : TE} {attr : Option Value} (hK : K.In g.b0) (hc : ClsOk K C) (ha : findIn K (.ref C) (Str.ofString name) = some attr) (hn : noGet K attr = true) (hcall : isCall e = false) (h1 : Y5 g sc r c e t) :
    Y5 g sc r c (.Attribute e (Str.ofString name) pos) (Xh C name t) := .mk fun A env s ℓ σ Q E X h => by
  rw [arm_eval_Attribute, base_plain hcall]
  refine wpAny_bind (wpAny_mono (h1.run A env s ℓ σ _ E X h) (fun v s₁ p => ?_) fun _ _ p => p)
  refine X7.elim p fun x σ₁ hv hR hx hs hq => ?_
  split at hq
  · rename_i u e
    obtain ⟨a, d, kvs, rfl, h2, h3, h4⟩ := attrOf_some e
    rw [Yt.mp hv]
    obtain ⟨od, I, l1, l2, _⟩ := inst_at hR h2 h3
    obtain ⟨uv, l3, hu⟩ := l1 _ _ h4
    refine wpAny_bind (wpAny_standAt (wpAny_bind (wpAny_holding (get_value (fun a o e => hR.base a o (hK a o e)) I (plainGet_of hc.get).1 (findObj_own hc.dict ha hn l3) (handed_of hu) ?_))))
    refine wpAny_bind (wpAny_letTemporaryGo (wpAny_pure ?_))
    exact ⟨u, σ₁, hu, hR, hx, hs.trans ⟨rfl, rfl, rfl⟩, hq⟩
  · exact hq.elim
/-! ## an attribute is set -/
inductive SetAI (C : Addr) (name : String) (ℓ : Loc) (Q : Fl → Loc → AH → Prop) (v o : V) (σ₂ : AH) : Prop
  | mk (x d : Addr) (kvs : List (Str × V)) (h1 : o = .ref x) (h2 : σ₂ x = some (.inst C d)) (h3 : σ₂ d = some (.attrs kvs)) (h4 : Ym (kvs.length + 1)) (h5 : Q .next ℓ (σ₂.set d (.attrs ((Str.ofString name, v) :: kvs)))) : SetAI C name ℓ Q v o σ₂
noncomputable def Wn (C : Addr) (name : String) (to tv : TE) : TS := fun ℓ σ Q E => tv ℓ σ (fun v σ₁ => to ℓ σ₁ (SetAI C name ℓ Q v) fun C σ' => E C ℓ σ') fun C σ' => E C ℓ σ'
theorem sndS_setAttr {C : Addr} {o value : Expr} {name : String} {pos' pos : Pos} {to tv : TE} (hK : K.In g.b0) (hc : ClsOk K C) (ht : takerIn K C (Str.ofString name) = some none) (h1 : Y5 g sc r c o to) (h2 : Y5 g sc r c value tv)
    (hs : ∀ env, swapsWith value (some (.Attribute o (Str.ofString name) pos')) pos.line env = pure false) : SndS g sc r c (.Assign [.Attribute o (Str.ofString name) pos'] value pos) (Wn C name to tv) := .mk fun A env s ℓ σ Q E X h => by
  refine plainObj_wpAny_Assign_Attribute (wpAny_mono (h2.run A env s ℓ σ _ _ X h) (fun v s₁ p => ?_) fun _ _ p => p.toS X) (hs env)
  refine X7.elim p fun xv σ₁ hv hR1 hx1 hs1 hq => ?_
  have X1 := X.step hR1 hx1
  refine wpAny_mono (h1.run A env s₁ ℓ σ₁ _ _ X1 hq) (fun ov s₂ p => ?_) fun _ _ p => (p.toS X1).back hx1.own hs1
  obtain ⟨xo, σ₂, ho, hR2, hx2, hs2, x, d, kvs, rfl, e1, e2, hfit, hq⟩ := p
  have X2 := X1.step hR2 hx2
  rw [Yt.mp ho]
  have hv2 := hx2.vr hR1 Xz hv
  obtain ⟨od, I, l1, l2, hft, m, hn, hm⟩ := inst_at hR2 e1 e2
  have XK : K.In s₂.heap := fun a o e => hR2.base a o (hK a o e)
  obtain ⟨cd, hcd, hdd⟩ := any_some hc.dict
  refine set_plain XK I hc.set (osa_open (s := { s₂ with toks := s₂.toks + 1 }) XK I hc.over ht fun b => ?_)
  have hx0 := I.at_
  have XK' : K.In ({ s₂ with toks := s₂.toks + 1 } : Shared).heap := XK
  refine wpAny_bind (wpAny_pure (wpAny_bind (wpAny_bind (wpAny_loadPart hx0 (wpAny_bind ((looks_clsIn XK' hcd).here ?_))))))
  rw [hdd]
  refine wpAny_pure (a := some d) (wpAny_bind (wpAny_pure (wpAny_bind ?_)))
  refine wpAny_nsSet1 (s := { s₂ with toks := s₂.toks + 1 }) hn fun h' hn' sb => ?_
  have tk : Y8 g s₂.heap h' := fun b o us k _ q cc dd => by
    refine .of (sb.extBut b o (fun z => ?_) q)
    obtain ⟨o', es, ep, ho', hd', _⟩ := hn
    subst z; rw [ho'] at q; cases q; rw [hd'] at dd; cases dd
  have hor : OR g h' d (.attrs ((Str.ofString name, xv) :: kvs)) := by
    refine ⟨hfit, _, hn', fun y => ⟨fun w q => ?_, fun q => ?_⟩⟩
    · rw [List.lookup_cons] at q
      by_cases z : y = Str.ofString name
      · subst z
        simp only [beq_self_eq_true] at q
        cases q
        exact ⟨v, by simp, VR.mono tk hv2⟩
      · have zb : (y == Str.ofString name) = false := by simpa using z
        rw [zb] at q
        obtain ⟨u, h1, h2⟩ := (hm y).1 w q
        exact ⟨u, by rw [if_neg z]; exact h1, VR.mono tk h2⟩
    · rw [List.lookup_cons] at q
      by_cases z : y = Str.ofString name
      · subst z; simp at q
      · have zb : (y == Str.ofString name) = false := by simpa using z
        rw [zb] at q
        rw [if_neg z]; exact (hm y).2 q
  have pd : ∃ o, h'.get? d = some o := let ⟨o, _, _, e, _⟩ := hn'; ⟨o, e⟩
  have R3 : Rel g h' (σ₂.set d (.attrs ((Str.ofString name, xv) :: kvs))) := hR2.upd e2 sb hor
  have x3 : Ext No s₂.heap σ₂ h' (σ₂.set d (.attrs ((Str.ofString name, xv) :: kvs))) := .upd e2 sb pd
  have hsz : ∃ o es ep, h'.get? d = some o ∧ o.data = .dict es ep ∧ es.size ≤ kvs.length + 1 := by
    have := ns1_size hn' (Str.ofString name :: kvs.map (·.1)) fun y q => ?_
    · simpa using this
    · by_cases z : y = Str.ofString name
      · rw [z]; exact .head _
      · rw [if_neg z] at q
        refine .tail _ (mem_names fun w => q ((hm y).2 w))
  obtain ⟨od', es', ep', ho', hd', hle⟩ := hsz
  refine wpAny_bind (wpAny_lookBehind ho' (by rw [hd']; exact pastItsLine_dict (by have := hfit.line; omega)) (wpAny_pure ?_))
  show PostS g env s σ Q .next _
  exact ⟨.next, ℓ, _, rfl, X2.loc.step hR2 x3, R3, ((hx1.trans hx2).trans x3).own, (hs1.trans hs2).trans ⟨rfl, rfl, rfl⟩, hq⟩
end
section
open PySem PySem.W PyProof.Rows
variable {g : Gr} {sc csc : Scope} {r : Nat} {c : Bool} {K : Frag}
/-! ## methods of the program's classes -/
theorem callWith_in {A : Around} {E : Value → Shared → Prop} {s : Shared} {pos : Pos} {f : Value} {first : List Value} {l : List (Bool × Sem Value)} {Q : Value → Shared → Prop} (hK : K.In g.b0) (hk : keepIn K f = true) (hp : l.any (·.1) = false)
    (h : wpAny (model g.prog g.w) A (spliced l) (fun vs s' => (∀ a o, g.b0.get? a = some o → s'.heap.get? a = some o) ∧ wpAny (model g.prog g.w) A (call f (first ++ vs) []) Q E s') E s) : wpAny (model g.prog g.w) A (callWith pos f first l []) Q E s :=
  callWith_of (P := fun h => K.In h) (by simp [hp]) (keeps_K hk) (evalArgs_ok hp (wpAny_mono h (fun vs s' h' => ⟨fun a o e => h'.1 a o (hK a o e), h'.2⟩) fun _ _ x => x))
noncomputable def FnM (g : Gr) (K : Frag) (C : Addr) (name : String) (r : Nat) (t : TF) : Prop := ∃ f, findIn K (.ref C) (Str.ofString name) = some (some (.ref f)) ∧ isFn K (.ref f) = true ∧ keepIn K (.ref f) = true ∧ SndF g r (.ref f) t
theorem FnM.le {C : Addr} {name : String} {r r' : Nat} {t : TF} (h : FnM g K C name r t) (k : r ≤ r') : FnM g K C name r' t := let ⟨f, h1, h2, h3, h4⟩ := h; ⟨f, h1, h2, h3, h4.le k⟩
noncomputable def instOf (C : Addr) (name : Str) (o : V) (σ : AH) : Prop := ∃ x d kvs, o = .ref x ∧ σ x = some (.inst C d) ∧ σ d = some (.attrs kvs) ∧ kvs.lookup name = none
noncomputable def Ye (C : Addr) (name : String) (t : TF) (to : TE) (ts : TL) : TE := fun ℓ σ Q E => to ℓ σ (fun o σ₁ => instOf C (Str.ofString name) o σ₁ ∧ ts ℓ σ₁ (fun vs σ₂ => t (o :: vs) σ₂ Q E) E) E
theorem Yu {C : Addr} {o : Expr} {name : String} {apos pos : Pos} {args : List Expr} {t : TF} {to : TE} {ts : TL} (hK : K.In g.b0) (hc : ClsOk K C) (hF : FnM g K C name r t)
    (ho : Y5 g sc r true o to) (hL : SndL g sc r true args ts) (hp : Plain args) (hbase : isCall o = false) (hfew : decide (args.length < 30) = true)
    (hline : (apos.endLine == pos.line) = true) : Y5 g sc r true (.Call (.Attribute o (Str.ofString name) apos) args [] pos) (Ye C name t to ts) := .mk fun A env s ℓ σ Q E X h => by
  obtain ⟨f, hf, hfn, hkf, hF⟩ := hF
  rw [arm_eval_Call, base_plain hbase]
  refine wpAny_bind (wpAny_mono (ho.run A env s ℓ σ _ E X h) (fun v s₁ p => ?_) fun _ _ p => p)
  obtain ⟨xo, σ₁, hv, hR, hx, hs1, ⟨x, d, kvs, rfl, e1, e2, e3⟩, hq⟩ := p
  have X1 := X.step hR hx
  rw [Yt.mp hv]
  obtain ⟨od, I, l1, l2, _⟩ := inst_at hR e1 e2
  have XK : K.In s₁.heap := fun a o e => hR.base a o (hK a o e)
  refine wpAny_bind (wpAny_standAt ?_)
  have fin : wpAny (model g.prog g.w) A (callWith pos (.ref f) [.ref x] (backTo pos (starEach args env)) []) (PostE g s σ Q) (Wa g A s σ E) s₁ := by
    refine callWith_in hK hkf (Wr hp pos env) (wpAny_mono (hL.run A env pos s₁ ℓ σ₁ _ E X1 hq) (fun vs s₂ p => ?_) fun _ _ p => p.back hx hs1)
    refine X7.elim p fun xs σ₂ hvs hR2 hx2 hs2 hq => ?_
    have X2 := X1.step hR2 hx2
    exact ⟨fun a o e => hR2.base a o e, wp_back (hx.trans hx2) (hs1.trans hs2) (hF.run A s₂ σ₂ (.ref x :: xs) (.ref x :: vs) Q E X.gok X2.fr.frl X2.room hR2 (Y4 (Yt.mpr rfl) hvs) hq)⟩
  have hform : methodCallForm (args.length + ([] : List Keyword).length) (backTo pos (starEach args env)) (backToKw pos (keywordEach [] env)) = true := few_plain hp hfew
  have hpos : methodCallPos true o env apos pos = pure pos := by unfold methodCallPos; simp [hline]
  unfold methodCall
  rw [hform]
  refine wpAny_bind (wpAny_holding (method_fn XK I (plainGet_of hc.get).1 (plainGet_of hc.get).2 hf (beq_iff_eq.mp hfn) (by show (lookIn (Str.ofString name) od).map _ = _; rw [l2 _ e3]; rfl) ?_))
  exact wpAny_bind (wpAny_of_eq hpos fin)
/-! ## objects are made -/
theorem Room.made {A : Around} {r : Nat} {c : Bool} {C : Addr} {vs : List Value} (x : Room A (r + 1) c) : Room (A.under (.builtin "type.__call__" ⟨.ref C :: vs, []⟩)) r c :=
  ⟨by have := x.depth; show A.depth + 1 + 2 * r + 110 < _; omega, by have := x.units; show A.units + 1 + 20 * r + 100 < _; omega, x.calm⟩
noncomputable def tNew (C : Addr) (t : TF) : TF := fun xs σ Q E => ∀ x d, σ x = none → σ d = none → x ≠ d → t (.ref x :: xs) ((σ.set d (.attrs [])).set x (.inst C d)) (fun v σ' => v = .none ∧ Q (.ref x) σ') E
theorem sndF_new {C fI : Addr} {t : TF} (hK : K.In g.b0) (hm : makesIn K C = true) (hi : findIn K (.ref C) "__init__" = some (some (.ref fI))) (hf : typeIn K (.ref fI) = some (.type "function")) (hI : Xm g r (.ref fI) t) : SndF g (r + 1) (.ref C) (tNew C t) := .mk fun A s σ xs vs Q E G F Rm R hv h => by
  obtain ⟨hh, gg, dd, tt, os⟩ := s
  have X : K.In hh := fun a o e => R.base a o (hK a o e)
  refine wpAny_call (make_core (makes_of X hm) (looks_findIn X hi) (fun self => bind_fn X self hf) (.inl rfl) ?_)
  have k1 : ∀ a o, hh.get? a = some o → (hh.push emptyDict).get? a = some o := fun a o e => Heap.get?_push_of_some _ e
  have k2 : ∀ a o, hh.get? a = some o → ((hh.push emptyDict).push (instObj C hh.objs.size)).get? a = some o := fun a o e => Heap.get?_push_of_some _ (k1 a o e)
  have fr1 : hh.get? (hh.objs.size + 1) = none := Heap.get?_none_of_le (Nat.le_succ _)
  have fr0 : hh.get? hh.objs.size = none := Yw _
  have hD : ((hh.push emptyDict).push (instObj C hh.objs.size)).get? hh.objs.size = some emptyDict := Heap.get?_push_of_some _ (Heap.get?_push_size _ rfl)
  have hX : ((hh.push emptyDict).push (instObj C hh.objs.size)).get? (hh.objs.size + 1) = some (instObj C hh.objs.size) := by
    have := Heap.get?_push_size (o := instObj C hh.objs.size) (hh.push emptyDict) rfl
    rwa [Heap.size_push] at this
  have R1 : Rel g ((hh.push emptyDict).push (instObj C hh.objs.size)) (σ.set hh.objs.size (.attrs [])) := by
    refine R.alloc k2 fr0 ⟨by simp [Ym], fun _ => none, ⟨emptyDict, #[], 0, hD, rfl, fun e he => by simp at he, List.Pairwise.nil, fun _ => rfl⟩, fun x => ⟨fun v q => (nomatch q), fun _ => rfl⟩⟩
  have b0 : g.b0.get? (hh.objs.size + 1) = none := by
    cases q : g.b0.get? (hh.objs.size + 1) with
    | none => rfl
    | some o => have := R.base _ o q; rw [show (Shared.heap ⟨hh, gg, dd, tt, os⟩) = hh from rfl, fr1] at this; cases this
  have R2 := R1.claim (a := hh.objs.size + 1) (ao := .inst C hh.objs.size) b0 hX
  have x2 : Ext No hh σ ((hh.push emptyDict).push (instObj C hh.objs.size)) ((σ.set hh.objs.size (.attrs [])).set (hh.objs.size + 1) (.inst C hh.objs.size)) := by
    refine ⟨fun a o e _ _ => .of (k2 a o e), fun a o e => ⟨o, k2 a o e⟩, fun a q => ?_⟩
    by_cases z : a = hh.objs.size + 1
    · rw [z]; exact .inr fr1
    · rw [AH.set_other z] at q
      by_cases z2 : a = hh.objs.size
      · rw [z2]; exact .inr fr0
      · rw [AH.set_other z2] at q; exact .inl q
  have F2 : FrL g (A.under (.builtin "type.__call__" ⟨.ref C :: vs, []⟩)) ((hh.push emptyDict).push (instObj C hh.objs.size)) ((σ.set hh.objs.size (.attrs [])).set (hh.objs.size + 1) (.inst C hh.objs.size)) := by
    obtain ⟨l, h1, h2, h3⟩ := F
    obtain ⟨k3, k4⟩ := frames_step (W := No) (x2.dicts fun _ _ _ _ n => n.elim) _ h2 h3
    exact ⟨l, h1, k3, k4⟩
  have σx : σ (hh.objs.size + 1) = none := R.fresh fr1
  have σd : σ hh.objs.size = none := R.fresh fr0
  refine codeAny_mono (hI.run (A.under (.builtin "type.__call__" ⟨.ref C :: vs, []⟩)) ⟨(hh.push emptyDict).push (instObj C hh.objs.size), gg, dd, tt, os⟩ _ (.ref (hh.objs.size + 1) :: xs) (.ref (hh.objs.size + 1) :: vs) _ E G F2 Rm.made R2 (Y4 (Yt.mpr rfl) (VRs.mono (fun a o _ _ _ e _ _ => .of (k2 a o e)) hv))
    (h _ _ σx σd (Nat.succ_ne_self _))) fun rr s' p => ?_
  match rr, p with
  | .ok (.ret v), p =>
    obtain ⟨y, σ', hy, hR', hx', hs', rfl, hq⟩ := p
    exact ⟨Wj.mp hy, .ref _, σ', Yt.mpr rfl, hR', x2.trans hx', Xu.trans ⟨rfl, rfl, rfl⟩ hs', hq⟩
  | .error e, p => obtain ⟨D, σ', h1, h2, h3, h4, h5⟩ := p; exact ⟨D, σ', h1.back x2.pres, h2, x2.trans h3, Xu.trans ⟨rfl, rfl, rfl⟩ h4, h5⟩
end
section
open PySem PySem.W PyProof.Rows
variable {g : Gr} {sc csc : Scope} {r : Nat} {c : Bool} {K : Frag}
/-! ## an item is set -/
theorem mapSeq_plain (its : Array Value) (n : Nat) (f : Array Value → Array Value) : ∃ n', Obj.mapSeq f { cls := .type "list", data := .seq its n } = { cls := .type "list", data := .seq (f its) n' } := by
  simp [Obj.mapSeq]
theorem setItem_plain {prog : Program} {w : World} {A : Around} {E : Value → Shared → Prop} {s : Shared} {l : Addr} {items : Array Value} {n : Nat} {k : Int} {t : Tok} {v : Value} {Q : Unit → Shared → Prop} (ho : s.heap.get? l = some { cls := .type "list", data := .seq items n }) (h0 : 0 ≤ k) (hfit : k < 2 ^ 63) (hn : k < items.size)
    (hQ : ∀ h' n', h'.get? l = some { cls := .type "list", data := .seq (items.setIfInBounds k.toNat v) n' } → Heap.SameBut l s.heap h' → Q () { s with heap := h' }) :
    wpAny (model prog w) A (setItem (.ref l) (.int k t) v) Q E s := by
  have hl : s.heap.IsList l items := ⟨_, ho, rfl, n, rfl⟩
  obtain ⟨o, ho', hc, ne, hd⟩ := id hl
  have eo : o = { cls := .type "list", data := .seq items n } := by rw [ho] at ho'; cases ho'; rfl
  unfold setItem
  try with_reducible refine wpAny_holding ?_
  first | refine wpAny_bind (wpAny_pure ?_) | skip
  refine wpAny_bind (wpAny_sequenceKey hl.typeIs (by decide) ?_)
  refine wpAny_bind (wpAny_callSpecial?_slot (name := Str.ofString "__setitem__") hl.typeIs slot_list_setitem
    (wpAny_call_entry slot_list_setitem hl.typeIs entry_list_setitem ?_ (args_list_setitem _ _ _)))
  show wpAny _ _ (Builtin.List.listSubscript? (.int k t) >>= _) _ _ s
  refine wpAny_bind (wpAny_listSubscript_int (fitsIndex_of h0 hfit) ?_)
  clear hfit
  obtain ⟨j, rfl⟩ := Int.eq_ofNat_of_zero_le h0
  have hj : j < items.size := by omega
  have hx' : items[j]? = some items[j] := Array.getElem?_eq_getElem hj
  show wpAny _ _ ((seqItemAt l j >>= fun r => pure (r.map (j, ·))) >>= _) _ _ s
  refine wpAny_bind (wpAny_bind (wpAny_seqItemAt ho' hd (wpAny_pure ?_)))
  rw [hx']
  show wpAny _ _ (setSeqItemAt l j v >>= _) _ _ s
  obtain ⟨n', hm⟩ := mapSeq_plain items n (·.setIfInBounds j v)
  have hfin : (s.heap.update l (Obj.mapSeq (·.setIfInBounds j v))).get? l = some { cls := .type "list", data := .seq (items.setIfInBounds j v) n' } := by
    rw [Heap.get?_update_self _ ho (by rw [hm]; rfl), hm]
  refine wpAny_bind (wpAny_setSeqItemAt ho' hd ?_)
  first
    | exact wpAny_bind (wpAny_pure (wpAny_pure ⟨.none, rfl, wpAny_pure (hQ _ _ hfin (Heap.SameBut.update ..))⟩))
    | exact wpAny_pure ⟨.none, rfl, wpAny_pure (hQ _ _ hfin (Heap.SameBut.update ..))⟩
noncomputable def putD {K : Type} [DecidableEq K] (kvs : List (K × V)) (k : K) (x : V) : List (K × V) :=
  if kvs.any (fun kv => decide (kv.1 = k)) then kvs.map (fun kv => if kv.1 = k then (kv.1, x) else kv) else kvs ++ [(k, x)]
theorem VRs_set {h : Heap} {x : V} {v : Value} (hx : VR g h x v) : ∀ {xs : List V} {vs : List Value} (j : Nat), VRs g h xs vs → VRs g h (xs.set j x) (vs.set j v)
  | [], vs, j, a => by rw [Yr a]; simpa using Xs
  | y :: xs, vs, j, a => by
    obtain ⟨u, us, rfl, hy, hus⟩ := Zv a
    cases j with
    | zero => exact Y4 hx hus
    | succ j => exact Y4 hy (VRs_set hx j hus)
theorem any_fst {K : Type} [DecidableEq K] {α β : Type} {us : List (K × α)} {kvs : List (K × β)} (hk : us.map (·.1) = kvs.map (·.1)) (k : K) : (us.any fun kv => decide (kv.1 = k)) = kvs.any fun kv => decide (kv.1 = k) := by
  have h1 : (us.any fun kv => decide (kv.1 = k)) = (us.map (·.1)).any fun y => decide (y = k) := by simp [List.any_map, Function.comp_def]
  have h2 : (kvs.any fun kv => decide (kv.1 = k)) = (kvs.map (·.1)).any fun y => decide (y = k) := by simp [List.any_map, Function.comp_def]
  rw [h1, h2, hk]
theorem stored_put {K : Type} [DecidableEq K] {h : Heap} {k : K} {x : V} {v : Value} (hx : VR g h x v) {us : List (K × Value)} {kvs : List (K × V)} (hk : us.map (·.1) = kvs.map (·.1)) (hv : VRs g h (kvs.map (·.2)) (us.map (·.2))) :
    (stored us k v).map (·.1) = (putD kvs k x).map (·.1) ∧ VRs g h ((putD kvs k x).map (·.2)) ((stored us k v).map (·.2)) := by
  have rep : ∀ {us : List (K × Value)} {kvs : List (K × V)}, us.map (·.1) = kvs.map (·.1) → VRs g h (kvs.map (·.2)) (us.map (·.2)) →
      (us.map (fun kv => if kv.1 = k then (kv.1, v) else kv)).map (·.1) = (kvs.map (fun kv => if kv.1 = k then (kv.1, x) else kv)).map (·.1) ∧ VRs g h ((kvs.map (fun kv => if kv.1 = k then (kv.1, x) else kv)).map (·.2)) ((us.map (fun kv => if kv.1 = k then (kv.1, v) else kv)).map (·.2)) := by
    intro us
    induction us with
    | nil =>
      intro kvs hk hv
      cases kvs with
      | nil => exact ⟨rfl, Xs⟩
      | cons _ _ => simp at hk
    | cons u us ih =>
      intro kvs hk hv
      cases kvs with
      | nil => simp at hk
      | cons kv kvs =>
        simp only [List.map_cons, List.cons.injEq] at hk
        obtain ⟨w, ws, hw, hv1, hv2⟩ := Zv hv
        simp only [List.map_cons, List.cons.injEq] at hw
        obtain ⟨rfl, rfl⟩ := hw
        obtain ⟨i1, i2⟩ := ih hk.2 hv2
        simp only [List.map_cons]
        by_cases z : u.1 = k
        · have z' : kv.1 = k := hk.1 ▸ z
          rw [if_pos z, if_pos z']
          exact ⟨by rw [i1]; simp [hk.1], Y4 hx i2⟩
        · have z' : ¬ kv.1 = k := hk.1 ▸ z
          rw [if_neg z, if_neg z']
          exact ⟨by rw [i1]; simp [hk.1], Y4 hv1 i2⟩
  unfold stored putD
  rw [any_fst hk k]
  split
  · exact rep hk hv
  · exact ⟨by simp [hk], by simpa using VRs_append hv (Y4 hx Xs)⟩
theorem putD_length {K : Type} [DecidableEq K] (kvs : List (K × V)) (k : K) (x : V) : (putD kvs k x).length ≤ kvs.length + 1 := by
  unfold putD; split <;> simp
theorem post_changed {A : Around} {env : Env} {s : Shared} {σ : AH} {ℓ : Loc} {Q : Fl → Loc → AH → Prop} {a : Addr} {ao ao' : AO} {h' : Heap} {tk : Nat} (X : Cx g sc r c A env s.heap σ ℓ) (e : σ a = some ao) (sb : Heap.SameBut a s.heap h') (ho : Y8 g s.heap h' → OR g h' a ao') (hq : Q .next ℓ (σ.set a ao')) : PostS g env s σ Q .next { s with heap := h', toks := tk } := by
  obtain ⟨o₀, e₀, c₀⟩ := OR_some (X.rel.own a _ e).2
  have tks : Y8 g s.heap h' := fun b o us m _ q cc d => by
    refine .of (sb.extBut b o (fun z => ?_) q)
    subst z; rw [e₀] at q; cases q; exact c₀ _ _ cc d
  have hor := ho tks
  have pr : ∃ o, h'.get? a = some o := let ⟨o, q, _⟩ := OR_some hor; ⟨o, q⟩
  have x : Ext No s.heap σ h' (σ.set a ao') := .upd e sb pr
  exact ⟨.next, ℓ, _, rfl, X.loc.step X.rel x, X.rel.upd e sb hor, x.own, ⟨rfl, rfl, rfl⟩, hq⟩
noncomputable def setItemV (o i v : V) (σ : AH) (Q : AH → Prop) : Prop := match o with
  | .ref a => match σ a with
    | some (.list xs) => ∃ j : Nat, i = .int (j : Int) ∧ j < xs.length ∧ Q (σ.set a (.list (xs.set j v)))
    | some (.dictI kvs _) => ∃ k, i = .int k ∧ Ym (kvs.length + 1) ∧ ∀ ep, Q (σ.set a (.dictI (putD kvs k v) ep))
    | some (.dictT kvs _) => ∃ ks : List Int, i = .tup (ks.map V.int) ∧ Ym (kvs.length + 1) ∧ ∀ ep, Q (σ.set a (.dictT (putD kvs ks v) ep))
    | _ => False
  | _ => False
noncomputable def Xk (to ti tv : TE) : TS := fun ℓ σ Q E => tv ℓ σ (fun v σ₁ => to ℓ σ₁ (fun o σ₂ => ti ℓ σ₂ (fun i σ₃ => setItemV o i v σ₃ fun σ' => Q .next ℓ σ') fun C σ' => E C ℓ σ') fun C σ' => E C ℓ σ') fun C σ' => E C ℓ σ'
theorem storedH_put {h : Heap} {k : List Int} {x : V} {v : Value} {a : Addr} (hx : VR g h x v) {us : List (List Int × Addr × Value)} {kvs : List (List Int × V)} (hk : us.map (·.1) = kvs.map (·.1)) (hv : VRs g h (kvs.map (·.2)) (us.map (·.2.2))) :
    (storedH us k a v).map (·.1) = (putD kvs k x).map (·.1) ∧ VRs g h ((putD kvs k x).map (·.2)) ((storedH us k a v).map (·.2.2)) := by
  have rep : ∀ {us : List (List Int × Addr × Value)} {kvs : List (List Int × V)}, us.map (·.1) = kvs.map (·.1) → VRs g h (kvs.map (·.2)) (us.map (·.2.2)) →
      (us.map (putAt k v)).map (·.1) = (kvs.map (fun kv => if kv.1 = k then (kv.1, x) else kv)).map (·.1) ∧ VRs g h ((kvs.map (fun kv => if kv.1 = k then (kv.1, x) else kv)).map (·.2)) ((us.map (putAt k v)).map (·.2.2)) := by
    intro us
    induction us with
    | nil =>
      intro kvs hk hv
      cases kvs with
      | nil => exact ⟨rfl, Xs⟩
      | cons _ _ => simp at hk
    | cons u us ih =>
      intro kvs hk hv
      cases kvs with
      | nil => simp at hk
      | cons kv kvs =>
        simp only [List.map_cons, List.cons.injEq] at hk
        obtain ⟨w, ws, hw, hv1, hv2⟩ := Zv hv
        simp only [List.map_cons, List.cons.injEq] at hw
        obtain ⟨rfl, rfl⟩ := hw
        obtain ⟨i1, i2⟩ := ih hk.2 hv2
        simp only [List.map_cons]
        unfold putAt at i1 i2 ⊢
        by_cases z : u.1 = k
        · have z' : kv.1 = k := hk.1 ▸ z
          rw [if_pos z, if_pos z']
          exact ⟨by rw [i1]; simp [hk.1], Y4 hx i2⟩
        · have z' : ¬ kv.1 = k := hk.1 ▸ z
          rw [if_neg z, if_neg z']
          exact ⟨by rw [i1]; simp [hk.1], Y4 hv1 i2⟩
  have hany : (atKey us k).isSome = kvs.any fun kv => decide (kv.1 = k) := by
    rw [← any_fst hk k]
    unfold atKey
    rw [Option.isSome_map, Bool.eq_iff_iff, List.find?_isSome]
    simp
  unfold storedH putD
  rw [hany]
  split
  · exact rep hk hv
  · exact ⟨by simp [hk], by simpa using VRs_append hv (Y4 hx Xs)⟩
variable {g : Gr} {sc csc : Scope} {r : Nat} {c : Bool} {K : Frag}
theorem DictAt_of {K' : Type} [DecidableEq K'] {prog : Program} {w : World} {knd : KeyKind prog w K'} {h : Heap} {a : Addr} {kvs : List (K' × Value)} (x : h.DictOf knd a kvs) : ∃ ep, h.DictAt knd a kvs ep := let ⟨o, es, ep, r⟩ := x; ⟨ep, o, es, r⟩
theorem sndS_setItem {o i value : Expr} {pos' pos : Pos} {to ti tv : TE} (h1 : Y5 g sc r c o to) (h2 : Y5 g sc r c i ti) (h3 : Y5 g sc r c value tv) (hs : ∀ env, swapsWith value (some (.Subscript o i pos')) pos.line env = pure false) :
    SndS g sc r c (.Assign [.Subscript o i pos'] value pos) (Xk to ti tv) := .mk fun A env s ℓ σ Q E X h => by
  refine wpAny_Assign_Subscript (wpAny_mono (h3.run A env s ℓ σ _ _ X h) (fun v s₁ p => ?_) fun _ _ p => p.toS X) (hs env)
  refine X7.elim p fun xv σ₁ hv hR1 hx1 hs1 hq => ?_
  have X1 := X.step hR1 hx1
  refine wpAny_mono (h1.run A env s₁ ℓ σ₁ _ _ X1 hq) (fun ov s₂ p => ?_) fun _ _ p => (p.toS X1).back hx1.own hs1
  refine X7.elim p fun xo σ₂ ho hR2 hx2 hs2 hq => ?_
  have X2 := X1.step hR2 hx2
  have hx12 := hx1.trans hx2
  have hs12 := hs1.trans hs2
  refine wpAny_mono (h2.run A env s₂ ℓ σ₂ _ _ X2 hq) (fun iv s₃ p => ?_) fun _ _ p => (p.toS X2).back hx12.own hs12
  refine X7.elim p fun xi σ₃ hi hR3 hx3 hs3 hq => ?_
  have X3 := X2.step hR3 hx3
  have hv3 := (hx2.trans hx3).vr hR1 Xz hv
  have ho3 := hx3.vr hR2 Xz ho
  refine wpAny_mono (Q := fun _ s' => PostS g env s₃ σ₃ Q .next s') ?_ (fun _ _ p => p.back (hx12.trans hx3).own (hs12.trans hs3)) fun _ _ (p : False) => p.elim
  unfold setItemV at hq
  split at hq
  · rename_i a _
    rw [Yt.mp ho3]
    split at hq
    · rename_i xs e
      obtain ⟨j, rfl, hj, hq⟩ := hq
      obtain ⟨t, rfl⟩ := Yl.mp hi
      obtain ⟨hf, us, n, hou, hvs⟩ := (hR3.own a _ e).2
      have hlen : xs.length = us.size := by have := Yb hvs; simpa using this
      have hfl := hf
      unfold Ym at hfl
      refine setItem_plain hou (by omega) (by omega) (by omega) fun h' n' ho' sb => ?_
      refine post_changed (tk := s₃.toks) (ao' := .list (xs.set j xv)) X3 e sb (fun tk => ⟨by simpa using hf, _, n', ho', ?_⟩) hq
      have := VRs_set (VR.mono tk hv3) j (VRs.mono tk hvs)
      simpa using this
    · rename_i kvs ep e
      obtain ⟨k, rfl, hft, hq⟩ := hq
      obtain ⟨t, rfl⟩ := Yl.mp hi
      obtain ⟨hf, us, hd, hk, hvs⟩ := (hR3.own a _ e).2
      have hlen : kvs.length = us.length := by have := congrArg List.length hk; simpa using this.symm
      refine wpAny_setItem_pairs (knd := intKind g.prog g.w) (k := k) (by simp [intKind, Value.isInt]) hd.dictOf (fun h' hd' sb => ?_) (by rw [← hlen]; exact hf.line)
      obtain ⟨ep', hd'⟩ := DictAt_of hd'
      refine post_changed (ao' := .dictI (putD kvs k xv) ep') X3 e sb (fun tk => ?_) (hq ep')
      obtain ⟨p1, p2⟩ := stored_put (VR.mono tk hv3) hk (VRs.mono tk hvs)
      exact ⟨hft.le (putD_length _ _ _), _, hd', p1, p2⟩
    · rename_i kvs ep e
      obtain ⟨ks, rfl, hft, hq⟩ := hq
      obtain ⟨ka, rfl, nh, hka⟩ := tupleKey_of hi
      obtain ⟨hf, us, hd, hk, hvs⟩ := (hR3.own a _ e).2
      have hlen : kvs.length = us.length := by have := congrArg List.length hk; simpa using this.symm
      refine wpAny_setItem_heap (knd := tupleKind (intKind g.prog g.w)) (tupleKind_room_in1 (by have := X3.room.cline; omega)) hka hd.ofH (fun h' hd' sb => ?_) (by rw [← hlen]; exact hf.line)
      obtain ⟨o', es', ep', g1, g2, g3, g4, g5, g6⟩ := hd'
      have hh : ∀ y ∈ us, ¬ g.hid y.2.1 := by obtain ⟨_, _, _, _, _, _, q, _⟩ := hd; exact fun y hy => (q y hy).1
      refine post_changed (ao' := .dictT (putD kvs ks xv) ep') X3 e sb (fun tk => ⟨hft.le (putD_length _ _ _), storedH us ks ka v, ⟨o', es', g1, g2, g3, g4, fun y hy => ⟨?_, g5 y hy⟩, g6⟩, (storedH_put (VR.mono tk hv3) hk (VRs.mono tk hvs)).1, (storedH_put (VR.mono tk hv3) hk (VRs.mono tk hvs)).2⟩) (hq ep')
      · unfold storedH at hy
        split at hy
        · obtain ⟨z, hz, rfl⟩ := List.mem_map.1 hy
          unfold putAt; split <;> exact hh z hz
        · rcases List.mem_append.1 hy with q | q
          · exact hh y q
          · rw [List.mem_singleton.1 q]; exact nh
    · exact hq.elim
  · exact hq.elim
end
section
open PySem PyProof.Rows
variable {g : Gr} {sc csc : Scope} {r : Nat} {c : Bool}
/-! ## what is never reached -/
noncomputable def tDead : TS := fun _ _ _ _ => False
theorem sndS_dead {st : Stmt} : SndS g sc r c st tDead := .mk fun A env s ℓ σ Q E X h => False.elim h
/-! ## while -/
noncomputable def tWhile (tt : TB) (tb : TS) : TS := fun ℓ σ Q E => ∃ I : Nat → Loc → AH → Prop, (∃ n, I n ℓ σ) ∧ ∀ n ℓ σ, I n ℓ σ → tt ℓ σ (fun b σ₂ => match b with
    | true => tb ℓ σ₂ (fun f ℓ₃ σ₃ => match f with
      | .next => ∃ m, m < n ∧ I m ℓ₃ σ₃
      | .cont => ∃ m, m < n ∧ I m ℓ₃ σ₃
      | .brk => Q .next ℓ₃ σ₃
      | .ret v => Q (.ret v) ℓ₃ σ₃) E
    | false => Q .next ℓ σ₂) fun C σ' => E C ℓ σ'
inductive WhI (g : Gr) (env : Env) (s : Shared) (σ : AH) (I : Nat → Loc → AH → Prop) (n : Nat) (s' : Shared) : Prop
  | mk (ℓ' : Loc) (σ' : AH) (h1 : I n ℓ' σ') (h2 : LR g s'.heap σ' env ℓ') (h3 : Rel g s'.heap σ') (h4 : Ext (Own env) s.heap σ s'.heap σ') (h5 : Xu s s') : WhI g env s σ I n s'
theorem sndS_while {test : Expr} {body : List Stmt} {pos : Pos} {tt : TB} {tb : TS} (ht : SndB g sc r c test tt) (hb : SndSs g sc r c body tb) : SndS g sc r c (.While test body [] pos) (tWhile tt tb) := .mk fun A env s ℓ σ Q E X h => by
  obtain ⟨I, ⟨n0, h0⟩, hI⟩ := h
  refine wpAny_While (codeAny_whileLoop (WhI g env s σ I) ?_ n0 ⟨ℓ, σ, h0, X.loc, X.rel, .refl, .refl⟩)
  rintro n s' ⟨ℓ', σ', hi, hL, hR, hx, hsm⟩
  have X' : Cx g sc r c A env s'.heap σ' ℓ' := X.stepS hL hR hx
  refine wpAny_mono (ht.run A env s' ℓ' σ' _ _ X' (hI n ℓ' σ' hi)) (fun b s₂ p => ?_) fun e s₂ p => ((p.toS X').back hx hsm).noted X fun e s' p => p.came fun e s' p => p
  obtain ⟨b', σ₂, rfl, hR2, hx2, hs2, hq⟩ := p
  have X2 := X'.step hR2 hx2
  have hx02 : Ext (Own env) s.heap σ s₂.heap σ₂ := hx.trans hx2.own
  have hs02 : Xu s s₂ := hsm.trans hs2
  cases b' with
  | true =>
    simp only [if_true]
    refine wpAny_mono (hb.run A env s₂ ℓ' σ₂ _ E X2 hq) (fun f s₃ p => ?_) fun e s₃ p => (p.back hx02 hs02).noted X fun e s' p => p.came fun e s' p => p
    obtain ⟨f', ℓ₃, σ₃, hf', hL3, hR3, hx3, hs3, hq⟩ := p
    cases f' with
    | next => cases hf'; obtain ⟨m, hm, hi'⟩ := hq; exact ⟨m, hm, ℓ₃, σ₃, hi', hL3, hR3, hx02.trans hx3, hs02.trans hs3⟩
    | cont => cases hf'; obtain ⟨m, hm, hi'⟩ := hq; exact ⟨m, hm, ℓ₃, σ₃, hi', hL3, hR3, hx02.trans hx3, hs02.trans hs3⟩
    | brk => cases hf'; exact ⟨.next, ℓ₃, σ₃, rfl, hL3, hR3, hx02.trans hx3, hs02.trans hs3, hq⟩
    | ret v => obtain ⟨u, rfl, hu⟩ := hf'; exact ⟨.ret v, ℓ₃, σ₃, ⟨u, rfl, hu⟩, hL3, hR3, hx02.trans hx3, hs02.trans hs3, hq⟩
  | false =>
    simp only [Bool.false_eq_true, if_false]
    exact wpAny_execs_nil ⟨.next, ℓ', σ₂, rfl, X2.loc, hR2, hx02, hs02, hq⟩
/-! ## the values of a dict are walked through -/
theorem iters_values (a I : Addr) (kvs : List (Int × V)) (ep : Nat) : Iters g (kvs.map (·.2)) (fun σ => σ a = some (.dictI kvs ep)) I (· = I) (fun k h => h.IsValIter I a k kvs.length ep) false where
  stab := fun k h h' st _ kp => st.at fun o e => kp I o rfl e
  flds := fun k h b st e => by subst e; obtain ⟨o, ho, _, hd⟩ := st; exact ⟨o, ho, .inr ⟨_, hd⟩⟩
  self := fun k A E s Q st h => wpAny_pyIter_valiter st h
  item := fun k x A E s σ target Q hx st R iv off _ h => by
    obtain ⟨hf, us, hd, hk, hv⟩ := (R.own a _ iv).2
    have hlen : kvs.length = us.length := by have := congrArg List.length hk; simpa using this.symm
    obtain ⟨v, e, hxv⟩ := VRs_get hv hx
    rw [List.getElem?_map] at e
    cases eu : us[k]? with
    | none => rw [eu] at e; cases e
    | some p =>
      obtain ⟨kk, v'⟩ := p
      rw [eu] at e; cases e
      obtain ⟨oI, hoI, hcI, hdI⟩ := id st
      refine wpAny_pyNext_values_item (hlen ▸ st) hd eu fun h' st' sb => ?_
      obtain ⟨o', ho', hc', hd'⟩ := id st'
      refine letGo_plain ho' hc' hd' (by decide) (h _ _ (fun b o nb e => sb.extBut b o nb e) ⟨rfl, rfl, rfl⟩ (hlen ▸ st') (VR.mono (tupsKept_one hoI hdI sb.extBut) hxv))
  last := fun k A E s σ Q hk' hh st R iv off h => by
    obtain ⟨hf, us, hd, hk, hv⟩ := (R.own a _ iv).2
    have hlen : kvs.length = us.length := by have := congrArg List.length hk; simpa using this.symm
    refine wpAny_pyNext_values_end hh (hlen ▸ st) hd (List.getElem?_eq_none (by simpa [hlen] using hk')) fun h' eb => h { s with heap := h' } (fun b o nb e => eb b o nb e) ⟨rfl, rfl, rfl⟩
noncomputable def tValues (t : TE) : TI := fun ℓ σ Q E => t ℓ σ (fun x σ₁ => match x with
  | .ref a => match σ₁ a with | some (.dictI kvs ep) => Q (kvs.map (·.2)) (fun σ => σ a = some (.dictI kvs ep)) false σ₁ | _ => False
  | _ => False) E
theorem sndI_values {e : Expr} {apos pos : Pos} {t : TE} (h1 : Y5 g sc r c e t) (hbase : isCall e = false) (hline : (apos.endLine == pos.line) = true) : SndI g sc r c (.Call (.Attribute e (Str.ofString "values") apos) [] [] pos) (tValues t) := .mk fun A env s ℓ σ Q E X h => by
  refine wpAny_Call_method (base_plain hbase) (few_plain (args := []) rfl rfl) hline F.plainAttrs_dict F.slot_dict_values F.type_dict_values (wpAny_mono (h1.run A env s ℓ σ _ E X h) (fun v s₁ p => ?_) fun _ _ p => p)
  refine X7.elim p fun x σ₁ hv hR hx hs1 hq => ?_
  cases x with
  | ref a =>
    rw [Yt.mp hv]
    simp only at hq
    split at hq
    · rename_i kvs ep e
      obtain ⟨hf, us, hd, hk, hvs⟩ := (hR.own a _ e).2
      have hlen : kvs.length = us.length := by have := congrArg List.length hk; simpa using this.symm
      have ht := typeV_at hR hv (T := "dict") (by simp [typeV, e])
      rw [Yt.mp hv] at ht
      refine ⟨ht.1, ht.2, ?_⟩
      refine Xn (g := g) (.inr (.inl ⟨_, rfl⟩)) (Wr (es := []) rfl pos env) (Calls.spliced_nil ⟨fun a o e => hR.base a o e, ?_⟩)
      refine call_meetsIn F.slot_dict_values hd.dictOf.typeIs F.entry_dict_values (F.args_dict_values_1 _) (meets_dict_values (intKind g.prog g.w) a (sysMod_ne X.gok hR e)) ⟨⟨us, hd.dictOf⟩, ?_⟩
      have kp := X9 s₁.heap { cls := .type "dict_values", data := .fields #[.ref a] }
      refine wpAny_pyIter_values (knd := intKind g.prog g.w) ⟨_, Heap.get?_push_size _ rfl, rfl, rfl⟩ (hd.push _) ?_
      rw [← hlen]
      exact postI_one (s₁ := { s₁ with heap := s₁.heap.push { cls := .type "dict_values", data := .fields #[.ref a] } }) (hR.keeps kp) (hx.trans (.keeps kp)) (hs1.trans ⟨rfl, rfl, rfl⟩) (iters_values a _ kvs ep) ⟨_, Heap.get?_push_size _ rfl, rfl, rfl⟩ (by simpa using hf) hq
    · exact hq.elim
  | _ => exact hq.elim
theorem compT_grow {α : Type} {t : Tgt} {inv : AH → Prop} {tifs : TB} {telt : TE} {ℓ : Loc} {σ : AH} {Q : List V → AH → Prop} {E : Addr → AH → Prop} (f : α → V) (p : α → Bool) (F : α → V) (hinv : ∀ σ', Sub σ σ' → inv σ') :
    ∀ (xs : List α) (acc : List V) (σ₀ : AH), Sub σ σ₀ → (∀ x ∈ xs, ∀ σ', Sub σ σ' → ∃ ℓ₁, (∀ P : Loc → Prop, P ℓ₁ → Zj t (f x) ℓ.bare σ' P) ∧ (∀ Qb : Bool → AH → Prop, (∀ σ'', Sub σ' σ'' → Qb (p x) σ'') → tifs ℓ₁ σ' Qb E) ∧
        (p x = true → ∀ σ'', Sub σ' σ'' → ∀ Qv : V → AH → Prop, (∀ σ₃, Sub σ'' σ₃ → Qv (F x) σ₃) → telt ℓ₁ σ'' Qv E)) →
      (∀ σ', Sub σ σ' → Q (acc ++ (xs.filter p).map F) σ') → compT t inv tifs telt ℓ (xs.map f) acc σ₀ Q E
  | [], acc, σ₀, h0, _, h => ⟨hinv σ₀ h0, by simpa using h σ₀ h0⟩
  | x :: xs, acc, σ₀, h0, hs, h => by
    obtain ⟨ℓ₁, h1, h2, h3⟩ := hs x (.head _) σ₀ h0
    have ih := compT_grow (t := t) (inv := inv) (tifs := tifs) (telt := telt) (ℓ := ℓ) (E := E) (Q := Q) f p F hinv xs
    refine ⟨hinv σ₀ h0, h1 _ (h2 _ fun σ₁ s1 => ?_)⟩
    cases e : p x with
    | true =>
      refine h3 e σ₁ s1 _ fun σ₂ s2 => ih _ σ₂ ((h0.trans s1).trans s2) (fun y hy => hs y (.tail _ hy)) fun σ' hσ' => ?_
      have := h σ' hσ'
      rw [List.filter_cons_of_pos (by simpa using e)] at this
      simpa using this
    | false =>
      refine ih _ σ₁ (h0.trans s1) (fun y hy => hs y (.tail _ hy)) fun σ' hσ' => ?_
      have := h σ' hσ'
      rw [List.filter_cons_of_neg (by simp [e])] at this
      exact this
end
section
open PySem PySem.W PyProof.Rows
variable {g : Gr} {sc csc : Scope} {r : Nat} {c : Bool} {K : Frag}
theorem post_madeList {s : Shared} {σ : AH} {Q : V → AH → Prop} {h' : Heap} {tk : Nat} {b : Addr} {us : Array Value} {n : Nat} {xs : List V} (R : Rel g s.heap σ) (kp : ∀ a o, s.heap.get? a = some o → h'.get? a = some o) (hb : s.heap.get? b = none) (ho : h'.get? b = some { cls := .type "list", data := .seq us n }) (hf : Ym xs.length)
    (hv : VRs g h' xs us.toList) (hq : σ b = none → Q (.ref b) (σ.set b (.list xs))) : PostE g s σ Q (.ref b) { s with heap := h', toks := tk } :=
  ⟨.ref b, _, Yt.mpr rfl, R.alloc (ao := .list xs) kp hb ⟨hf, us, n, ho, hv⟩, .alloc kp hb, ⟨rfl, rfl, rfl⟩, hq (R.fresh hb)⟩
/-! ## list(range(n)) -/
noncomputable def Z0 (t : TE) : TE := fun ℓ σ Q E => t ℓ σ (fun x σ₁ => match x with | .int n => 0 ≤ n ∧ Ym n.toNat ∧ (∀ a, σ₁ a = none → Q (.ref a) (σ₁.set a (.list (Xw 0 n.toNat)))) | _ => False) E
theorem rangeV_VRs {h : Heap} {n : Nat} {acc : List Value} (hl : acc.length = n) (hv : ∀ (i : Nat) v, acc[i]? = some v → ∃ t, v = Value.int (i : Int) t) : VRs g h (Xw 0 n) acc := by
  have key : ∀ (acc : List Value) (k : Nat), (∀ (i : Nat) v, acc[i]? = some v → ∃ t, v = Value.int ((k + i : Nat) : Int) t) → VRs g h ((List.range' k acc.length).map fun (i : Nat) => V.int (i : Int)) acc := by
    intro acc
    induction acc with
    | nil => intro k _; exact Xs
    | cons a acc ih =>
      intro k h1
      rw [List.length_cons, List.range'_succ, List.map_cons]
      refine Y4 (Yl.mpr ?_) (ih (k + 1) fun i v e => ?_)
      · simpa using h1 0 a rfl
      · obtain ⟨t, q⟩ := h1 (i + 1) v (by simpa using e)
        exact ⟨t, by rw [q]; congr 1; omega⟩
  have := key acc 0 (by simpa using hv)
  rw [hl] at this
  unfold Xw
  rw [List.range_eq_range']
  simpa using this
theorem sndE_listRange {e : Expr} {p p' pos pos' : Pos} {t : TE} (hm : (Str.ofString "list", NameKind.globalImplicit) ∈ sc.names) (hb : Xi g "list" (.type "list")) (hm' : (Str.ofString "range", NameKind.globalImplicit) ∈ sc.names) (hb' : Xi g "range" (.type "range")) (h1 : Y5 g sc r true e t) (hs : isStar e = false) :
    Y5 g sc r true (.Call (.Name (Str.ofString "list") p) [.Call (.Name (Str.ofString "range") p') [e] [] pos'] [] pos) (Z0 t) := .mk fun A env s ℓ σ Q E X h => by
  show wpAny _ A (do callWith pos (← eval (.Name (Str.ofString "list") p) env) [] (backTo pos (starEach [.Call (.Name (Str.ofString "range") p') [e] [] pos'] env)) (backToKw pos (keywordEach [] env))) _ _ s
  refine wpAny_bind (Y7 X hm hb ?_)
  rw [Yx (es := []) env rfl]
  refine Xn (.inr (.inr ⟨_, rfl⟩)) rfl ?_
  show wpAny _ A (spliced [(false, eval (.Call (.Name (Str.ofString "range") p') [e] [] pos') env)]) _ _ s
  refine Calls.spliced_cons ?_
  show wpAny _ A (do callWith pos' (← eval (.Name (Str.ofString "range") p') env) [] (backTo pos' (starEach [e] env)) (backToKw pos' (keywordEach [] env))) _ _ s
  refine wpAny_bind (Y7 X hm' hb' ?_)
  rw [Yx (es := []) env hs]
  refine Xn (.inr (.inr ⟨_, rfl⟩)) rfl ?_
  show wpAny _ A (spliced [(false, eval e env)]) _ _ s
  refine Calls.spliced_cons (wpAny_mono (h1.run A env s ℓ σ _ E X h) (fun v s₁ p => ?_) fun _ _ p => p)
  refine X7.elim p fun x σ₁ hv hR hx hs1 hq => ?_
  refine Calls.spliced_nil ⟨fun a o e => hR.base a o e, ?_⟩
  cases x with
  | int n =>
    obtain ⟨t, rfl⟩ := Yl.mp hv
    refine call_range_1 ?_
    have kp := X9 s₁.heap { cls := .type "range", data := .fields #[.int 0 s₁.toks, .int n t, .int 1 (s₁.toks + 1)] }
    obtain ⟨h0, hf, hq⟩ := hq
    have hn : n.toNat ≤ 1000000 := hf
    have hR' := hR.keeps kp
    refine Calls.spliced_nil ⟨fun a o e => hR'.base a o e, ?_⟩
    refine call_list_range (n := n.toNat) (s := { s₁ with heap := s₁.heap.push { cls := .type "range", data := .fields #[.int 0 s₁.toks, .int n t, .int 1 (s₁.toks + 1)] }, toks := s₁.toks + 2 }) (X.room.calm rfl) (IsRange.new ..) (small_one (by decide) (by decide) (by omega) (by omega)) (by rw [rangeSize_one]; split <;> omega) (by omega) fun h' tk acc c' hk ho hacc => ?_
    have x1 : Ext No s.heap σ (s₁.heap.push { cls := .type "range", data := .fields #[.int 0 s₁.toks, .int n t, .int 1 (s₁.toks + 1)] }) σ₁ := hx.trans (.keeps kp)
    refine X7.back (s₁ := { s₁ with heap := s₁.heap.push { cls := .type "range", data := .fields #[.int 0 s₁.toks, .int n t, .int 1 (s₁.toks + 1)] }, toks := s₁.toks + 2 }) x1 (hs1.trans ⟨rfl, rfl, rfl⟩) ?_
    refine post_madeList (s := { s₁ with heap := s₁.heap.push { cls := .type "range", data := .fields #[.int 0 s₁.toks, .int n t, .int 1 (s₁.toks + 1)] }, toks := s₁.toks + 2 }) (xs := Xw 0 n.toNat) hR' hk (Yw _) ho (by simpa [Xw] using hf) (rangeV_VRs (by rw [Array.length_toList]; exact hacc.1) fun i v e => ?_) (hq _)
    obtain ⟨t, q⟩ := hacc.2 i v (by rw [← Array.getElem?_toList]; exact e)
    exact ⟨t, by rw [q]; congr 1; omega⟩
  | _ => exact hq.elim
/-! ## a list times an int -/
/-! ## a list backwards -/
/-! ## len(set(list of ints)) -/
end
section
open PySem PySem.W PyProof.Rows
variable {prog : Program} {w : World}
noncomputable def lex3 (a b : Int × Int × Int) : Bool := if a.1 = b.1 then (if a.2.1 = b.2.1 then decide (a.2.2 < b.2.2) else decide (a.2.1 < b.2.1)) else decide (a.1 < b.1)
theorem eqAt_int {A : Around} {s : Shared} (a b : Int) (t u : Tok) : SeqAt.EqAt A s (.int a t) (.int b u) (a == b) := SeqAt.EqAt.int_int a t b u
theorem tuple_lt {A : Around} {E : Value → Shared → Prop} {s : Shared} {Q : Value → Shared → Prop} {p q : Addr} {op oq : Obj} {xs ys : Array Value} {n m : Nat} {a b : Int × Int × Int} {t1 t2 t3 u1 u2 u3 : Tok} {x y : Value}
    (hp : s.heap.get? p = some op) (cp : op.cls = .type "tuple") (dp : op.data = .seq xs n) (hq : s.heap.get? q = some oq) (cq : oq.cls = .type "tuple") (dq : oq.data = .seq ys m)
    (hx : xs.toList = [.int a.1 t1, .int a.2.1 t2, .int a.2.2 t3, x]) (hy : ys.toList = [.int b.1 u1, .int b.2.1 u2, .int b.2.2 u3, y]) (he : a = b → SeqAt.EqAt A.in1 s x y true) (hu : A.units < cLine)
    (h : Q (.bool (lex3 a b)) s) : wpAny (model prog w) A (richCompare .Lt (.ref p) (.ref q)) Q E s := by
  refine wpAny_richCompare_same_room (op := .Lt) ⟨_, hp, cp⟩ ⟨_, hq, cq⟩ F.slot_tuple_lt (wpAny_call_entry F.slot_tuple_lt ⟨_, hp, cp⟩ F.entry_tuple_lt ?_ (F.args_tuple_lt_2 _ _)) hu
  show wpAny _ _ (isInstance (.ref q) (.type "tuple") >>= _) _ _ s
  refine wpAny_bind (wpAny_isInstance ⟨_, hq, cq⟩ isSubtype_tuple_tuple ?_)
  simp only [Bool.not_true, Bool.false_eq_true, if_false]
  refine wpAny_bind (wpAny_tupleItemsOf hp dp ?_)
  refine wpAny_bind (wpAny_tupleItemsOf hq dq ?_)
  rw [hx, hy]
  simp only [List.zip_cons_cons, List.zip_nil_left, List.forIn_cons, List.forIn_nil]
  have lt : ∀ {P : Value → Shared → Prop} {x y : Int} {t u : Tok}, P (.bool (decide (x < y))) s → wpAny (model prog w) A.in1 (richCompare .Lt (.int x t) (.int y u)) P E s := fun {P x y t u} hP =>
    richCompare_gives (op := .Lt) (typeIs_int s _ t) (typeIs_int s _ u) F.slot_int_lt F.entry_int_lt (F.args_int_lt_2 _ _) (gives_int_lt _ _ t u) (fun x => nomatch x) hP
  refine wpAny_bind (wpAny_bind (wpAny_bind (eqAt_int _ _ _ _ _ _ _ _ ?_)))
  by_cases h1 : a.1 = b.1
  case neg =>
    rw [if_pos (by simp [h1])]
    refine wpAny_bind (wpAny_rule (wpAny_bind (lt ?_)))
    refine wpAny_bind (wpAny_pure (wpAny_pure (wpAny_pure (wpAny_pure ⟨_, rfl, (fun e => nomatch e), ?_⟩))))
    unfold lex3 at h; rw [if_neg h1] at h; exact h
  case pos =>
    rw [if_neg (by simp [h1])]
    refine wpAny_pure (wpAny_bind (wpAny_bind (eqAt_int _ _ _ _ _ _ _ _ ?_)))
    by_cases h2 : a.2.1 = b.2.1
    case neg =>
      rw [if_pos (by simp [h2])]
      refine wpAny_bind (wpAny_rule (wpAny_bind (lt ?_)))
      refine wpAny_bind (wpAny_pure (wpAny_pure (wpAny_pure (wpAny_pure ⟨_, rfl, (fun e => nomatch e), ?_⟩))))
      unfold lex3 at h; rw [if_pos h1, if_neg h2] at h; exact h
    case pos =>
      rw [if_neg (by simp [h2])]
      refine wpAny_pure (wpAny_bind (wpAny_bind (eqAt_int _ _ _ _ _ _ _ _ ?_)))
      unfold lex3 at h; rw [if_pos h1, if_pos h2] at h
      by_cases h3 : a.2.2 = b.2.2
      case neg =>
        rw [if_pos (by simp [h3])]
        refine wpAny_bind (wpAny_rule (wpAny_bind (lt ?_)))
        exact wpAny_bind (wpAny_pure (wpAny_pure (wpAny_pure (wpAny_pure ⟨_, rfl, (fun e => nomatch e), h⟩))))
      case pos =>
        rw [if_neg (by simp [h3])]
        have hab : a = b := by
          obtain ⟨a1, a2, a3⟩ := a; obtain ⟨b1, b2, b3⟩ := b
          simp only at h1 h2 h3; rw [h1, h2, h3]
        refine wpAny_pure (wpAny_bind (wpAny_bind (he hab _ _ _ _ ?_)))
        rw [if_neg (by simp)]
        refine wpAny_pure (wpAny_pure ?_)
        have hsx : xs.size = 4 := by rw [← Array.length_toList, hx]; rfl
        have hsy : ys.size = 4 := by rw [← Array.length_toList, hy]; rfl
        show wpAny _ _ (ret (Builtin.Tuple.tupleCompareSizes .Lt xs.size ys.size)) _ _ _
        rw [hsx, hsy]
        refine wpAny_pure ⟨_, rfl, (fun e => nomatch e), ?_⟩
        rw [h3] at h
        simpa [Builtin.Tuple.tupleCompareSizes] using h
/-! ## the least of a list of tuples -/
section
variable {A : Around} {R : Result → Shared → Prop} {I : Addr} {fp wr : List Addr} {n : Nat} {P : Nat → Value → Prop} {St : Nat → Heap → Prop} {h0 : Heap}
noncomputable def KpAll (h0 h : Heap) : Prop := ∀ b o, h0.get? b = some o → h.get? b = some o
theorem min_loopH (W : Walks prog w A.in1 I fp wr n P St) (bt : Nat → Nat → Bool) (hwr : ∀ b ∈ wr, h0.get? b = none)
    (hcmp : ∀ i j vi vj (s : Shared) (Q : Value → Shared → Prop) (E : Value → Shared → Prop), P i vi → P j vj → KpAll h0 s.heap → Q (.bool (bt i j)) s → wpAny (model prog w) A.in1 (richCompare .Lt vi vj) Q E s) (S : Addr) (hSf : S ∉ fp) (hS0 : h0.get? S = none) :
    ∀ (k j : Nat) (s : Shared) (vb : Value) (c : Nat), n - (j + 1) = k → j + 1 ≤ n → St (j + 1) s.heap → KpAll h0 s.heap → P (argBest bt j) vb →
    s.heap.get? S = some { cls := .type "list", dict := none, data := .seq #[vb, vb] c, slots := #[] } →
    (∀ v h' tk, P (argBest bt (n - 1)) v → KpAll h0 h' → R (.ok (.ret v)) { s with heap := h', toks := tk }) →
    codeAny (model prog w) A (.builtin "min.loop" ⟨[.ref I, .none, .ref S], []⟩) R s := by
  have hSw : S ∉ wr := fun h => hSf (W.sub _ h)
  have hname : (toString "min" ++ toString ".loop" : String) = "min.loop" := by decide
  have kpI : ∀ {h h' : Heap}, KpAll h0 h → (∀ b o, b ∉ wr → h.get? b = some o → h'.get? b = some o) → KpAll h0 h' := fun {h h'} k q b o e => q b o (fun hb => by rw [hwr b hb] at e; cases e) (k b o e)
  have kpS : ∀ {h : Heap} {f}, KpAll h0 h → KpAll h0 (h.update S f) := fun {h f} k b o e => (Heap.get?_update_other _ _ (fun z : S = b => by rw [← z, hS0] at e; cases e)).trans (k b o e)
  intro k
  induction k with
  | zero =>
    intro j s vb c hk hj hst kp hPb hS hR
    have hin : j + 1 = n := by omega
    refine codeAny_builtin F.entry_min_loop ?_
    rw [Around.under_plainId F.plain_min_loop _]
    show wpAny _ A.in1 (seqItems? (.ref S) >>= _) _ _ s
    refine wpAny_bind (wpAny_seqItems hS rfl ?_)
    show wpAny _ A.in1 (tryCatch (pyNext (.ref I)) _ >>= _) _ _ s
    refine wpAny_bind (wpAny_tryCatch (W.done s _ _ (hin ▸ hst) fun h' tk hk' => ?_))
    have hS' := hk' S _ hSw hS
    show wpAny _ A.in1 (updateSeq S (fun _ => #[]) >>= _) _ _ _
    refine wpAny_bind ?_
    refine wpAny_updateSeq hS' rfl (wpAny_bind (wpAny_letGo (wpAny_pure ?_)))
    exact hR vb _ tk (by rw [← hin]; exact hPb) (kpS (kpI kp hk'))
  | succ k ih =>
    intro j s vb c hk hj hst kp hPb hS hR
    have hlt : j + 1 < n := by omega
    refine codeAny_builtin F.entry_min_loop ?_
    rw [Around.under_plainId F.plain_min_loop _]
    show wpAny _ A.in1 (seqItems? (.ref S) >>= _) _ _ s
    refine wpAny_bind (wpAny_seqItems hS rfl ?_)
    show wpAny _ A.in1 (tryCatch (pyNext (.ref I)) _ >>= _) _ _ s
    refine wpAny_bind (wpAny_tryCatch (W.item (j + 1) s _ _ hlt hst fun v h' tk hP hst' hk' => ?_))
    have hS' := hk' S _ hSw hS
    have kp' := kpI kp hk'
    show wpAny _ A.in1 (tryCatch (holding [v, v] (richCompare .Lt v vb >>= _)) _ >>= _) _ _ _
    refine wpAny_bind (wpAny_tryCatch (wpAny_holding (wpAny_bind (hcmp (j + 1) (argBest bt j) v vb _ _ _ hP hPb kp' ?_))))
    refine wpAny_bind (wpAny_holding (wpAny_truthy_bool ?_))
    refine wpAny_bind (wpAny_letGo (wpAny_pure ?_))
    cases hb : bt (j + 1) (argBest bt j) with
    | true =>
      simp only [if_true]
      refine wpAny_bind ?_
      refine wpAny_updateSeq hS' rfl (wpAny_bind (wpAny_letGo ?_))
      rw [hname]
      refine wpAny_pure ⟨plainId_quiet F.plain_min_loop _, ih (j + 1) _ v _ (by omega) hlt (W.frame _ _ _ hst' fun b hbf o e => ?_) (kpS kp') (by simp only [argBest, hb, if_true]; exact hP) (Heap.get?_update_self _ hS' rfl) fun v' h'' tk'' hP' hk'' => ?_⟩
      · exact (Heap.get?_update_other _ _ (fun h : S = b => hSf (by rw [h]; exact hbf))).trans e
      · exact hR v' h'' tk'' hP' hk''
    | false =>
      simp only [Bool.false_eq_true, if_false]
      refine wpAny_bind (wpAny_letGo ?_)
      rw [hname]
      refine wpAny_pure ⟨plainId_quiet F.plain_min_loop _, ih (j + 1) _ vb c (by omega) hlt hst' kp' (by simp only [argBest, hb, Bool.false_eq_true, if_false]; exact hPb) hS' fun v' h'' tk'' hP' hk'' => ?_⟩
      exact hR v' h'' tk'' hP' hk''
end
theorem call_minH {A : Around} {E : Value → Shared → Prop} {s : Shared} {l : Addr} {us : Array Value} (hh : A.handled = none) (hl : s.heap.IsList l us) (hne : 0 < us.size) (bt : Nat → Nat → Bool) {Q : Value → Shared → Prop}
    (hcmp : ∀ i j vi vj (s' : Shared) (Q : Value → Shared → Prop) (E : Value → Shared → Prop), us[i]? = some vi → us[j]? = some vj → KpAll s.heap s'.heap → Q (.bool (bt i j)) s' → wpAny (model prog w) A.in1 (richCompare .Lt vi vj) Q E s')
    (h : ∀ v h' tk, us[argBest bt (us.size - 1)]? = some v → KpAll s.heap h' → Q v { s with heap := h', toks := tk }) : wpAny (model prog w) A (call (.builtin "min") [.ref l]) Q E s := by
  have hname : (toString "min" ++ toString ".loop" : String) = "min.loop" := by decide
  have hlt : l < s.heap.objs.size := by obtain ⟨_, e, _⟩ := hl; exact Heap.lt_size e
  refine call_function_tree F.kind_min F.plain_min F.entry_min (F.args_min1 _) ?_
  show wpAny _ A.in1 (Builtin.Builtins.bindParams "min" ["key", "default"] 0 ⟨[], []⟩ >>= _) _ _ s
  refine wpAny_bind (wpAny_of_eq (show Builtin.Builtins.bindParams "min" ["key", "default"] 0 ⟨[], []⟩ = pure [none, none] from rfl) ?_)
  refine wpAny_bind (wpAny_pure ?_)
  refine wpAny_bind (wpAny_pyIter_list hl ?_)
  have W := Walks.list (prog := prog) (w := w) (A := A.in1) (by exact hh) s.heap.objs.size l (Nat.ne_of_lt hlt) us
  refine wpAny_bind (wpAny_newObj_type ?_)
  rw [hname]
  have kp1 := X9 s.heap { cls := .type "list_iterator", data := .fields #[.ref l, .int 0 0] }
  have st0 : (fun i h => Heap.IsListIter h s.heap.objs.size l i ∧ h.IsList l us) 0 (s.heap.push { cls := .type "list_iterator", data := .fields #[.ref l, .int 0 0] }) := ⟨⟨_, Heap.get?_push_size _ rfl, rfl, rfl⟩, hl.push _⟩
  have hsz : (s.heap.push { cls := .type "list_iterator", data := .fields #[.ref l, .int 0 0] }).objs.size = s.heap.objs.size + 1 := size_push' _ _
  have hSf : (s.heap.push { cls := .type "list_iterator", data := .fields #[.ref l, .int 0 0] }).objs.size ∉ [s.heap.objs.size, l] := by
    rw [hsz]; simp; exact fun q => by have h2 : s.heap.objs.size < s.heap.objs.size + 1 := Nat.lt_succ_self _; rw [q] at h2; exact Nat.lt_asymm hlt h2
  have kp2 := X9 (s.heap.push { cls := .type "list_iterator", data := .fields #[.ref l, .int 0 0] }) { cls := .type "list", data := .seq #[] }
  refine wpAny_pure ⟨plainId_quiet F.plain_min_loop _, ?_⟩
  refine codeAny_builtin F.entry_min_loop ?_
  rw [Around.under_plainId F.plain_min_loop _]
  show wpAny _ A.in1 (seqItems? (.ref (s.heap.push { cls := .type "list_iterator", data := .fields #[.ref l, .int 0 0] }).objs.size) >>= _) _ _ _
  refine wpAny_bind (wpAny_seqItems (Heap.get?_push_size _ rfl) rfl ?_)
  show wpAny _ A.in1 (tryCatch (pyNext (.ref s.heap.objs.size)) _ >>= _) _ _ _
  refine wpAny_bind (wpAny_tryCatch (W.item 0 _ _ _ hne (W.frame _ _ _ st0 fun b _ o e => kp2 b o e) fun v h' tk hP hst' hk' => ?_))
  have hS' := hk' (s.heap.push { cls := .type "list_iterator", data := .fields #[.ref l, .int 0 0] }).objs.size _ (by rw [hsz]; simp) (Heap.get?_push_size _ rfl)
  show wpAny _ A.in1 (updateSeq (s.heap.push { cls := .type "list_iterator", data := .fields #[.ref l, .int 0 0] }).objs.size (fun _ => #[v, v]) >>= _) _ _ _
  refine wpAny_bind ?_
  refine wpAny_updateSeq hS' rfl ?_
  rw [hname]
  have hS0 : s.heap.get? (s.heap.push { cls := .type "list_iterator", data := .fields #[.ref l, .int 0 0] }).objs.size = none := Heap.get?_none_of_le (by rw [hsz]; exact Nat.le_succ _)
  have kp3 : KpAll s.heap h' := fun b o e => hk' b o (by simp; exact Nat.ne_of_lt (Heap.lt_size e)) (kp2 b o (kp1 b o e))
  refine wpAny_pure ⟨plainId_quiet F.plain_min_loop _, min_loopH (h0 := s.heap) W bt (fun b hb => ?_) hcmp _ hSf hS0 _ 0 _ v _ rfl hne (W.frame _ _ _ hst' fun b hbf o e => ?_) (fun b o e => ?_) hP (Heap.get?_update_self _ hS' rfl) fun v' h'' tk'' hP' hk'' => ?_⟩
  · simp at hb; subst hb; exact Yw _
  · exact (Heap.get?_update_other _ _ (fun z => hSf (by rw [z]; exact hbf))).trans e
  · exact (Heap.get?_update_other _ _ (fun z => by rw [z] at hS0; rw [hS0] at e; cases e)).trans (kp3 b o e)
  · exact h v' h'' tk'' hP' hk''
variable {g : Gr} {sc : Scope} {r : Nat} {c : Bool}
noncomputable def quad (t : Int × Int × Int × Addr) : V := .tup [.int t.1, .int t.2.1, .int t.2.2.1, .ref t.2.2.2]
noncomputable def tri (t : Int × Int × Int × Addr) : Int × Int × Int := (t.1, t.2.1, t.2.2.1)
inductive MinTI (xs : List V) (σ : AH) (Q : V → AH → Prop) : Prop
  | mk (a : Addr) (es : List (Int × Int × Int × Addr)) (h1 : xs = [.ref a]) (h2 : σ a = some (.list (es.map quad))) (h3 : es ≠ []) (h4 : ∀ t ∈ es, ∃ ns : List Int, σ t.2.2.2 = some (.list (ns.map V.int)) ∧ ∀ t' ∈ es, tri t = tri t' → σ t'.2.2.2 = some (.list (ns.map V.int)))
    (h5 : ∀ t ∈ es, (∀ t' ∈ es, lex3 (tri t') (tri t) = false) → Q (quad t) σ) : MinTI xs σ Q
noncomputable def tMinT : TF := fun xs σ Q _ => MinTI xs σ Q
theorem lex3_iff {a b : Int × Int × Int} : lex3 a b = true ↔ a.1 < b.1 ∨ a.1 = b.1 ∧ (a.2.1 < b.2.1 ∨ a.2.1 = b.2.1 ∧ a.2.2 < b.2.2) := by
  unfold lex3
  by_cases h1 : a.1 = b.1
  · rw [if_pos h1]
    by_cases h2 : a.2.1 = b.2.1
    · rw [if_pos h2, decide_eq_true_iff]; exact ⟨fun h => .inr ⟨h1, .inr ⟨h2, h⟩⟩, fun h => by omega⟩
    · rw [if_neg h2, decide_eq_true_iff]; exact ⟨fun h => .inr ⟨h1, .inl h⟩, fun h => by omega⟩
  · rw [if_neg h1, decide_eq_true_iff]; exact ⟨.inl, fun h => by omega⟩
theorem lex3_not {a b : Int × Int × Int} : lex3 a b = false ↔ ¬ (a.1 < b.1 ∨ a.1 = b.1 ∧ (a.2.1 < b.2.1 ∨ a.2.1 = b.2.1 ∧ a.2.2 < b.2.2)) := by rw [← lex3_iff, Bool.not_eq_true]
theorem lex3_self (a : Int × Int × Int) : lex3 a a = false := lex3_not.2 (by omega)
theorem lex3_least (val : Nat → Int × Int × Int) : ∀ k i, i ≤ k → lex3 (val i) (val (argBest (fun i j => lex3 (val i) (val j)) k)) = false
  | 0, i, h => by have : i = 0 := by omega
                  subst this; exact lex3_self _
  | k + 1, i, h => by
    have ih := lex3_least val k
    unfold argBest
    split
    · rename_i q
      rcases Nat.lt_or_ge i (k + 1) with w | w
      · have h1 := lex3_not.1 (ih i (by omega))
        have h2 := lex3_iff.1 q
        exact lex3_not.2 (by omega)
      · have : i = k + 1 := by omega
        subst this; exact lex3_self _
    · rename_i q
      rcases Nat.lt_or_ge i (k + 1) with w | w
      · exact ih i (by omega)
      · have : i = k + 1 := by omega
        subst this
        exact Bool.eq_false_iff.2 q
theorem lex3_eq {a b : Int × Int × Int} (h1 : lex3 b a = false) (h2 : lex3 a b = false) : a = b := by
  have h1 := lex3_not.1 h1
  have h2 := lex3_not.1 h2
  exact Prod.ext (by omega) (Prod.ext (by omega) (by omega))
theorem quads_at {h : Heap} {es : List (Int × Int × Int × Addr)} {vs : List Value} (hv : VRs g h (es.map quad) vs) {i : Nat} {v : Value} (e : vs[i]? = some v) : ∃ t, es[i]? = some t ∧ ∃ a o us n t1 t2 t3, v = .ref a ∧ h.get? a = some o ∧ o.cls = .type "tuple" ∧ o.data = .seq us n ∧ us.toList = [.int (tri t).1 t1, .int (tri t).2.1 t2, .int (tri t).2.2 t3, .ref t.2.2.2] := by
  have hlen := Yb hv
  have hi : i < es.length := by
    rcases Nat.lt_or_ge i es.length with q | q
    · exact q
    · rw [List.getElem?_eq_none (by rw [← hlen]; simpa using q)] at e; cases e
  obtain ⟨u, e', hu⟩ := VRs_get hv (i := i) (x := quad es[i]) (by simp [hi])
  rw [e] at e'; cases e'
  refine ⟨es[i], by simp [hi], ?_⟩
  obtain ⟨_, a, o, us, n, rfl, _, ho, hc, hd, hvs⟩ := Wd.mp hu
  obtain ⟨u1, r1, q1, h1, hvs⟩ := Zv hvs
  obtain ⟨u2, r2, rfl, h2, hvs⟩ := Zv hvs; clear hvs
  obtain ⟨u3, r3, rfl, h3, hvs⟩ := Zv hvs; clear hvs
  obtain ⟨u4, r4, rfl, h4, hvs⟩ := Zv hvs; clear hvs
  rw [Yr hvs] at q1
  obtain ⟨t1, rfl⟩ := Yl.mp h1
  obtain ⟨t2, rfl⟩ := Yl.mp h2
  obtain ⟨t3, rfl⟩ := Yl.mp h3
  rw [Yt.mp h4] at q1
  exact ⟨a, o, us, n, t1, t2, t3, rfl, ho, hc, hd, q1⟩
theorem sndF_minT : SndF g r (.builtin "min") tMinT := .mk fun A s σ xs vs Q E G F Rm R hv h => by
  obtain ⟨a, es, rfl, ea, hne, hsame, h⟩ := h
  obtain ⟨v, _, rfl, hx, hr⟩ := Zv hv
  rw [Yr hr, Yt.mp hx]
  obtain ⟨hf, us, n, ho, hvs⟩ := (R.own a _ ea).2
  have hlen : es.length = us.size := by have := Yb hvs; simpa using this
  have hpos : 0 < us.size := by rw [← hlen]; exact List.length_pos_iff.mpr hne
  refine call_minH (Rm.calm rfl) ⟨_, ho, rfl, n, rfl⟩ hpos (fun i j => lex3 (tri (es.getD i (0, 0, 0, 0))) (tri (es.getD j (0, 0, 0, 0)))) (fun i j vi vj s' Q' E' hi hj kp hq => ?_) fun v h' tk hv' kp => ?_
  · obtain ⟨ti, ei, pa, po, pus, pn, t1, t2, t3, rfl, ho1, hc1, hd1, hl1⟩ := quads_at hvs (by rw [Array.getElem?_toList]; exact hi)
    obtain ⟨tj, ej, qa, qo, qus, qn, u1, u2, u3, rfl, ho2, hc2, hd2, hl2⟩ := quads_at hvs (by rw [Array.getElem?_toList]; exact hj)
    have di : es.getD i (0, 0, 0, 0) = ti := by rw [List.getD_eq_getElem?_getD, ei]; rfl
    have dj : es.getD j (0, 0, 0, 0) = tj := by rw [List.getD_eq_getElem?_getD, ej]; rfl
    rw [di, dj] at hq
    refine tuple_lt (kp _ _ ho1) hc1 hd1 (kp _ _ ho2) hc2 hd2 hl1 hl2 (fun e => ?_) (by have := Rm.cline; show A.units + 1 < _; omega) hq
    obtain ⟨ns, e1, e2⟩ := hsame ti (List.mem_of_getElem? ei)
    have e2 := e2 tj (List.mem_of_getElem? ej) e
    by_cases z : ti.2.2.2 = tj.2.2.2
    · rw [z]; exact SeqAt.EqAt.same _
    · obtain ⟨_, lu, ln, lo, lv⟩ := (R.own _ _ e1).2
      obtain ⟨_, mu, mn, mo, mv⟩ := (R.own _ _ e2).2
      have hi1 := intsAre_of lv
      have hi2 := intsAre_of mv
      have ll : lu.size = mu.size := by
        have h1 := Yb lv; have h2 := Yb mv
        simp at h1 h2; omega
      refine SeqAt.EqAt.of_refs z ?_
      have hall : (List.range lu.size).all (fun _ => true) = true := by simp
      rw [← hall]
      refine SeqAt.RcAt.lists ⟨_, kp _ _ lo, rfl, ln, rfl⟩ ⟨_, kp _ _ mo, rfl, mn, rfl⟩ ll (by have := Rm.cline; show A.units + 1 + 1 < _; omega) fun k h1 h2 => ?_
      obtain ⟨t, q1⟩ := VRs_ints lv k lu[k] (by simp [h1])
      obtain ⟨u, q2⟩ := VRs_ints mv k mu[k] (by simp [h2])
      rw [q1, q2]
      have := eqAt_int (A := A.in1.in1.in1) (s := s') (ns.getD k 0) (ns.getD k 0) t u
      simpa using this
  · obtain ⟨t, et, _⟩ := quads_at hvs (by rw [Array.getElem?_toList]; exact hv')
    have hb := argBest_le (fun i j => lex3 (tri (es.getD i (0, 0, 0, 0))) (tri (es.getD j (0, 0, 0, 0)))) (us.size - 1)
    obtain ⟨w, e', hw⟩ := VRs_get hvs (i := argBest (fun i j => lex3 (tri (es.getD i (0, 0, 0, 0))) (tri (es.getD j (0, 0, 0, 0)))) (us.size - 1)) (x := quad t) (by rw [List.getElem?_map, et]; rfl)
    rw [Array.getElem?_toList, hv'] at e'; cases e'
    refine .keeps kp ⟨rfl, rfl, rfl⟩ (VR.mono (fun a o _ _ _ e _ _ => .of (kp a o e)) hw) R (h t (List.mem_of_getElem? et) fun t' ht' => ?_)
    obtain ⟨i, hi, rfl⟩ := List.getElem_of_mem ht'
    have := lex3_least (fun i => tri (es.getD i (0, 0, 0, 0))) (us.size - 1) i (by omega)
    have d1 : es.getD (argBest (fun i j => lex3 (tri (es.getD i (0, 0, 0, 0))) (tri (es.getD j (0, 0, 0, 0)))) (us.size - 1)) (0, 0, 0, 0) = t := by rw [List.getD_eq_getElem?_getD, et]; rfl
    have d2 : es.getD i (0, 0, 0, 0) = es[i] := by simp [hi]
    simp only [d1, d2] at this
    exact this
end
section
open PySem PySem.W PyProof.Rows
variable {g : Gr} {sc csc : Scope} {r : Nat} {c : Bool} {K : Frag}
/-! ## dicts are made -/
noncomputable def tDict0 : TE := fun _ σ Q _ => ∀ a ep, σ a = none → Q (.ref a) (σ.set a (.dictI [] ep))
theorem sndE_dict0 {pos : Pos} : Y5 g sc r c (.Dict [] [] pos) tDict0 := .mk fun A env s ℓ σ Q E X h => by
  refine wpAny_Dict_empty ?_
  have kp := X9 s.heap { cls := .type "dict", data := .dict #[] }
  have hD : (s.heap.push { cls := .type "dict", data := .dict #[] }).DictOf (intKind g.prog g.w) s.heap.objs.size [] := Heap.DictOf.new s.heap
  obtain ⟨ep, hD⟩ := DictAt_of hD
  exact ⟨.ref s.heap.objs.size, σ.set s.heap.objs.size (.dictI [] ep), Yt.mpr rfl, X.rel.alloc kp (Yw _) ⟨by simp [Ym], [], hD, rfl, Xs⟩, .alloc kp (Yw _), ⟨rfl, rfl, rfl⟩, h _ _ (X.rel.fresh (Yw _))⟩
noncomputable def Unmoved (t : TE) : Prop := ∀ ℓ σ Q E, t ℓ σ Q E → ∃ x, Q x σ ∧ ∀ σ' (Q' : V → AH → Prop) E', Q' x σ' → t ℓ σ' Q' E'
theorem unmoved_const {x : V} : Unmoved (Zi x) := fun ℓ σ Q E h => ⟨x, h, fun _ _ _ q => q⟩
theorem AH.set_set {σ : AH} {a : Addr} {o p : AO} : (σ.set a o).set a p = σ.set a p := by
  funext b; unfold AH.set; split <;> rfl
noncomputable def tDict2 (k₁ v₁ k₂ v₂ : TE) : TE := fun ℓ σ Q E => k₁ ℓ σ (fun a σ₁ => v₁ ℓ σ₁ (fun x σ₂ => k₂ ℓ σ₂ (fun b σ₃ => v₂ ℓ σ₃ (fun y σ₄ => ∃ ka kb, a = .str ka ∧ b = .str kb ∧ ka ≠ kb ∧ ∀ d ep, σ₄ d = none → Q (.ref d) (σ₄.set d (.dictS [(ka, x), (kb, y)] ep))) E) E) E) E
theorem sndE_dict2 {e₁ e₂ e₃ e₄ : Expr} {pos : Pos} {k₁ v₁ k₂ v₂ : TE} (u1 : Unmoved k₁) (u2 : Unmoved v₁) (u3 : Unmoved k₂) (u4 : Unmoved v₂) (h1 : Y5 g sc r c e₁ k₁) (h2 : Y5 g sc r c e₂ v₁) (h3 : Y5 g sc r c e₃ k₂) (h4 : Y5 g sc r c e₄ v₂) :
    Y5 g sc r c (.Dict [some e₁, some e₃] [e₂, e₄] pos) (tDict2 k₁ v₁ k₂ v₂) := .mk fun A env s ℓ σ Q E X h => by
  obtain ⟨a, h, f1⟩ := u1 _ _ _ _ h
  obtain ⟨x, h, f2⟩ := u2 _ _ _ _ h
  obtain ⟨b, h, f3⟩ := u3 _ _ _ _ h
  obtain ⟨y, ⟨ka, kb, rfl, rfl, hne, h⟩, f4⟩ := u4 _ _ _ _ h
  refine wpAny_Dict_pairs (knd := strKind g.prog g.w) (pairs := [(eval e₁ env, do let x ← eval e₂ env; standAt pos; pure x), (eval e₃ env, do let x ← eval e₄ env; standAt pos; pure x)]) rfl (by simp) (by simp) ?_
  have kp := X9 s.heap { cls := .type "dict", data := .dict #[] }
  obtain ⟨ep, hD⟩ := DictAt_of (Heap.DictOf.new (knd := strKind g.prog g.w) s.heap)
  have off : σ s.heap.objs.size = none := X.rel.fresh (Yw _)
  have R0 : Rel g (s.heap.push { cls := .type "dict", data := .dict #[] }) (σ.set s.heap.objs.size (.dictS [] ep)) := X.rel.alloc kp (Yw _) ⟨by simp [Ym], [], hD, rfl, Xs⟩
  have x0 : Ext No s.heap σ (s.heap.push { cls := .type "dict", data := .dict #[] }) (σ.set s.heap.objs.size (.dictS [] ep)) := .alloc kp (Yw _)
  have X0 : Cx g sc r c A env ({ s with heap := s.heap.push { cls := .type "dict", data := .dict #[] } } : Shared).heap (σ.set s.heap.objs.size (.dictS [] ep)) ℓ := X.step R0 x0
  have key : ∀ {e : Expr} {t : TE} {v : V}, Y5 g sc r c e t → (∀ σ' (Q' : V → AH → Prop) E', Q' v σ' → t ℓ σ' Q' E') → ∀ {s₁ : Shared} {P : Value → Shared → Prop}, Cx g sc r c A env s₁.heap (σ.set s.heap.objs.size (.dictS [] ep)) ℓ →
      Ext No s.heap σ s₁.heap (σ.set s.heap.objs.size (.dictS [] ep)) → Xu s s₁ → (∀ u s₂, VR g s₂.heap v u → Cx g sc r c A env s₂.heap (σ.set s.heap.objs.size (.dictS [] ep)) ℓ → Ext No s₁.heap (σ.set s.heap.objs.size (.dictS [] ep)) s₂.heap (σ.set s.heap.objs.size (.dictS [] ep)) → Xu s s₂ → P u s₂) →
      wpAny (model g.prog g.w) A (eval e env) P (Wa g A s σ E) s₁ := fun {e t v} hS f {s₁ P} X1 x1 sm k => by
    refine wpAny_mono (hS.run A env s₁ ℓ _ (fun w σ'' => w = v ∧ σ'' = σ.set s.heap.objs.size (.dictS [] ep)) E X1 (f _ _ _ ⟨rfl, rfl⟩)) (fun u s₂ p => ?_) fun _ _ p => p.back x1 sm
    obtain ⟨w, σ₂, hv, hR, hx, hs, rfl, rfl⟩ := p
    exact k u s₂ hv (X1.step hR hx) hx (sm.trans hs)
  refine evalPairs_cons (key h1 f1 X0 x0 ⟨rfl, rfl, rfl⟩ fun va s₁ hva X1 y1 m1 => ?_)
  refine wpAny_bind (key h2 f2 X1 (x0.trans y1) m1 fun vx s₂ hvx X2 y2 m2 => wpAny_bind (wpAny_standAt (wpAny_pure ?_)))
  refine evalPairs_cons (key h3 f3 X2 ((x0.trans y1).trans y2) m2 fun vb s₃ hvb X3 y3 m3 => ?_)
  refine wpAny_bind (key h4 f4 X3 (((x0.trans y1).trans y2).trans y3) m3 fun vy s₄ hvy X4 y4 m4 => wpAny_bind (wpAny_standAt (wpAny_pure ?_)))
  refine evalPairs_nil ?_
  obtain ⟨fa, ta, rfl⟩ := Xp.mp hva
  obtain ⟨fb, tb, rfl⟩ := Xp.mp hvb
  have hvx4 := (y3.trans y4).vr X2.rel Xz hvx
  have e0 : (σ.set s.heap.objs.size (.dictS [] ep)) s.heap.objs.size = some (.dictS [] ep) := AH.set_same
  obtain ⟨_, us, hd, hk, _⟩ := (X4.rel.own _ _ e0).2
  have hus : us = [] := by cases us with | nil => rfl | cons _ _ => simp at hk
  subst hus
  refine ⟨[(ka, vx), (kb, vy)], ⟨strKind_is _ _ ka ta, rfl, strKind_is _ _ kb tb, rfl, trivial⟩, hd.dictOf, fun h' hd' sb => ?_⟩
  have hm : merged ([] : List (Str × Value)) [(ka, vx), (kb, vy)] = [(ka, vx), (kb, vy)] := by
    simp [merged, stored, hne]
  rw [hm] at hd'
  obtain ⟨ep', hd'⟩ := DictAt_of hd'
  have tk : Y8 g s₄.heap h' := fun z o us m _ q cc d => by
    obtain ⟨o₀, e₀, c₀⟩ := OR_some (X4.rel.own _ _ e0).2
    refine .of (sb.extBut z o (fun w => ?_) q)
    subst w; rw [e₀] at q; cases q; exact c₀ _ _ cc d
  have hor : OR g h' s.heap.objs.size (.dictS [(ka, x), (kb, y)] ep') := ⟨by simp [Ym], _, hd', rfl, Y4 (VR.mono tk hvx4) (Y4 (VR.mono tk hvy) Xs)⟩
  have pr : ∃ o, h'.get? s.heap.objs.size = some o := let ⟨o, q, _⟩ := OR_some hor; ⟨o, q⟩
  have R5 := X4.rel.upd e0 sb hor
  have x5 : Ext No s₄.heap (σ.set s.heap.objs.size (.dictS [] ep)) h' ((σ.set s.heap.objs.size (.dictS [] ep)).set s.heap.objs.size (.dictS [(ka, x), (kb, y)] ep')) := .upd e0 sb pr
  rw [AH.set_set] at R5 x5
  exact ⟨.ref _, _, Yt.mpr rfl, R5, ((((x0.trans y1).trans y2).trans y3).trans y4).trans x5, m4.trans ⟨rfl, rfl, rfl⟩, h _ _ off⟩
variable {g : Gr} {sc csc : Scope} {r : Nat} {c : Bool} {K : Frag}
/-! ## dict.pop -/
/-! ## sorted -/
noncomputable def keysInts (x : V) (σ : AH) : Option (List Int) := match x with
  | .ref a => match σ a with
    | some (.list xs) => intsV xs
    | some (.dictI kvs _) => some (kvs.map (·.1))
    | _ => none
  | _ => none
noncomputable def tSorted : TF := fun xs σ Q _ => match xs with
  | [x] => match keysInts x σ with
    | some ns => ns.length < 64 ∧ ∀ (ns' : List Int) b, ns'.Perm ns → ns'.Pairwise (· ≤ ·) → σ b = none → Q (.ref b) (σ.set b (.list (ns'.map V.int)))
    | none => False
  | _ => False
theorem VRs_of_ints {h : Heap} : ∀ {vs : List Value} {ns : List Int}, IntsAre vs ns → VRs g h (ns.map V.int) vs := fun {vs ns} a => by
  induction a with
  | nil => exact Xs
  | cons n t _ ih => exact Y4 (Yl.mpr ⟨t, rfl⟩) ih
theorem intsAre_keys {us : List (Int × Value)} {P : Nat → Value → Prop} : ∀ (vs : List Value) (ks : List Int), vs.length = ks.length → (∀ (i : Nat) (v : Value), vs[i]? = some v → ∃ k, ks[i]? = some k ∧ ∃ t, v = Value.int k t) → IntsAre vs ks
  | [], [], _, _ => .nil
  | [], _ :: _, h, _ => by simp at h
  | _ :: _, [], h, _ => by simp at h
  | v :: vs, k :: ks, h, q => by
    obtain ⟨k', e, t, rfl⟩ := q 0 v rfl
    simp at e; subst e
    exact .cons _ t (intsAre_keys (us := us) (P := P) vs ks (by simpa using h) fun i v e => by simpa using q (i + 1) v (by simpa using e))
variable {g : Gr} {sc csc : Scope} {r : Nat} {c : Bool} {K : Frag}
theorem sndF_sorted : SndF g r (.builtin "sorted") tSorted := .mk fun A s σ xs vs Q E G F Rm R hv h => by
  match xs, hv, h with
  | [x], hv, h =>
    obtain ⟨v, _, rfl, hx, hr⟩ := Zv hv
    rw [Yr hr]
    simp only [tSorted] at h
    split at h
    · rename_i ns e
      obtain ⟨h64, h⟩ := h
      have hfit : ∀ ns' : List Int, ns'.Perm ns → Ym (ns'.map V.int).length := fun ns' p => by rw [List.length_map, p.length_eq]; unfold Ym; omega
      cases x with
      | ref a =>
        rw [Yt.mp hx]
        simp only [keysInts] at e
        split at e
        · rename_i ys q
          obtain ⟨_, us, n, ho, hvs⟩ := (R.own a _ q).2
          rw [intsV_get e] at hvs
          have hI := intsAre_of hvs
          refine sorted_ints (vs := us.toList) ⟨_, ho, rfl, n, by simp⟩ hI (by have := Yb hvs; simp at this ⊢; omega) fun out ns' a1 a2 a3 => ?_
          obtain ⟨e', he⟩ := sortedAll_at s.heap us.toList out
          exact post_madeList (tk := s.toks) R (fun _ _ => sortedAll_old) (Heap.get?_none_of_le (Nat.le_succ _)) he (hfit _ a2) (VRs_of_ints a1) fun f => h ns' _ a2 a3 f
        · rename_i kvs ep q
          cases e
          obtain ⟨hf, us, hd, hk, hvs⟩ := (R.own a _ q).2
          have hlen : kvs.length = us.length := by have := congrArg List.length hk; simpa using this.symm
          refine Calls.call_function_entry kind_sorted plain_sorted entry_sorted (args_sorted1 _) ?_
          unfold Builtin.«sorted»
          refine wpAny_bind (m := checkCount "sorted" 1 1 _) (wpAny_pure ?_)
          refine wpAny_bind (kdu_collect (A := A.in1) (kdl_dict (knd := intKind g.prog g.w) (kvs := us) (ep := ep) (sysMod_ne G R q)) (by show A.handled = none; exact Rm.calm rfl) hd (by rw [← hlen]; exact hf.line) fun h' tk acc hkp hacc => ?_)
          have hl : acc.toList.length = us.length := by rw [Array.length_toList]; exact hacc.1
          have h64' : acc.toList.length < 64 := by rw [hl, ← hlen]; simpa using h64
          refine wpAny_bind (wpAny_newList ?_ (by rw [hl, ← hlen]; exact hf.line))
          have hI : IntsAre acc.toList (kvs.map (·.1)) := by
            refine intsAre_keys (us := us) (P := fun _ _ => True) _ _ (by rw [hl, ← hlen]; simp) fun i v e => ?_
            obtain ⟨k, x, e1, e2⟩ := hacc.2 i v (by rw [← Array.getElem?_toList]; exact e)
            refine ⟨k, ?_, ?_⟩
            · rw [← hk, List.getElem?_map, e1]; rfl
            · cases v <;> simp [PySem.intKind, Value.isInt] at e2
              exact ⟨_, by rw [e2]⟩
          have hoL : (h'.push (seqObj "list" acc.toList.toArray 0)).get? h'.objs.size = some (seqObj "list" acc.toList.toArray 0) := Heap.get?_push_size _ rfl
          refine wpAny_bind (wpAny_holding (wpAny_call_entry slot_list_sort ⟨_, hoL, rfl⟩ entry_list_sort (list_sort_tree hoL hI h64' fun out ns' a1 a2 a3 => ⟨_, rfl, ?_⟩) (args_list_sort _)))
          refine wpAny_pure ⟨_, rfl, ?_⟩
          obtain ⟨e', he⟩ := sortedHeap_at (out := out) hoL
          refine post_madeList R (fun b o q => ?_) ?_ he (hfit _ a2) (VRs_of_ints a1) fun f => h ns' _ a2 a3 f
          · have hb := Heap.lt_size (hkp b o q)
            rw [sortedHeap_old (Nat.ne_of_lt hb) (by rw [size_push']; exact Nat.lt_succ_of_lt hb), Heap.get?_push_ne _ _ _ (Nat.ne_of_lt hb)]
            exact hkp b o q
          · cases w : s.heap.get? h'.objs.size with
            | none => rfl
            | some o => exact absurd (Heap.lt_size (hkp _ o w)) (Nat.lt_irrefl _)
        · cases e
      | _ => cases e
    · exact h.elim
  | [], _, h => exact h.elim
  | _ :: _ :: _, _, h => exact h.elim
end
section
open PySem PyProof.Rows
variable {g : Gr} {sc : Scope} {r : Nat} {c : Bool}
/-! ## raising -/
inductive ExcC (g : Gr) (C : Addr) : Prop
  | mk (nm q : Str) (N : Addr) (bs bm : List Value) (hdct : Bool) (sn : List Str) (sub : List Value) (ab : Bool) (col : Option Bool) (dd : Option Addr) (k0 k1 k2 k3 k5 : Option Value) (mN : Str → Option Value)
    (ho : g.b0.get? C = some (excClassObj nm q C N bs bm hdct sn sub ab col dd k0 k1 k2 k3 k5 "ValueError.__new__")) (hn : g.b0.Ns N mN) (hi : mN "__init__" = none)
    (ht : OwnTail g.b0 [.type "ValueError", .type "Exception", .type "BaseException", .type "object"] bm) : ExcC g C
noncomputable def tRaise (C : Addr) (ts : TL) : TS := fun ℓ σ Q E => ts ℓ σ (fun vs σ' => vs.length ≤ 1000 ∧ E C ℓ σ') fun C' σ' => E C' ℓ σ'
theorem sndS_raise {n : String} {C : Addr} {np cpos pos : Pos} {args : List Expr} {ts : TL} (hm : (Str.ofString n, NameKind.globalImplicit) ∈ sc.names) (hn : Xi g n (.ref C)) (hC : ExcC g C) (hL : SndL g sc r true args ts) (hp : Plain args) :
    SndS g sc r true (.Raise (some (.Call (.Name (Str.ofString n) np) args [] cpos)) none pos) (tRaise C ts) := .mk fun A env s ℓ σ Q E X h => by
  obtain ⟨nm, q, N, bs, bm, hdct, sn, sub, ab, col, dd, k0, k1, k2, k3, k5, mN, ho, hN, hi, ht⟩ := hC
  refine wpAny_Raise_call_subU (mN := mN) (nm := nm) (q := q) (N := N) (bs := bs) (bm := bm) (hdct := hdct) (sn := sn) (sub := sub) (ab := ab) (col := col) (dd := dd) (k0 := k0) (k1 := k1) (k2 := k2) (k3 := k3) (k5 := k5) PySem.F.excBase_ValueError (by decide) PySem.F.excBase_ValueError (ht.hasType (by decide)) (X.room.calm rfl) (Wr hp cpos env) hi (Y7 X hm hn ⟨rfl, ?_⟩)
  refine evalArgs_ok (Wr hp cpos env) (wpAny_mono (hL.run A env cpos s ℓ σ _ _ X h) (fun vs s₁ p => ?_) fun _ _ p => p.toS X)
  refine X7.elim p fun xs σ₁ hv hR hx hs hq => ?_
  refine ⟨rfl, ?_, hR.base _ _ ho, hN.at' fun o e => hR.base _ o e, ht.keeps hR.base, fun h' e hm => ?_⟩
  · have := Yb hv; have := hq.1; show vs.length ≤ sizeLine; have e : sizeLine = 16777216 := rfl; omega
  · obtain ⟨t, he, htn, _⟩ := hm.there
    have hk := hm.keeps
    have b0 : g.b0.get? e = none := by
      cases q : g.b0.get? e with
      | none => rfl
      | some o => have := hm.new; rw [hR.base e o q] at this; cases this
    have s0 : s.heap.get? e = none := by
      cases q : s.heap.get? e with
      | none => rfl
      | some o => obtain ⟨o', z⟩ := hx.pres e o q; have := hm.new; rw [z] at this; cases this
    refine ⟨C, ℓ, σ₁, ⟨e, _, _, rfl, s0, b0, hR.fresh hm.new, he, rfl, rfl, rfl, by simp, .inl ⟨rfl, rfl⟩⟩, (X.loc.step X.rel hx).step hR (.keeps hk), hR.keeps hk, (hx.trans (.keeps hk)).own, hs.trans ⟨rfl, rfl, rfl⟩, hq.2⟩
/-! ## trying -/
theorem Room.marked {A : Around} {r : Nat} {c : Bool} {v : Option Value} (x : Room A r c) : Room (A.mark v) r false := ⟨x.depth, x.units, fun h => nomatch h⟩
noncomputable def tTryAs (n : String) (P : Addr → Prop) (tb th : TS) : TS := fun ℓ σ Q E => tb ℓ σ Q fun C ℓ' σ' => P C ∧ ∀ a, σ' a = none → th (ℓ'.set n (.ref a)) (σ'.set a (.exc C)) (fun f _ σ'' => Q f Loc.empty σ'') fun _ _ _ => False
section
variable {A : Around} {env : Env} {s : Shared} {σ : AH} {ℓ : Loc}
theorem LR.claim {h : Heap} {a : Addr} {ao : AO} (L : LR g h σ env ℓ) (k : ∀ b, Own env b → b ≠ a) : LR g h (σ.set a ao) env ℓ :=
  ⟨L.ns, L.cell, L.cells, ⟨(if_neg (k _ (.inl rfl))).trans L.off.1, L.off.2⟩, fun x c e => ⟨(if_neg (k c (.inr ⟨x, e⟩))).trans (L.offc x c e).1, (L.offc x c e).2⟩, L.apart, L.has⟩
theorem FrOk.claim {h : Heap} {a : Addr} {ao : AO} (F : FrOk g A env h σ) (k : ∀ o es n, h.get? a = some o → o.data ≠ .dict es n) : FrOk g A env h (σ.set a ao) := by
  obtain ⟨e0, outer, hA, hf, ff, off, r1, r2, r3, r4⟩ := F
  obtain ⟨k1, k2⟩ := frames_step (W := No) (h' := h) (σ' := σ.set a ao) (fun b o es n e d q => ⟨(if_neg fun z : b = a => k o es n (z ▸ e) d).trans q, o, es, n, e, d⟩) _ ff off
  exact ⟨e0, outer, hA, hf, k1, k2, r1, r2, r3, r4⟩
theorem locals_gone {h h' : Heap} {m' : Str → Option Value} (L : LR g h σ env ℓ) (R : Rel g h σ) (hn : h'.Ns env.locals m') (sb : Heap.SameBut env.locals h h') : LR g h' σ env Loc.empty ∧ Rel g h' σ ∧ Ext (Own env) h σ h' σ ∧ Y8 g h h' := by
  have w : Own env env.locals := .inl rfl
  have pr : ∃ o, h'.get? env.locals = some o := let ⟨o, _, _, e, _⟩ := hn; ⟨o, e⟩
  have tk : Y8 g h h' := fun d o vs m _ y t dd => .of ((sb.2 d fun z => L.noSeq d o (by rw [z]; exact w) y vs m dd).trans y)
  refine ⟨⟨⟨m', hn, fun n v e => (nomatch e)⟩, fun y cc e => ?_, fun n v e => (nomatch e), L.off, L.offc, L.apart, L.has⟩, ⟨fun b hb => ?_, fun b o q => (sb.2 b fun z => ?_).trans (R.base b o q), fun b bo q => ⟨(R.own b bo q).1, OR_mono tk (fun o y => (sb.2 b fun z => ?_).trans y) (R.own b bo q).2⟩⟩,
    ⟨fun b o q _ nw => .of ((sb.2 b fun z => nw (z ▸ w)).trans q), fun b o q => ?_, fun b q => .inl q⟩, tk⟩
  · obtain ⟨o, u, ho, hd⟩ := L.cell y cc e
    exact ⟨o, u, (sb.2 cc (L.offc y cc e).2.1).trans ho, hd⟩
  · by_cases z : b = env.locals
    · rw [z]; exact pr
    · obtain ⟨o, q⟩ := R.hid b hb; exact ⟨o, (sb.2 b z).trans q⟩
  · rw [z, L.off.2] at q; cases q
  · rw [z, L.off.1] at q; cases q
  · by_cases z : b = env.locals
    · rw [z]; exact pr
    · exact ⟨o, (sb.2 b z).trans q⟩
end
theorem sndS_tryAs {K : W.Frag} {T : Addr} {n m : String} {P : Addr → Prop} {body suite : List Stmt} {b₀ : Stmt} {np hpos pos : Pos} {tb th : TS} (hK : K.In g.b0) (hm : (Str.ofString n, NameKind.globalImplicit) ∈ sc.names) (hn : Xi g n (.ref T)) (hP : ∀ C, P C → W.exmOne K (.ref C) (.ref T) = some true)
    (hl : (Str.ofString m, NameKind.local) ∈ sc.names) (hb : SndSs g sc r c body tb) (hs : SndSs g sc r false (b₀ :: suite) th) : SndS g sc r c (.Try body [.ExceptHandler (some (.Name (Str.ofString n) np)) (some (Str.ofString m)) (b₀ :: suite) hpos] [] [] pos) (tTryAs m P tb th) := .mk fun A env s ℓ σ Q E X h => by
  refine wpAny_Try_except (wpAny_mono (hb.run A env s ℓ σ Q _ X h) (fun f s₁ p => ?_) fun e s₁ p => ?_)
  · cases f with
    | next => exact wpAny_execs_nil p
    | _ => exact p
  · obtain ⟨C, ℓ', σ', hX, hL, hR, hx, hsm, hPC, hth⟩ := p
    refine note_ok (X.fr.step hx (X.loc.dicts hL)) hR hx.pres hX fun s₂ t2 x2 hs2 => flight_ok x2 fun s₃ t3 x3 hs3 => ?_
    obtain ⟨a, o, vs, rfl, x0, xb, xs, xo, xc, xn, xd, xz, xt⟩ := id x3
    have L3 := t3.loc (t2.loc hL)
    have R3 := t3.rel (t2.rel hR)
    have e3 := t3.ext (t2.ext hx)
    have X3 : Cx g sc r false (A.mark (some (.ref a))) env s₃.heap σ' ℓ' := ⟨X.gok, X.ok, L3, X.fr.step e3 (X.loc.dicts L3), X.room.marked, R3⟩
    refine wpAny_handleBy_cons (codeAny_handlers_test (Y7 X3 hm hn ?_)) (by intro q; cases q)
    have LT : W.Looks (model g.prog g.w) s₃.heap (typeOf (.ref a)) (.ref C) := xc ▸ (W.Looks.ld xo).andThen .now
    refine (W.exm_one (hK.keeps fun b o e => R3.base b o e) LT (hP C hPC)).here ?_
    refine codeAny_handlers_suite_as (flight_ok x3 fun s₄ t4 x4 hs4 => ?_)
    obtain ⟨a', o4, vs4, ea, x0', xb', xs', xo4, xc4, xn4, xd4, xz4, _⟩ := x4
    cases ea
    have e4 := t4.ext e3
    have L4 := t4.loc L3
    have R4 := t4.rel R3
    have nown : ∀ b, Own env b → b ≠ a := fun b w z => by obtain ⟨o', q, d⟩ := L4.noFields w; rw [z, xo4] at q; cases q; exact d _ xd4
    have R5 : Rel g s₄.heap (σ'.set a (.exc C)) := R4.claim xb' ⟨o4, vs4, xo4, xc4, xn4, xd4⟩
    have L5 : LR g s₄.heap (σ'.set a (.exc C)) env ℓ' := L4.claim nown
    have e5 : Ext (Own env) s.heap σ s₄.heap (σ'.set a (.exc C)) := ⟨e4.keep, e4.pres, fun b q => by
      by_cases z : b = a
      · exact .inr (z ▸ x0)
      · rw [AH.set_other z] at q; exact e4.dom b q⟩
    have F5 : FrOk g A env s₄.heap (σ'.set a (.exc C)) := (X.fr.step e4 (X.loc.dicts L4)).claim fun o' es n e d => by rw [xo4] at e; cases e; rw [xd4] at d; cases d
    have X5 : Cx g sc r false (A.mark (some (.ref a))) env s₄.heap (σ'.set a (.exc C)) ℓ' := ⟨X.gok, X.ok, L5, F5, X.room.marked, R5⟩
    refine store_ok X5 hl rfl (Yt.mpr rfl) fun s₆ b _ _ w hL6 hR6 hx6 hs6 => ?_
    have e6 := e5.trans (hx6.weaken fun b' z => z ▸ w)
    have X6 : Cx g sc r false (A.mark (some (.ref a))) env s₆.heap (σ'.set a (.exc C)) (ℓ'.set m (.ref a)) := X5.stepS hL6 hR6 (hx6.weaken fun b' z => z ▸ w)
    have sm6 : Xu s s₆ := ((((hsm.trans hs2).trans hs3).trans hs4).trans hs6)
    have kd : env.kindOf (Str.ofString m) = some .local := by
      rcases X.ok.kinds _ _ hl with q | ⟨q, _⟩
      · exact q
      · cases q
    refine wpAny_mono (hs.run (A.mark (some (.ref a))) env s₆ _ _ _ _ X6 (hth a xs)) (fun f s₇ p => ?_) fun _ _ p => ?_
    · obtain ⟨f', ℓ7, σ7, hf, hL7, hR7, hx7, hs7, hq⟩ := p
      obtain ⟨mm, hnm, _⟩ := hL7.ns
      refine wpAny_nameGoes kd hnm (by rw [X.ok.kind]; rfl) fun h' m' hn' sb => ?_
      obtain ⟨L8, R8, x8, tk8⟩ := locals_gone hL7 hR7 hn' sb
      refine ⟨f', Loc.empty, σ7, ?_, L8, R8, (e6.trans hx7).trans x8, (sm6.trans hs7).trans ⟨rfl, rfl, rfl⟩, hq⟩
      cases f' with
      | ret v => obtain ⟨u, rfl, hu⟩ := hf; exact ⟨u, rfl, VR.mono tk8 hu⟩
      | _ => exact hf
    · obtain ⟨_, _, _, _, _, _, _, _, z⟩ := p
      exact z.elim
end
section
open PySem PySem.W PyProof.Rows
variable {g : Gr} {sc : Scope} {r : Nat} {c : Bool}
section
variable {prog : Program} {w : World} {A : Around} {E : Value → Shared → Prop} {s : Shared} {K : Frag} {x C : Addr}
structure ExcK (K : Frag) (C : Addr) : Prop where
  ga : findIn K (.ref C) "__getattribute__" = some (some (.builtin "BaseException.__getattribute__"))
  gt : findIn K (.ref C) "__getattr__" = some none
  cl : findIn K (.ref C) "__class__" = some (some (.builtin "object.__class__"))
  mb : mroIn K C (.type "BaseException") = some true
  mo : mroIn K C (.type "object") = some true
  is : (clsIn K C).isSome = true
theorem ExcObj.inst {h : Heap} (o : ExcObj h x C) : ∃ ox, InstAt h x ox C none := by
  obtain ⟨ox, vs, e, hc, hn, hd⟩ := o
  refine ⟨ox, e, hc, ?_, ?_⟩
  · unfold notCls; rw [hd]
  · rw [hn]; trivial
theorem exc_ga {M : Model} {nameV : Value} {Q : Unit → Shared → Prop} (X : K.In s.heap) (Z : ExcK K C) (o : ExcObj s.heap x C) (hq : Q () s) : wpAny M A (checkBuiltinCall "BaseException.__getattribute__" ⟨[.ref x, nameV], []⟩) Q E s := by
  obtain ⟨ox, I⟩ := o.inst
  have hk : builtinKind "BaseException.__getattribute__" = some .slot := by decide +kernel
  have hsplit : splitId "BaseException.__getattribute__" = some ("BaseException", "__getattribute__") := by decide +kernel
  have ha := F.args_bexc_ga (.ref x) nameV
  obtain ⟨hh, gg, dr, t, os⟩ := s
  have L0 := I.type (M := M)
  have L1 := looks_mroIn (M := M) X Z.mb
  simp only [checkBuiltinCall, hk, hsplit]
  refine wpAny_bind ?_
  unfold isInstance
  repeat (first | lk | wp_step)
  exact hq
theorem exc_entry {tk : Tok} {Q : Fin → Shared → Prop} (X : K.In s.heap) (Z : ExcK K C) (o : ExcObj s.heap x C) (hq : Q (.done (.ret (.ref C))) s) :
    wpAny (model prog w) A (Builtin.«object.__getattribute__» ⟨[.ref x, .str "__class__" tk], []⟩) Q E s := by
  obtain ⟨ox, I⟩ := o.inst
  have hT5 : s.TypeIs (.builtin "object.__class__") "getset_descriptor" := F.typeOf_object_class
  have f5 := F.typeOf_object_class
  have f6 := F.slot_gs_get.lookup
  have f7 := F.slot_gs_set.lookup
  obtain ⟨hh, gg, dr, t, os⟩ := s
  have L0 := I.type (M := model prog w)
  have L1 := looks_findIn (M := model prog w) X Z.cl
  repeat (any_goals (first | assumption | with_reducible refine L0.here ?_ | with_reducible refine L1.here ?_ | wp_step))
  refine class_get X I Z.mo ?_
  repeat (any_goals (first | assumption | wp_step))
theorem exc_by {tk : Tok} {Q : Value → Shared → Prop} (X : K.In s.heap) (Z : ExcK K C) (o : ExcObj s.heap x C) (hq : Q (.ref C) s) : wpAny (model prog w) A (getAttrBy (.ref x) (.str "__class__" tk) false) Q E s := by
  obtain ⟨ox, I⟩ := o.inst
  have f3 := F.excAttr_ValueError.ga.bind (.ref x)
  have hx2 : (Value.builtin "BaseException.__getattribute__" == Value.builtin "object.__getattribute__") = false := by decide +kernel
  have hx1 : (onTheHeap (Value.ref C) && Value.builtin "BaseException.__getattribute__" == Value.builtin "object.__getattribute__") = false := by rw [hx2]; rfl
  obtain ⟨hh, gg, dr, t, os⟩ := s
  have L0 := I.type (M := model prog w)
  have L1 := looks_findIn (M := model prog w) X Z.ga
  have L2 := looks_findIn (M := model prog w) X Z.gt
  repeat (any_goals (first | assumption | with_reducible refine L0.here ?_ | with_reducible refine L1.here ?_ | with_reducible refine L2.here ?_ | wp_step))
  refine codeAny_call_builtin F.excAttr_ValueError.ga.plain F.entry_bexc_ga (exc_ga X Z o (exc_entry X Z o ?_))
  repeat (any_goals (first | assumption | wp_step))
theorem exc_class {Q : Option Value → Shared → Prop} (X : K.In s.heap) (Z : ExcK K C) (o : ExcObj s.heap x C) (hq : Q (some (.ref C)) { s with toks := s.toks + 1 }) : wpAny (model prog w) A (getAttr? (.ref x) "__class__") Q E s := by
  obtain ⟨hh, gg, dr, t, os⟩ := s
  unfold getAttr? getAttrBy?
  refine wpAny_bind (wpAny_mkText (wpAny_bind (wpAny_attempt (exc_by (s := ⟨hh, gg, dr, t + 1, os⟩) X Z o ?_))))
  exact wpAny_pure hq
theorem kitx_exc (Z : ExcK K C) : KitX K (.ref x) (.ref C) (fun h => ExcObj h x C) where
  ty := fun _ _ _ o => let ⟨ox, I⟩ := o.inst; I.type
  it := fun _ _ X _ => by
    have hc := Z.is
    unfold clsIn at hc
    split at hc
    · rename_i c' d' cd' sl' ho
      intro A' Q' E' s' k q
      unfold isType loadHead
      exact wpAny_bind (wpAny_loadPart (k _ _ (X _ _ ho)) (wpAny_pure q))
    · cases hc
  ne := fun h tp dd its n sl X htp => by
    have hc := Z.is
    refine Bool.eq_false_iff.mpr fun q => ?_
    have e : C = tp := Value.ref.inj (beq_iff_eq.mp q)
    subst e
    unfold clsIn at hc
    split at hc
    · rename_i c' d' cd' sl' ho
      have z := (X _ _ ho).symm.trans htp
      cases z
    · cases hc
  ca := fun X o k => exc_class X Z o k
end
/-! ## isinstance of an exception -/
theorem isC_ok {K : Frag} {C : Addr} {b : Bool} {A : Around} {E : Value → Shared → Prop} {s : Shared} {σ : AH} {Q : V → AH → Prop} {a : Addr} {cv : Value} (hK : K.In g.b0) (Z : ExcK K C) (R : Rel g s.heap σ) (e : σ a = some (.exc C)) (hk : kitOne K (.ref C) cv = some b) (h : Q (.bool b) σ) :
    wpAny (model g.prog g.w) A (call (.builtin "isinstance") [.ref a, cv]) (PostE g s σ Q) E s :=
  kia_one (kitx_exc Z) (hK.keeps fun b o e => R.base b o e) (R.own a _ e).2 hk (by intro q; cases q) fun tk => post_value R rfl ⟨rfl, rfl, rfl⟩ (Wk.mpr rfl) h
end
section
open PySem
theorem below_go (xs : Array Nat) (h : xs.toList.Pairwise (· < ·)) (j : Nat) :
    ∀ fuel lo hi, lo ≤ hi → hi ≤ xs.size → hi - lo ≤ fuel → (∀ k x, k < lo → xs[k]? = some x → x < j) → (∀ k x, hi ≤ k → xs[k]? = some x → j ≤ x) →
      (∀ k x, k < SetTable.below.go xs j fuel lo hi → xs[k]? = some x → x < j) ∧ (∀ k x, SetTable.below.go xs j fuel lo hi ≤ k → xs[k]? = some x → j ≤ x) ∧ SetTable.below.go xs j fuel lo hi ≤ xs.size := by
  have hm : ∀ (a b x y : Nat), a ≤ b → xs[a]? = some x → xs[b]? = some y → x ≤ y := by
    intro a b x y hab ha hb
    rcases Nat.lt_or_eq_of_le hab with hab | rfl
    · rw [← Array.getElem?_toList] at ha hb
      obtain ⟨h1, rfl⟩ := List.getElem?_eq_some_iff.mp ha
      obtain ⟨h2, rfl⟩ := List.getElem?_eq_some_iff.mp hb
      exact Nat.le_of_lt (List.pairwise_iff_getElem.mp h a b h1 h2 hab)
    · rw [ha] at hb; cases hb; exact Nat.le_refl _
  intro fuel
  induction fuel with
  | zero =>
    intro lo hi h1 h2 h3 h4 h5
    have e : lo = hi := by omega
    subst e
    exact ⟨h4, h5, h2⟩
  | succ fuel ih =>
    intro lo hi h1 h2 h3 h4 h5
    unfold SetTable.below.go
    by_cases hlt : lo < hi
    · rw [if_pos hlt]
      have hmid : (lo + hi) / 2 < xs.size := by omega
      have hg : xs[(lo + hi) / 2]? = some (xs.getD ((lo + hi) / 2) j) := by
        simp [Array.getD, hmid]
      dsimp only
      by_cases hc : xs.getD ((lo + hi) / 2) j < j
      · rw [if_pos hc]
        refine ih _ _ (by omega) h2 (by omega) (fun k x hk hx => ?_) h5
        exact Nat.lt_of_le_of_lt (hm k _ x _ (by omega) hx hg) hc
      · rw [if_neg hc]
        refine ih _ _ (by omega) (by omega) (by omega) h4 (fun k x hk hx => ?_)
        exact Nat.le_trans (Nat.le_of_not_lt hc) (hm _ k _ x hk hg hx)
    · rw [if_neg hlt]
      have e : lo = hi := by omega
      subst e
      exact ⟨h4, h5, h2⟩
theorem below_ok {xs : Array Nat} (h : xs.toList.Pairwise (· < ·)) (j : Nat) :
    (∀ k x, k < SetTable.below xs j → xs[k]? = some x → x < j) ∧ (∀ k x, SetTable.below xs j ≤ k → xs[k]? = some x → j ≤ x) ∧ SetTable.below xs j ≤ xs.size := by
  unfold SetTable.below
  exact below_go xs h j xs.size 0 xs.size (Nat.zero_le _) (Nat.le_refl _) (by omega) (fun k x hk => absurd hk (Nat.not_lt_zero _)) (fun k x hk hx => by
    have := Array.getElem?_eq_some_iff.mp hx
    obtain ⟨h1, _⟩ := this; omega)
theorem below_next {xs : Array Nat} (h : xs.toList.Pairwise (· < ·)) {i x : Nat} (hx : xs[i]? = some x) : SetTable.below xs (x + 1) = i + 1 := by
  obtain ⟨h1, h2, h3⟩ := below_ok h (x + 1)
  have a1 : i < SetTable.below xs (x + 1) := by
    apply Nat.lt_of_not_le; intro hle; have := h2 i x hle hx; omega
  apply Nat.le_antisymm _ a1
  apply Nat.le_of_not_lt
  intro hlt
  have hs : i + 1 < xs.size := by omega
  have e : xs[i + 1]? = some xs[i + 1] := by simp [hs]
  have b1 := h1 (i + 1) _ hlt e
  have b2 : x < xs[i + 1] := by
    have hi : i < xs.size := by omega
    have e0 : xs[i]? = some xs[i] := by simp [hi]
    rw [hx] at e0; cases e0
    exact List.pairwise_iff_getElem.mp h i (i + 1) (by simpa using hi) (by simpa using hs) (by omega)
  omega
theorem below_first {xs : Array Nat} (h : xs.toList.Pairwise (· < ·)) : SetTable.below xs 0 = 0 := by
  obtain ⟨h1, h2, h3⟩ := below_ok h 0
  apply Nat.eq_zero_of_not_pos
  intro hp
  have hs : 0 < xs.size := by omega
  have e : xs[0]? = some xs[0] := by simp [hs]
  exact absurd (h1 0 _ hp e) (Nat.not_lt_zero _)
theorem insert_rises {xs : Array Nat} (h : xs.toList.Pairwise (· < ·)) {j : Nat} (hn : xs[SetTable.below xs j]? ≠ some j) :
    (SetTable.insertAt xs (SetTable.below xs j) j).toList.Pairwise (· < ·) := by
  obtain ⟨h1, h2, h3⟩ := below_ok h j
  generalize SetTable.below xs j = p at *
  rw [SetTable.toList_insertAt]
  have hlo : ∀ y ∈ xs.toList.take p, y < j := by
    intro y hy
    obtain ⟨k, hk⟩ := List.getElem?_of_mem hy
    rw [List.getElem?_take] at hk
    split at hk
    · rename_i hkp; exact h1 k y hkp (by rw [← Array.getElem?_toList]; exact hk)
    · exact absurd hk (by simp)
  have hhi : ∀ y ∈ xs.toList.drop p, j < y := by
    intro y hy
    obtain ⟨k, hk⟩ := List.getElem?_of_mem hy
    rw [List.getElem?_drop, Array.getElem?_toList] at hk
    have hle := h2 (p + k) y (Nat.le_add_right _ _) hk
    rcases Nat.lt_or_eq_of_le hle with hl | rfl
    · exact hl
    · exfalso
      have hps : p < xs.size := by
        obtain ⟨h1', _⟩ := Array.getElem?_eq_some_iff.mp hk; omega
      have e0 : xs[p]? = some xs[p] := by simp [hps]
      rcases Nat.eq_zero_or_pos k with rfl | hkp
      · exact hn hk
      · have l1 := h2 p _ (Nat.le_refl _) e0
        obtain ⟨hk1, hk2⟩ := Array.getElem?_eq_some_iff.mp hk
        have l2 := List.pairwise_iff_getElem.mp h p (p + k) (by simpa using hps) (by simpa using hk1) (by omega)
        simp only [Array.getElem_toList] at l2
        omega
  rw [List.pairwise_append, List.pairwise_cons]
  refine ⟨h.sublist (List.take_sublist _ _), ⟨hhi, h.sublist (List.drop_sublist _ _)⟩, fun a ha b hb => ?_⟩
  rcases List.mem_cons.mp hb with rfl | hb
  · exact hlo a ha
  · exact Nat.lt_trans (hlo a ha) (hhi b hb)
theorem slot_free {t : SetTable} {j : Nat} (h : t.slot j = .empty ∨ t.slot j = .dummy) : t.place[SetTable.below t.place j]? ≠ some j := by
  intro e
  unfold SetTable.slot at h
  simp [e] at h
theorem probe_free {t : SetTable} {h : Int} : ∀ (fuel : Nat) (p : SetTable.Probe) (j : Nat) (d : Option Nat),
    (∀ d', p.dummy = some d' → t.slot d' = .dummy) → SetTable.probe.go t (fun _ => h + 1) h fuel p = some (.empty j d) →
    t.slot j = .empty ∧ ∀ d', d = some d' → t.slot d' = .dummy := by
  intro fuel
  induction fuel with
  | zero => intro p j d hd e; simp [SetTable.probe.go] at e
  | succ fuel ih =>
    intro p j d hd e
    unfold SetTable.probe.go at e
    have hadv : ∀ q : SetTable.Probe, (t.advance q).dummy = q.dummy := by
      intro q; unfold SetTable.advance; split <;> rfl
    split at e
    · rename_i he; cases e; exact ⟨he, hd⟩
    · rename_i he
      refine ih _ j d (fun d' hd' => ?_) e
      rw [hadv] at hd'
      simp only [Option.some.injEq] at hd'
      rw [← hd']; exact he
    · rename_i i he
      have hne : (h + 1 == h) = false := by rw [beq_eq_false_iff_ne]; omega
      rw [hne] at e
      simp only [Bool.false_eq_true, if_false] at e
      exact ih _ j d (fun d' hd' => hd d' (by rw [← hd', hadv])) e
theorem freeSlot_free {t : SetTable} {h : Int} {j : Nat} {b : Bool} (e : t.freeSlot h = some (j, b)) : t.place[SetTable.below t.place j]? ≠ some j := by
  unfold SetTable.freeSlot SetTable.probe at e
  split at e
  · rename_i j' d hp
    obtain ⟨h1, h2⟩ := probe_free _ _ _ _ (fun d' hd' => by simp [SetTable.probeStart] at hd') hp
    simp only [Option.some.injEq, Prod.mk.injEq] at e
    obtain ⟨rfl, _⟩ := e
    cases d with
    | none => exact slot_free (.inl h1)
    | some d' => exact slot_free (.inr (h2 d' rfl))
  · exact absurd e (by simp)
structure TblOk (L : Bool) (t : SetTable) : Prop where
  led : t.led = L
  rise : t.place.toList.Pairwise (· < ·)
theorem TblOk.fresh (L : Bool) : TblOk L (.fresh 0 0 L) := ⟨rfl, List.Pairwise.nil⟩
theorem TblOk.standIn {L : Bool} {t : SetTable} (h : TblOk L t) (n : Nat) : TblOk L (t.standIn n) := ⟨h.led, by
  show (Array.range n).toList.Pairwise (· < ·)
  rw [Array.toList_range]; exact List.pairwise_lt_range⟩
theorem TblOk.layNew {L : Bool} {t : SetTable} (h : TblOk L t) (es : Array (Int × Value)) (k : Int) (x : Value) : TblOk L (layNew t es k x).2.1 := by
  unfold PySem.layNew
  split
  · rename_i slot b he
    have hr : TblOk L (t.put slot).1 := ⟨h.led, insert_rises h.rise (freeSlot_free he)⟩
    dsimp only
    unfold SetTable.orStandIn
    split
    · exact hr
    · exact hr.standIn _
  · exact h.standIn _
theorem TblOk.relayAll {L : Bool} {t : SetTable} (h : TblOk L t) (es : Array (Int × Value)) (n : Nat) : TblOk L (relayAll t es n).2.1 := by
  unfold PySem.relayAll
  split
  · rename_i t' order he
    dsimp only
    split
    · unfold SetTable.relaid SetTable.laid at he
      simp only [Option.bind_eq_bind, Option.bind_eq_some_iff, Option.pure_def, Option.some.injEq, Prod.mk.injEq] at he
      obtain ⟨ow, _, rfl, _⟩ := he
      refine ⟨h.led, ?_⟩
      dsimp only
      rw [List.map_filterMap]
      refine List.Pairwise.filterMap _ ?_ (List.pairwise_lt_range (n := _))
      intro a b hab x hx y hy
      simp only [Option.map_map, Option.map_eq_some_iff, Function.comp_apply] at hx hy
      obtain ⟨_, _, rfl⟩ := hx
      obtain ⟨_, _, rfl⟩ := hy
      exact hab
    · exact h.standIn _
  · exact h.standIn _
end
section
open PySem
noncomputable def setObj (es : Array (Int × Value)) (ep : Nat) (t : SetTable) : Obj := { cls := .type "set", dict := none, data := .set es ep t }
noncomputable def keyI : Value → Int
  | .int k _ => k
  | _ => 0
noncomputable def keysS (es : List (Int × Value)) : List Int := es.map fun e => keyI e.2
structure SetIs (prog : Program) (w : World) (L : Bool) (h : Heap) (a : Addr) (es : Array (Int × Value)) (ep : Nat) (t : SetTable) : Prop where
  here : h.get? a = some (setObj es ep t)
  elems : ElemsOf (intKind prog w) es.toList
  fits : t.fits es.size = true
  ok : TblOk L t
structure KeysAre (es : List (Int × Value)) (ns : List Int) : Prop where
  nodup : (keysS es).Nodup
  mem : ∀ k, k ∈ keysS es ↔ k ∈ ns
section
variable {prog : Program} {w : World} {L : Bool} {A : Around} {E : Value → Shared → Prop} {s : Shared}
theorem SetIs.same {h h' : Heap} {a : Addr} {es : Array (Int × Value)} {ep : Nat} {t : SetTable} (H : SetIs prog w L h a es ep t) (e : ∀ o, h.get? a = some o → h'.get? a = some o) :
    SetIs prog w L h' a es ep t := ⟨e _ H.here, H.elems, H.fits, H.ok⟩
theorem elems_int {es : List (Int × Value)} (h : ElemsOf (intKind prog w) es) {e : Int × Value} (he : e ∈ es) : ∃ k tg, e.2 = .int k tg ∧ keyI e.2 = k := by
  obtain ⟨⟨k, hk, _⟩, _⟩ := h e he
  obtain ⟨tg, e2⟩ := Value.isInt_shape hk
  exact ⟨k, tg, e2, by rw [e2]; rfl⟩
theorem mem_keysS {es : List (Int × Value)} (h : ElemsOf (intKind prog w) es) (k : Int) : k ∈ keysS es ↔ ∃ e ∈ es, (intKind prog w).is k e.2 = true := by
  unfold keysS
  rw [List.mem_map]
  constructor
  · rintro ⟨e, he, rfl⟩
    obtain ⟨k, tg, e1, e2⟩ := elems_int h he
    refine ⟨e, he, ?_⟩
    show Value.isInt _ _ = true
    rw [e2, e1]; simp [Value.isInt]
  · rintro ⟨e, he, hk⟩
    obtain ⟨tg, e2⟩ := Value.isInt_shape hk
    exact ⟨e, he, by rw [e2]; rfl⟩
theorem set_store {a : Addr} {h : Heap} {es es' : Array (Int × Value)} {ep : Nat} {t t' : SetTable} (H : SetIs prog w L h a es ep t)
    (hel : ElemsOf (intKind prog w) es'.toList) (hf : t'.fits es'.size = true) (ht : TblOk L t') :
    SetIs prog w L (h.update a (Obj.putSet es' t')) a es' (ep + 1) t' := by
  refine ⟨?_, hel, hf, ht⟩
  have := Heap.get?_update_self (Obj.putSet es' t') H.here (by rw [putSet_of es' t' rfl]; rfl)
  rw [putSet_of es' t' rfl] at this; exact this
theorem KeysAre.perm {es es' : List (Int × Value)} {ns : List Int} (H : KeysAre es ns) (p : List.Perm es' es) : KeysAre es' ns :=
  ⟨(p.map _).nodup_iff.mpr H.nodup, fun k => ((p.map _).mem_iff).trans (H.mem k)⟩
theorem set_addTail {g : Bool → Sem Unit} (hg : ∀ (b : Bool) (s₁ : Shared) (Q' : Unit → Shared → Prop), Q' () s₁ → wpAny (model prog w) A (g b) Q' E s₁)
    {a : Addr} {es es1 : Array (Int × Value)} {ep : Nat} {t t2 : SetTable} {ns : List Int} (H : SetIs prog w L s.heap a es ep t)
    (hel1 : ElemsOf (intKind prog w) es1.toList) (hk : KeysAre es1.toList ns)
    (hb1 : es1.size < scanBound) (hf2 : t2.fits es1.size = true) (ht2 : TblOk L t2) {wasDummy : Bool} {R : Option Bool → Shared → Prop}
    (h : ∀ h' es' ep' t', Heap.SameBut a s.heap h' → SetIs prog w L h' a es' ep' t' → KeysAre es'.toList ns → es'.size = es1.size → R (some true) { s with heap := h' }) :
    wpAny (model prog w) A (do
        storeSet a es1 t2
        if (!wasDummy && t2.tooFull) = true then do
            g (relayAll t2 es1 (SetTable.grown es1.size)).2.2
            storeSet a (relayAll t2 es1 (SetTable.grown es1.size)).1 (relayAll t2 es1 (SetTable.grown es1.size)).2.1
            pure (some true)
          else pure (some true)) R E s := by
  refine wpAny_bind (wpAny_storeSet_of H.here rfl ?_ (fits_of_scanBound hb1))
  have H1 := set_store H hel1 hf2 ht2
  have hsb1 := Heap.SameBut.update s.heap a (Obj.putSet es1 t2)
  split
  · have hp := relayAll_perm t2 es1 (SetTable.grown es1.size)
    have hfr := relayAll_fits t2 es1 (SetTable.grown es1.size)
    have hto := ht2.relayAll es1 (SetTable.grown es1.size)
    generalize relayAll t2 es1 (SetTable.grown es1.size) = Rl at hp hfr hto ⊢
    obtain ⟨es2, t3, gave2⟩ := Rl
    dsimp only at hp hfr hto ⊢
    have hsz : es2.size = es1.size := by rw [← Array.length_toList, hp.length_eq, Array.length_toList]
    refine wpAny_bind (hg _ _ _ ?_)
    refine wpAny_bind (wpAny_storeSet_of H1.here rfl ?_ (fits_of_scanBound (by rw [hsz]; exact hb1)))
    exact wpAny_pure (h _ _ _ _ (hsb1.trans (Heap.SameBut.update _ a _)) (set_store H1 (hel1.perm hp) hfr hto) (hk.perm hp) hsz)
  · exact wpAny_pure (h _ _ _ _ hsb1 H1 hk rfl)
theorem set_add {a : Addr} {es : Array (Int × Value)} {ep tg : Nat} {t : SetTable} {ns : List Int} {k : Int} {Q : Bool → Shared → Prop}
    (H : SetIs prog w L s.heap a es ep t) (hk : KeysAre es.toList ns) (hb1 : es.size + 1 < scanBound)
    (h : ∀ b h' es' ep' t', Heap.SameBut a s.heap h' → SetIs prog w L h' a es' ep' t' → KeysAre es'.toList (ns ++ [k]) → es'.size ≤ es.size + 1 → Q b { s with heap := h' }) :
    wpAny (model prog w) A (setAddHashed a (.int k tg) (hashInt k)) Q E s := by
  have hkey : (intKind prog w).is k (.int k tg) = true := by simp [intKind, Value.isInt]
  have hsc : (Value.int k tg).scannable = true := rfl
  show wpAny (model prog w) A (setAddHashed a (.int k tg) ((intKind prog w).hash k)) Q E s
  unfold setAddHashed setAddHashedIn
  refine wpAny_holding (wpAny_bind (wpAny_setState_of H.here rfl H.fits ?_))
  dsimp only
  rw [byScan_of hsc (Nat.lt_of_succ_lt hb1) H.elems]
  simp only [↓reduceIte]
  unfold setAddByScan
  refine wpAny_bind ?_
  refine wpAny_bind (wpAny_rule ?_)
  refine wpAny_bind (wpAny_setScan_of hkey H.here rfl H.fits H.elems ?_)
  cases hr : List.findIdx? (fun e => (intKind prog w).is k e.2) es.toList with
  | some j =>
    dsimp only
    obtain ⟨hj, hpj, _⟩ := List.findIdx?_eq_some_iff_getElem.mp hr
    have hin : k ∈ keysS es.toList := (mem_keysS H.elems k).mpr ⟨_, List.getElem_mem hj, hpj⟩
    refine wpAny_pure (wpAny_pure ?_)
    have e : s = { s with heap := s.heap } := by cases s; rfl
    rw [e]
    refine h _ s.heap es ep t (Heap.SameBut.refl a s.heap) H ⟨hk.nodup, fun k' => ?_⟩ (Nat.le_succ _)
    rw [List.mem_append, List.mem_singleton, ← hk.mem k']
    exact ⟨.inl, fun hh => hh.elim id fun e => e ▸ hin⟩
  | none =>
    dsimp only
    have hout : k ∉ keysS es.toList := fun hin => by
      obtain ⟨e, he, hp⟩ := (mem_keysS H.elems k).mp hin
      have := List.findIdx?_eq_none_iff.mp hr e he; rw [hp] at this; exact Bool.noConfusion this
    have hgw : ∀ (b : Bool) {s₁ : Shared} {Q' : Unit → Shared → Prop}, Q' () s₁ → wpAny (model prog w) A (match b with | true => rule "set.scan.the-table-gave-way" | false => pure ()) Q' E s₁ :=
      fun b s₁ Q' hq => by cases b <;> first | exact wpAny_pure hq | exact wpAny_rule hq
    have hperm := layNew_perm t es ((intKind prog w).hash k) (.int k tg)
    have hfits := layNew_fits t es ((intKind prog w).hash k) (.int k tg)
    have hto := H.ok.layNew es ((intKind prog w).hash k) (.int k tg)
    generalize layNew t es ((intKind prog w).hash k) (.int k tg) = L1 at hperm hfits hto ⊢
    obtain ⟨es1, t1, wasDummy, gave⟩ := L1
    dsimp only at hperm hfits hto ⊢
    rw [Array.toList_push] at hperm
    have hel1 : ElemsOf (intKind prog w) es1.toList := (H.elems.push hkey hsc).perm hperm
    have hk1 : KeysAre es1.toList (ns ++ [k]) := by
      refine KeysAre.perm ⟨?_, fun k' => ?_⟩ hperm
      · unfold keysS
        rw [List.map_append, List.nodup_append]
        refine ⟨hk.nodup, by simp, fun x hx y hy e => ?_⟩
        simp only [List.map_cons, List.map_nil, List.mem_singleton, keyI] at hy
        subst e; subst hy; exact hout hx
      · unfold keysS
        rw [List.map_append, List.mem_append, List.mem_append]
        exact or_congr (hk.mem k') (by simp [keyI])
    have hsz : es1.size = es.size + 1 := by rw [← Array.length_toList, hperm.length_eq, List.length_append, Array.length_toList]; rfl
    refine wpAny_bind (hgw _ ?_)
    split
    · refine wpAny_bind ?_
      rw [hashByValue_scannable 8 hsc]
      refine wpAny_pure ?_
      refine set_addTail ?_ H hel1 hk1 (by omega) ?_ ?_ ?_
      · intro b s₁ Q' hq; cases b <;> first | exact wpAny_pure hq | exact wpAny_rule hq
      · exact hfits
      · exact hto
      · intro h' es' ep' t' hsb H' hk' hz; dsimp only; exact wpAny_pure (h _ _ _ _ _ hsb H' hk' (by omega))
    · refine wpAny_bind (wpAny_pure ?_)
      simp only [↓reduceIte]
      refine set_addTail ?_ H hel1 hk1 (by omega) hfits hto ?_
      · intro b s₁ Q' hq; cases b <;> first | exact wpAny_pure hq | exact wpAny_rule hq
      · intro h' es' ep' t' hsb H' hk' hz; dsimp only; exact wpAny_pure (h _ _ _ _ _ hsb H' hk' (by omega))
end
end
section
open PySem
namespace FI
theorem slot_next : Slot "set_iterator" "__next__" "set_iterator.__next__" :=
  .of (owner := "set_iterator") (n := "__next__") (by rw [typeLookup_type, builtinLookup_eq_fast]; kernel_rfl) (by decide +kernel) (by decide +kernel) (by decide +kernel)
    (by first | exact .inl (by decide +kernel) | exact .inr (by decide +kernel)) (by rw [isSubtype_type]; kernel_rfl)
theorem entry_next : entryFor table "set_iterator.__next__" = some Builtin.«set_iterator.__next__» := entryFor_of_tree (by kernel_rfl)
theorem owner_it : Manifest.owners.lookup (String.ofList "set_iterator".toList.reverse.reverse) = some Manifest.sig_set_iterator := by kernel_rfl
theorem args_next (a : Value) : argsOk "set_iterator.__next__" ⟨[a], []⟩ := by
  unfold argsOk; rw [signature?_of (id := "set_iterator.__next__") (n := "__next__".toList.reverse) (o := "set_iterator".toList.reverse) (by kernel_rfl) owner_it]; kernel_rfl
theorem slot_iter : Slot "set_iterator" "__iter__" "set_iterator.__iter__" :=
  .of (owner := "set_iterator") (n := "__iter__") (by rw [typeLookup_type, builtinLookup_eq_fast]; kernel_rfl) (by decide +kernel) (by decide +kernel) (by decide +kernel)
    (by first | exact .inl (by decide +kernel) | exact .inr (by decide +kernel)) (by rw [isSubtype_type]; kernel_rfl)
theorem entry_iter : entryFor table "set_iterator.__iter__" = some Builtin.«dict_keyiterator.__iter__» :=
  entryFor_alias (id' := "dict_keyiterator.__iter__") (by kernel_rfl) rfl (by decide +kernel) (by kernel_rfl)
theorem args_iter (a : Value) : argsOk "set_iterator.__iter__" ⟨[a], []⟩ := by
  unfold argsOk; rw [signature?_of (id := "set_iterator.__iter__") (n := "__iter__".toList.reverse) (o := "set_iterator".toList.reverse) (by kernel_rfl) owner_it]; kernel_rfl
theorem entry_set_iter : entryFor table "set.__iter__" = some Builtin.«frozenset.__iter__» :=
  entryFor_alias (id' := "frozenset.__iter__") (by kernel_rfl) rfl (by decide +kernel) (by kernel_rfl)
end FI
end
section
open PySem
noncomputable def setIter (first : Value) (i : Nat) (a : Addr) (n ep : Nat) : Obj := { cls := .type "set_iterator", data := .fields #[first, .int i 0, .ref a, .int n 0, .int ep 0] }
inductive SetFirst (w : World) (a : Addr) (es : Array (Int × Value)) (ep : Nat) (t : SetTable) (xs : Array (Int × Value)) (T : Addr) (h : Heap) (i : Nat) : Value → Prop
  | text (z : Nat) : w.params.followText "set-order" = true → xs = pickOrder (w.params.setOrder a ep) es → SetFirst w a es ep t xs T h i (.int z 0)
  | drawn (os : List Nat) : h.get? T = some { cls := .type "tuple", data := .seq (os.map fun (o : Nat) => rawInt o).toArray } → os.length = xs.size →
      (∀ (j o : Nat), os[j]? = some o → ∃ e, es[o]? = some e ∧ xs[j]? = some e) → SetFirst w a es ep t xs T h i (.ref T)
  | led (z : Nat) : w.params.followText "set-order" = false → (!t.plain && decide (es.size > 1)) = false → xs = es →
      (i = 0 ∧ z = 0 ∨ ∃ (j x : Nat), i = j + 1 ∧ t.place[j]? = some x ∧ z = x + 1) → SetFirst w a es ep t xs T h i (.int z 0)
section
variable {prog : Program} {w : World} {A : Around} {E : Value → Shared → Prop} {s : Shared}
noncomputable abbrev ledW (w : World) : Bool := !w.params.followText "set-order"
structure SetIt (prog : Program) (w : World) (h : Heap) (I a T : Addr) (es : Array (Int × Value)) (ep : Nat) (t : SetTable) (xs : Array (Int × Value)) (i : Nat) : Prop where
  set : SetIs prog w (ledW w) h a es ep t
  it : ∃ first, h.get? I = some (setIter first i a es.size ep) ∧ SetFirst w a es ep t xs T h i first
  size : xs.size = es.size
theorem SetFirst.keep {a T : Addr} {es : Array (Int × Value)} {ep : Nat} {t : SetTable} {xs : Array (Int × Value)} {h h' : Heap} {i : Nat} {f : Value} (H : SetFirst w a es ep t xs T h i f)
    (hk : ∀ o, h.get? T = some o → h'.get? T = some o) : SetFirst w a es ep t xs T h' i f := by
  cases H with
  | text z h1 h2 => exact .text z h1 h2
  | drawn os h1 h2 h3 => exact .drawn os (hk _ h1) h2 h3
  | led z h1 h2 h3 h4 => exact .led z h1 h2 h3 h4
theorem SetIt.typeIs {I a T : Addr} {es : Array (Int × Value)} {ep : Nat} {t : SetTable} {xs : Array (Int × Value)} {i : Nat} (H : SetIt prog w s.heap I a T es ep t xs i) : s.TypeIs (.ref I) "set_iterator" := by
  obtain ⟨f, h1, _⟩ := H.it
  exact ⟨_, h1, rfl⟩
theorem SetIt.keep {I a T : Addr} {es : Array (Int × Value)} {ep : Nat} {t : SetTable} {xs : Array (Int × Value)} {i : Nat} {h h' : Heap} (H : SetIt prog w h I a T es ep t xs i)
    (hk : ∀ b ∈ [I, a, T], ∀ o, h.get? b = some o → h'.get? b = some o) : SetIt prog w h' I a T es ep t xs i := by
  obtain ⟨f, h1, h2⟩ := H.it
  exact ⟨H.set.same fun o e => hk a (by simp) o e, ⟨f, hk I (by simp) _ h1, h2.keep fun o e => hk T (by simp) o e⟩, H.size⟩
theorem iter_upd {h : Heap} {I : Addr} {o : Obj} {vs : Array Value} (ho : h.get? I = some o) (hd : o.data = .fields vs) (f : Array Value → Array Value) :
    (h.update I (Obj.mapFields f)).get? I = some { o with data := .fields (f vs) } := by
  have := Heap.get?_update_self (Obj.mapFields f) ho (Obj.isFreed_of_fields (Obj.data_mapFields hd _))
  rw [this]
  obtain ⟨c, d, dt, sl⟩ := o
  simp only at hd
  subst hd
  rfl
theorem byText {Q : Bool → Shared → Prop} (h : Q (w.params.followText "set-order") s) : wpAny (model prog w) A setsByText Q E s := by
  unfold setsByText
  exact wpAny_bind (wpAny_askSetting (wpAny_pure h))
theorem walk_text {a : Addr} {es : Array (Int × Value)} {ep : Nat} {t : SetTable} {Q : Array (Int × Value) → Shared → Prop} (H : SetIs prog w (ledW w) s.heap a es ep t)
    (h1 : w.params.followText "set-order" = true) (h : Q (pickOrder (w.params.setOrder a ep) es) s) : wpAny (model prog w) A (setWalk a) Q E s := by
  unfold setWalk
  refine wpAny_bind (wpAny_setState_of H.here rfl H.fits ?_)
  dsimp only
  refine wpAny_bind (byText ?_)
  rw [h1]
  simp only [↓reduceIte]
  exact wpAny_bind (wpAny_askSetting (wpAny_pure h))
theorem next_text {a : Addr} {es : Array (Int × Value)} {ep z i : Nat} {t : SetTable} {Q : Option (Value × Nat) → Shared → Prop} (H : SetIs prog w (ledW w) s.heap a es ep t)
    (h1 : w.params.followText "set-order" = true) (h : Q (((pickOrder (w.params.setOrder a ep) es)[i]?).map fun e => (e.2, z)) s) : wpAny (model prog w) A (setNext a z i ep) Q E s := by
  unfold setNext
  refine wpAny_bind (wpAny_setState_of H.here rfl H.fits ?_)
  dsimp only
  refine wpAny_bind (byText ?_)
  rw [h1]
  simp only [↓reduceIte, bne_self_eq_false, Bool.false_eq_true, pure_bind]
  exact wpAny_bind (walk_text H h1 (wpAny_pure h))
theorem next_led {a : Addr} {es : Array (Int × Value)} {ep z i j : Nat} {t : SetTable} {Q : Option (Value × Nat) → Shared → Prop} (H : SetIs prog w (ledW w) s.heap a es ep t)
    (h1 : w.params.followText "set-order" = false) (h2 : (!t.plain && decide (es.size > 1)) = false) (hz : SetTable.below t.place z = j)
    (h : Q (match es[j]?, t.place[j]? with | some (_, x), some j => some (x, j + 1) | _, _ => none) s) : wpAny (model prog w) A (setNext a z i ep) Q E s := by
  unfold setNext
  refine wpAny_bind (wpAny_setState_of H.here rfl H.fits ?_)
  dsimp only
  refine wpAny_bind (byText ?_)
  rw [h1]
  have hled : t.led = true := by rw [H.ok.led]; simp [ledW, h1]
  simp only [Bool.false_eq_true, ↓reduceIte, pure_bind]
  show wpAny _ _ (if (!t.plain && decide (es.size > 1)) = true then _ else _) _ _ _
  rw [h2]
  simp only [Bool.false_eq_true, ↓reduceIte, pure_bind]
  show wpAny _ _ ((if (!t.led && !es.isEmpty) = true then _ else _) >>= _) _ _ _
  rw [hled]
  simp only [Bool.not_true, Bool.false_and, Bool.false_eq_true, ↓reduceIte, pure_bind]
  rw [hz]
  exact wpAny_pure h
theorem led_at {es : Array (Int × Value)} {t : SetTable} {L : Bool} {i z : Nat} (hok : TblOk L t) (h4 : i = 0 ∧ z = 0 ∨ ∃ (j x : Nat), i = j + 1 ∧ t.place[j]? = some x ∧ z = x + 1) : SetTable.below t.place z = i := by
  rcases h4 with ⟨rfl, rfl⟩ | ⟨j, x, rfl, hx, rfl⟩
  · exact below_first hok.rise
  · exact below_next hok.rise hx
theorem place_some {es : Array (Int × Value)} {t : SetTable} {i : Nat} (hf : t.fits es.size = true) (hi : i < es.size) : ∃ x, t.place[i]? = some x := by
  simp only [SetTable.fits, Bool.and_eq_true, beq_iff_eq] at hf
  exact ⟨t.place[i]'(by omega), by simp⟩
theorem next_item {I a T : Addr} {es : Array (Int × Value)} {ep : Nat} {t : SetTable} {xs : Array (Int × Value)} {i : Nat} {e : Int × Value} {Q : Option Value → Shared → Prop}
    (H : SetIt prog w s.heap I a T es ep t xs i) (hI : I ≠ a ∧ I ≠ T) (hx : xs[i]? = some e)
    (hQ : ∀ h', SetIt prog w h' I a T es ep t xs (i + 1) → Heap.SameBut I s.heap h' → Q (some e.2) { s with heap := h' }) :
    wpAny (model prog w) A (pyNext (.ref I)) Q E s := by
  obtain ⟨f, hf, hF⟩ := id H.it
  have hlt : i < xs.size := (Array.getElem?_eq_some_iff.mp hx).1
  have hlt' : i < es.size := by rw [← H.size]; exact hlt
  unfold pyNext
  refine wpAny_bind (wpAny_attempt (wpAny_callSpecial?_slot (name := Str.ofString "__next__") H.typeIs FI.slot_next
    (wpAny_call_entry FI.slot_next H.typeIs FI.entry_next ?_ (FI.args_next _))))
  refine wpAny_bind (wpAny_pure ?_)
  refine wpAny_bind (wpAny_fieldsOf hf rfl ?_)
  dsimp only [setIter]
  refine wpAny_bind (wpAny_setEntries_of H.set.here rfl H.set.fits ?_)
  rw [if_neg (by simp)]
  have fin : ∀ (h' : Heap) (f' : Value), h'.get? I = some (setIter f' (i + 1) a es.size ep) → Heap.SameBut I s.heap h' → (∀ h', (∀ o, s.heap.get? T = some o → h'.get? T = some o) → SetFirst w a es ep t xs T h' (i + 1) f') →
      wpAny (model prog w) A (pure (some e.2)) Q E { s with heap := h' } := by
    intro h' f' hg hs hF'
    have hoth : ∀ b, b ≠ I → ∀ o, s.heap.get? b = some o → h'.get? b = some o := fun b hb o e => (hs.2 b hb).trans e
    exact wpAny_pure (hQ _ ⟨H.set.same (hoth a (Ne.symm hI.1)), ⟨f', hg, hF' _ (hoth T (Ne.symm hI.2))⟩, H.size⟩ hs)
  cases hF with
  | text z h1 h2 =>
    dsimp only
    simp only [Int.toNat_natCast]
    refine wpAny_bind (next_text H.set h1 ?_)
    rw [← h2]
    simp only [hx, Option.map_some]
    refine wpAny_bind (wpAny_setField hf rfl (by simp) ?_)
    have hf2 := iter_upd hf rfl (·.setIfInBounds 0 (rawInt z))
    refine wpAny_bind (wpAny_setField hf2 rfl (by simp) ?_)
    have hf3 := iter_upd hf2 rfl (·.setIfInBounds 1 (rawInt ((i : Int) + 1)))
    exact wpAny_pure ⟨_, rfl, fin _ (.int z 0) (hf3.trans rfl) ((Heap.SameBut.update ..).trans (Heap.SameBut.update ..)) fun h' _ => .text z h1 h2⟩
  | drawn os h1 h2 h3 =>
    dsimp only
    obtain ⟨o, ho⟩ : ∃ o, os[i]? = some o := ⟨os[i]'(by omega), by simp⟩
    obtain ⟨e', he1, he2⟩ := h3 i o ho
    rw [hx] at he2; cases he2
    refine wpAny_bind (wpAny_seqItems h1 rfl ?_)
    dsimp only
    have hp : ((os.map fun (o : Nat) => rawInt o).toArray)[((i : Int)).toNat]? = some (rawInt o) := by simp [ho]
    rw [hp]
    dsimp only [rawInt]
    unfold setNextDrawn
    refine wpAny_bind (wpAny_bind (wpAny_setState_of H.set.here rfl H.set.fits ?_))
    dsimp only
    simp only [Int.toNat_natCast, bne_self_eq_false, Bool.false_eq_true, ↓reduceIte, he1]
    refine wpAny_pure ?_
    refine wpAny_bind (wpAny_setField hf rfl (by simp) ?_)
    have hf3 := iter_upd hf rfl (·.setIfInBounds 1 (rawInt ((i : Int) + 1)))
    exact wpAny_pure ⟨_, rfl, fin _ (.ref T) (hf3.trans rfl) (Heap.SameBut.update ..) fun h' hk => .drawn os (hk _ h1) h2 h3⟩
  | led z h1 h2 h3 h4 =>
    subst h3
    obtain ⟨x, hxp⟩ := place_some H.set.fits hlt'
    dsimp only
    simp only [Int.toNat_natCast]
    refine wpAny_bind (next_led H.set h1 h2 (led_at (es := xs) H.set.ok h4) ?_)
    simp only [hx, hxp]
    refine wpAny_bind (wpAny_setField hf rfl (by simp) ?_)
    have hf2 := iter_upd hf rfl (·.setIfInBounds 0 (rawInt (x + 1 : Nat)))
    refine wpAny_bind (wpAny_setField hf2 rfl (by simp) ?_)
    have hf3 := iter_upd hf2 rfl (·.setIfInBounds 1 (rawInt ((i : Int) + 1)))
    exact wpAny_pure ⟨_, rfl, fin _ (.int (x + 1 : Nat) 0) (hf3.trans rfl) ((Heap.SameBut.update ..).trans (Heap.SameBut.update ..)) fun h' _ => .led (x + 1) h1 h2 rfl (.inr ⟨i, x, rfl, hxp, rfl⟩)⟩
theorem next_end {I a T : Addr} {es : Array (Int × Value)} {ep : Nat} {t : SetTable} {xs : Array (Int × Value)} {i : Nat} {Q : Option Value → Shared → Prop}
    (hh : A.handled = none) (H : SetIt prog w s.heap I a T es ep t xs i) (hi : i = xs.size)
    (hQ : ∀ h', Heap.ExtBut I s.heap h' → Q none { s with heap := h' }) :
    wpAny (model prog w) A (pyNext (.ref I)) Q E s := by
  obtain ⟨f, hf, hF⟩ := id H.it
  have hx : xs[i]? = none := by rw [hi]; simp
  unfold pyNext
  refine wpAny_bind (wpAny_attempt (wpAny_callSpecial?_slot (name := Str.ofString "__next__") H.typeIs FI.slot_next
    (wpAny_call_entry FI.slot_next H.typeIs FI.entry_next ?_ (FI.args_next _))))
  refine wpAny_bind (wpAny_pure ?_)
  refine wpAny_bind (wpAny_fieldsOf hf rfl ?_)
  dsimp only [setIter]
  refine wpAny_bind (wpAny_setEntries_of H.set.here rfl H.set.fits ?_)
  rw [if_neg (by simp)]
  have stop : ∀ (h' : Heap) (Q' : Fin → Shared → Prop), Heap.ExtBut I s.heap h' → wpAny (model prog w) A.in1 (newExc (.type "StopIteration") [] >>= fun e => raiseNew e) Q' (fun e s' => wpAny (model prog w) A (do if (← isInstance e (.type "StopIteration")) = true then pure none else throw e) Q E s') { s with heap := h' } := by
    intro h' Q' hb
    refine wpAny_bind ?_
    simp only [newExc, newTuple]
    refine wpAny_bind (wpAny_newObj_type ?_ (by size_fits))
    refine wpAny_bind (m := firstArgMember _ _) (wpAny_of_eq (a := Value.none) (by first | rfl | (simp only [firstArgMember]; rfl)) ?_)
    refine wpAny_newObj_type ?_ (by size_fits)
    simp only [raiseNew]
    refine wpAny_bind (wpAny_handled ?_)
    rw [show A.in1.handled = none from hh]
    refine wpAny_bind (wpAny_pure (wpAny_throw ?_))
    refine wpAny_bind (wpAny_isInstance (T := "StopIteration") (b := true) ⟨_, Heap.get?_push_size _ rfl, rfl⟩ isSubtype_stop ?_)
    exact wpAny_pure (hQ _ ((hb.push _).push _))
  cases hF with
  | text z h1 h2 =>
    dsimp only
    simp only [Int.toNat_natCast]
    refine wpAny_bind (next_text H.set h1 ?_)
    rw [← h2]
    simp only [hx, Option.map_none]
    refine wpAny_bind (wpAny_setField hf rfl (by simp) ?_)
    exact stop _ _ (Heap.SameBut.update ..).extBut
  | drawn os h1 h2 h3 =>
    dsimp only
    refine wpAny_bind (wpAny_seqItems h1 rfl ?_)
    dsimp only
    have hp : ((os.map fun (o : Nat) => rawInt o).toArray)[((i : Int)).toNat]? = none := by simp; omega
    rw [hp]
    dsimp only
    refine wpAny_bind (wpAny_setField hf rfl (by simp) ?_)
    have hf2 := iter_upd hf rfl (·.setIfInBounds 0 (rawInt 0))
    refine wpAny_bind (wpAny_setField hf2 rfl (by simp) ?_)
    exact stop _ _ ((Heap.SameBut.update ..).trans (Heap.SameBut.update ..)).extBut
  | led z h1 h2 h3 h4 =>
    subst h3
    dsimp only
    simp only [Int.toNat_natCast]
    refine wpAny_bind (next_led H.set h1 h2 (led_at (es := xs) H.set.ok h4) ?_)
    simp only [hx]
    refine wpAny_bind (wpAny_setField hf rfl (by simp) ?_)
    exact stop _ _ (Heap.SameBut.update ..).extBut
theorem Walks.set (hh : A.handled = none) {I a T : Addr} (hI : I ≠ a ∧ I ≠ T) (es : Array (Int × Value)) (ep : Nat) (t : SetTable) (xs : Array (Int × Value)) :
    Walks prog w A I [I, a, T] [I] xs.size (fun i v => ∃ e, xs[i]? = some e ∧ v = e.2) (fun i h => SetIt prog w h I a T es ep t xs i) where
  sub := fun b hb => by simp at hb; simp [hb]
  frame := fun _ _ _ st hk => st.keep hk
  item := fun i s Q E hi st hQ => by
    refine next_item st hI (e := xs[i]) (by simp) fun h' hit' hs' => ?_
    exact hQ _ h' s.toks ⟨xs[i], by simp, rfl⟩ hit' fun b o hb e => hs'.extBut b o (fun h => hb (by simp [h])) e
  done := fun s Q E st hQ => next_end hh st rfl fun h' he' => hQ h' s.toks fun b o hb e => he' b o (fun h => hb (by simp [h])) e
  self := fun i s Q E st hQ => by
    refine wpAny_pyIter_slot st.typeIs FI.slot_iter (wpAny_call_entry FI.slot_iter st.typeIs FI.entry_iter ?_ (FI.args_iter _))
    show wpAny _ _ (ret (.ref I)) _ _ s
    exact wpAny_pure ⟨_, rfl, "set_iterator", _, st.typeIs, FI.slot_next.lookup, hQ⟩
end
end
section
open PySem
section
variable {prog : Program} {w : World} {A : Around} {E : Value → Shared → Prop} {s : Shared}
theorem erase_perm {α : Type} {l : List α} {i : Nat} (h : i < l.length) : (l[i] :: l.eraseIdx i).Perm l := by
  rw [List.eraseIdx_eq_take_drop_succ]
  refine List.perm_middle.symm.trans ?_
  rw [← List.drop_eq_getElem_cons h, List.take_append_drop]
theorem pick_go {α : Type} (next : Nat → Nat) : ∀ (fuel k : Nat) (left : List α) (out : Array α), left.length = fuel → (pickOrder.go next fuel k left out).toList.Perm (out.toList ++ left) := by
  intro fuel
  induction fuel with
  | zero =>
    intro k left out h
    rw [List.length_eq_zero_iff.mp h]
    unfold pickOrder.go
    simp
  | succ fuel ih =>
    intro k left out h
    unfold pickOrder.go
    have hlt : next k % left.length < left.length := Nat.mod_lt _ (by omega)
    have he : left[next k % left.length]? = some left[next k % left.length] := by simp [hlt]
    rw [he]
    dsimp only
    refine (ih _ _ _ (by rw [List.length_eraseIdx_of_lt hlt]; omega)).trans ?_
    rw [Array.toList_push, List.append_assoc]
    refine List.Perm.append_left _ ?_
    simp only [List.singleton_append]
    exact (erase_perm hlt)
theorem pick_perm {α : Type} (next : Nat → Nat) (xs : Array α) : (pickOrder next xs).toList.Perm xs.toList := by
  unfold pickOrder
  exact (pick_go next xs.size 0 xs.toList #[] (by simp)).trans (by simp)
theorem any_choose {src : Source} {n : Nat} {Q : Nat → Shared → Prop} (hn : n ≠ 0) (h : ∀ i d, i < n → Q i { s with drawn := d }) : wpAny (model prog w) A (choose src n) Q E s := by
  intro Γ p hΓ
  unfold choose
  rw [Sem.wp_choose]
  exact ⟨hn, h _ _ (Nat.mod_lt _ (Nat.pos_of_ne_zero hn))⟩
theorem draw_perm {α : Type} : ∀ (n : Nat) (xs : List α) (s : Shared) (Q : List α → Shared → Prop), xs.length = n → (∀ ys d, ys.Perm xs → Q ys { s with drawn := d }) → wpAny (model prog w) A (drawOrder n xs) Q E s := by
  intro n
  induction n with
  | zero =>
    intro xs s Q hl h
    rw [List.length_eq_zero_iff.mp hl] at h ⊢
    unfold drawOrder
    exact wpAny_pure (h [] s.drawn (List.Perm.refl _))
  | succ n ih =>
    intro xs s Q hl h
    cases xs with
    | nil => cases hl
    | cons x0 xs0 =>
      unfold drawOrder
      refine wpAny_bind (any_choose (by simp) fun i d hi => ?_)
      have he : (x0 :: xs0)[i]? = some (x0 :: xs0)[i] := by simp [hi]
      rw [he]
      dsimp only
      refine wpAny_bind (ih _ _ _ (by rw [List.length_eraseIdx_of_lt hi]; omega) fun ys d' hp => ?_)
      exact wpAny_pure (h _ d' ((hp.cons _).trans (erase_perm hi)))
theorem set_iter {a : Addr} {es : Array (Int × Value)} {ep : Nat} {t : SetTable} {Q : Value → Shared → Prop} (H : SetIs prog w (ledW w) s.heap a es ep t) (hb : es.size < scanBound)
    (hQ : ∀ d h' I T xs, (∀ b o, s.heap.get? b = some o → h'.get? b = some o) → I ≠ a → I ≠ T → s.heap.objs.size ≤ I → xs.toList.Perm es.toList → SetIt prog w h' I a T es ep t xs 0 →
      (T = a ∨ s.heap.objs.size ≤ T) → Q (.ref I) { s with heap := h', drawn := d }) :
    wpAny (model prog w) A (pyIter (.ref a)) Q E s := by
  have hT : s.TypeIs (.ref a) "set" := ⟨_, H.here, rfl⟩
  have ha : a < s.heap.objs.size := Heap.lt_size H.here
  refine wpAny_pyIter_slot hT F.slot_set_iter (wpAny_call_entry F.slot_set_iter hT FI.entry_set_iter ?_ (F.args_set_iter_1 _))
  unfold Builtin.«frozenset.__iter__» Builtin.Frozenset.slot0 slotArgs
  simp only [List.isEmpty_nil, Bool.not_true, Bool.false_eq_true, ↓reduceIte, bind_assoc, List.length_nil, bne_self_eq_false]
  unfold Builtin.Frozenset.addrOf Builtin.Frozenset.sizeOf
  refine wpAny_bind (wpAny_pure ?_)
  try dsimp only
  refine wpAny_bind (wpAny_pure ?_)
  refine wpAny_bind (wpAny_bind (wpAny_setEntries_of H.here rfl H.fits (wpAny_pure ?_)))
  unfold setDrawn
  refine wpAny_bind (wpAny_bind (wpAny_setState_of H.here rfl H.fits ?_))
  dsimp only
  refine wpAny_bind (byText (wpAny_pure ?_))
  show wpAny _ _ (if (!w.params.followText "set-order" && (!t.plain && decide (es.size > 1))) = true then _ else _) _ _ _
  have fin : ∀ (d : Drawn) (h1 : Heap) (f : Value) (T : Addr) (xs : Array (Int × Value)), (∀ b o, s.heap.get? b = some o → h1.get? b = some o) → s.heap.objs.size ≤ h1.objs.size → T < h1.objs.size → (T = a ∨ s.heap.objs.size ≤ T) → xs.toList.Perm es.toList → SetFirst w a es ep t xs T h1 0 f →
      wpAny (model prog w) A.in1 (setEpoch a >>= fun e => newFields "set_iterator" [f, rawInt 0, .ref a, rawInt es.size, rawInt e] >>= fun v => ret v)
        (fun fin s' => ∃ r, fin = .done (.ret r) ∧ ∃ T' next, s'.TypeIs r T' ∧ typeLookup (.type T') (Str.ofString "__next__") = pure (some next) ∧ Q r s') E { s with heap := h1, drawn := d } := by
    intro d h1 f T xs hk hsz hTl hTo hp hF
    have H1 : SetIs prog w (ledW w) h1 a es ep t := H.same (hk a)
    refine wpAny_bind (wpAny_setEpoch_of H1.here rfl H1.fits ?_)
    unfold newFields
    refine wpAny_bind (wpAny_newObj_type (wpAny_pure ⟨_, rfl, "set_iterator", _, ⟨_, Heap.get?_push_size _ rfl, rfl⟩, FI.slot_next.lookup, ?_⟩))
    have hk2 : ∀ b o, h1.get? b = some o → (h1.push (setIter f 0 a es.size ep)).get? b = some o := fun b o e => Heap.get?_push_of_some _ e
    refine hQ d (h1.push (setIter f 0 a es.size ep)) h1.objs.size T xs (fun b o e => hk2 _ _ (hk b o e)) (Nat.ne_of_gt (Nat.lt_of_lt_of_le ha hsz)) (Nat.ne_of_gt hTl) hsz hp ⟨H1.same (hk2 a), ⟨f, Heap.get?_push_size _ rfl, hF.keep (hk2 T)⟩, ?_⟩ hTo
    have := hp.length_eq
    simpa using this
  by_cases hc : (!w.params.followText "set-order" && (!t.plain && decide (es.size > 1))) = true
  · rw [if_pos hc]
    have hc' : w.params.followText "set-order" = false := by simp at hc; exact hc.1
    refine wpAny_bind (draw_perm _ _ _ _ (by simp) fun ys d hp => ?_)
    refine wpAny_bind (wpAny_newObj_type ?_ ?_)
    · have hget : ∀ o, o ∈ ys → es[o]? = some (es.getD o (0, .none)) := fun o ho => by
        have : o < es.size := by simpa using hp.mem_iff.mp ho
        simp [Array.getD, this]
      refine fin d (s.heap.push { cls := .type "tuple", data := .seq (ys.map fun (i : Nat) => rawInt i).toArray }) _ s.heap.objs.size (ys.map fun o => es.getD o (0, .none)).toArray (fun _ _ e => Heap.get?_push_of_some _ e) (by rw [Heap.size_push]; exact Nat.le_succ _) (by rw [Heap.size_push]; exact Nat.lt_succ_self _) (.inr (Nat.le_refl _)) ?_ (.drawn ys (Heap.get?_push_size _ rfl) (by simp) fun j o ho => ⟨_, hget o (List.mem_of_getElem? ho), by simp [ho]⟩)
      refine (hp.map _).trans (List.Perm.of_eq ?_)
      refine List.ext_getElem (by simp) fun i h1 h2 => ?_
      have : i < es.size := by simpa using h2
      simp [Array.getD, this]
    · have hl := hp.length_eq
      have : es.size ≤ sizeLine := fits_of_scanBound hb
      simp [sizeOk] at hl ⊢
      omega
  · rw [if_neg hc]
    refine wpAny_bind (wpAny_pure ?_)
    cases hb2 : w.params.followText "set-order" with
    | true => exact fin s.drawn s.heap _ a (pickOrder (w.params.setOrder a ep) es) (fun _ _ e => e) (Nat.le_refl _) ha (.inl rfl) (pick_perm _ _) (.text 0 hb2 rfl)
    | false =>
      refine fin s.drawn s.heap _ a es (fun _ _ e => e) (Nat.le_refl _) ha (.inl rfl) (List.Perm.refl _) (.led 0 hb2 ?_ rfl (.inl ⟨rfl, rfl⟩))
      rw [hb2] at hc
      simpa using hc
end
end
section
open PySem PySem.Spec PyProof.Rows
section
variable {prog : Program} {w : World} {L : Bool} {A : Around} {R : Result → Shared → Prop} {I : Addr} {fp wr : List Addr} {G : Array GenState → Array GenState → Prop} {n : Nat} {P : Nat → Value → Prop} {St : Nat → Shared → Prop}
theorem set_loop (W : WalksS prog w A.in1 I fp wr G n P St) (S : Addr) (hSf : S ∉ fp)
    (val : Nat → Int) (hval : ∀ i v, P i v → ∃ t, v = .int (val i) t) (hb : n + 1 < scanBound) :
    ∀ (k i : Nat) (s : Shared) (es : Array (Int × Value)) (ep : Nat) (t : SetTable), n - i = k → i ≤ n → St i s → SetIs prog w L s.heap S es ep t → KeysAre es.toList ((List.range i).map val) → es.size ≤ i →
      (∀ s' es' ep' t', Moved (S :: wr) G s s' → SetIs prog w L s'.heap S es' ep' t' → KeysAre es'.toList ((List.range n).map val) → es'.size ≤ n → R (.ok (.ret .none)) s') →
      codeAny (model prog w) A (.builtin "set.update.loop" ⟨[.ref S, .ref I], []⟩) R s := by
  have hSw : S ∉ wr := fun h => hSf (W.sub _ h)
  have hsub : ∀ b ∈ wr, b ∈ S :: wr := fun b hb => List.mem_cons_of_mem _ hb
  intro k
  induction k with
  | zero =>
    intro i s es ep t hk hi hst hS hK hz hR
    have hin : i = n := by omega
    subst hin
    refine codeAny_builtin PyProof.Rows.F.entry_set_update_loop ?_
    rw [Around.under_plainId PyProof.Rows.F.plain_set_update_loop _]
    show wpAny _ A.in1 (pyNext (.ref I) >>= _) _ _ s
    refine wpAny_bind (W.done s _ _ hst fun s' hm => ?_)
    show wpAny _ A.in1 (ret Value.none) _ _ s'
    exact wpAny_pure (hR s' es ep t (hm.mono hsub) (hS.same fun o e => hm.heap S _ hSw e) hK hz)
  | succ k ih =>
    intro i s es ep t hk hi hst hS hK hz hR
    have hlt : i < n := by omega
    refine codeAny_builtin PyProof.Rows.F.entry_set_update_loop ?_
    rw [Around.under_plainId PyProof.Rows.F.plain_set_update_loop _]
    show wpAny _ A.in1 (pyNext (.ref I) >>= _) _ _ s
    refine wpAny_bind (W.item i s _ _ hlt hst fun v s' hP hst' hm => ?_)
    obtain ⟨tg, rfl⟩ := hval i v hP
    have hS' := hS.same (h' := s'.heap) fun o e => hm.heap S _ hSw e
    show wpAny _ A.in1 (holding [Value.int (val i) tg] (setAdd S (.int (val i) tg)) >>= _) _ _ s'
    refine wpAny_bind (wpAny_holding ?_)
    unfold setAdd
    refine wpAny_holding ?_
    refine wpAny_bind ((intKind prog w).pyHash (k := val i) (intKind_is _ _ _ _) ?_)
    refine set_add (s := { s' with toks := s'.toks + 1 }) hS' hK (by omega) fun b h' es' ep' t' hsb hS2 hK2 hz2 => ?_
    rw [show (List.range i).map val ++ [val i] = (List.range (i + 1)).map val by rw [List.range_succ, List.map_append]; rfl] at hK2
    refine wpAny_pure ⟨plainId_quiet PyProof.Rows.F.plain_set_update_loop _, ih (i + 1) _ es' ep' t' (by omega) hlt (W.frame _ s' _ _ hst' (Nat.le_succ _) fun b hb o e => ?_) hS2 hK2 (by omega) fun s'' es'' ep'' t'' hm'' hS'' hK'' hz'' => ?_⟩
    · rw [hsb.2 b (fun h : b = S => hSf (by rw [← h]; exact hb))]; exact e
    · refine hR s'' es'' ep'' t'' (Moved.trans W.gtrans ((hm.mono hsub).then_heap (Nat.le_succ _) fun b o hb e => ?_) hm'') hS'' hK'' hz''
      rw [hsb.2 b (fun h : b = S => hb (by rw [h]; exact List.mem_cons_self))]; exact e
end
section
variable {prog : Program} {w : World} {A : Around} {E : Value → Shared → Prop} {s : Shared}
noncomputable abbrev freshSet (w : World) : Obj := setObj #[] 0 (.fresh 0 0 (ledW w))
theorem set_new (a : Value) {Q₁ : Value → Shared → Prop}
    (h : Q₁ (.ref s.heap.objs.size) { s with heap := s.heap.push (freshSet w) }) :
    codeAny (model prog w) A (.call (.builtin "set.__new__") ⟨[.type "set", a], []⟩) (wants Q₁ E) s := by
  refine codeAny_of_tree ?_
  show wpAny _ A.in1 (do checkBuiltinCall "set.__new__" ⟨[.type "set", a], []⟩; again (.builtin "set.__new__" ⟨[.type "set", a], []⟩)) _ _ s
  refine wpAny_bind (wpAny_of_eq (PySem.F.newCall_set_1 a) (wpAny_pure ⟨plainId_quiet PySem.F.plain_set_new _, codeAny_builtin PySem.F.entry_set_new ?_⟩))
  rw [Around.under_plainId PySem.F.plain_set_new _]
  unfold Builtin.«set.__new__» Builtin.Frozenset.newClass
  have hsub := sub_set_self
  obtain ⟨hp, g, d, tk, os⟩ := s
  dsimp only
  wp_walk
  refine wpAny_askSetting (wpAny_pure ?_)
  dsimp only
  simp only [newObj]
  refine wpAny_bind (wpAny_alloc (wpAny_pure ?_))
  exact wpAny_pure h
set_option maxHeartbeats 3200000 in
theorem call_set {l : Addr} {items : Array Value} {ns : List Int} {Q : Value → Shared → Prop}
    (hh : A.handled = none) (hl : s.heap.IsList l items) (hi : IntsAre items.toList ns) (hb : items.size + 1 < scanBound)
    (h : ∀ (h' : Heap) (tk : Nat) es ep t, SetIs prog w (ledW w) h' s.heap.objs.size es ep t → KeysAre es.toList ns → es.size ≤ ns.length →
      (∀ b o, b < s.heap.objs.size → s.heap.get? b = some o → h'.get? b = some o) → Q (.ref s.heap.objs.size) { s with heap := h', toks := tk }) :
    wpAny (model prog w) A (call (.type "set") [.ref l]) Q E s := by
  have hlen : items.size = ns.length := by rw [← Array.length_toList]; exact IntsAre.length hi
  obtain ⟨c, tl, hmro⟩ := PySem.F.called_set.mro
  have hmade := PySem.F.called_set.made
  have hsub := PySem.F.called_set.sub
  refine wpAny_call (codeAny_of_tree ?_)
  show wpAny _ _ (callAny (.type "set") _) _ _ _
  refine wpAny_pure ⟨Code.quiet_builtin _ (by decide +kernel), codeAny_builtin PySem.F.entry_type_call ?_⟩
  rw [Around.under_plain (weight_type_call_type "set" [.ref l] []) rfl]
  have h1 := PySem.F.called_set.notType
  have h2 := PySem.F.called_set.canCreate
  have hct := PySem.F.typeCall_set_1 (.ref l)
  repeat (any_goals (first | assumption | wp_step))
  refine codeAny_mono (set_new (.ref l) (E := E) (Q₁ := fun obj s₁ => obj = .ref s.heap.objs.size ∧ s₁ = { s with heap := s.heap.push (freshSet w) }) ⟨rfl, rfl⟩) fun r s₁ hr => ?_
  cases r with
  | error e => exact hr
  | ok fl =>
    cases fl with
    | ret obj =>
      obtain ⟨rfl, rfl⟩ := hr
      have hS : (s.heap.push (freshSet w)).get? s.heap.objs.size = some (freshSet w) := Heap.get?_push_size _ rfl
      have hT : Shared.TypeIs { s with heap := s.heap.push (freshSet w) } (.ref s.heap.objs.size) "set" := ⟨_, hS, rfl⟩
      have hli := PySem.F.called_set.init.lookup
      have hbi := PySem.F.called_set.init.bind (.ref s.heap.objs.size)
      repeat (any_goals (first | assumption | wp_step))
      refine codeAny_mono (codeAny_call_builtin (R := wants (fun r s₂ => r = .none ∧ ∃ h' tk es ep t, s₂ = { s with heap := h', toks := tk } ∧
          SetIs prog w (ledW w) h' s.heap.objs.size es ep t ∧ KeysAre es.toList ns ∧ es.size ≤ ns.length ∧
          (∀ b o, b < s.heap.objs.size → s.heap.get? b = some o → h'.get? b = some o)) E) PySem.F.called_set.init.plain PySem.F.entry_set_init (check_set_init_1 hT ?_)) fun r₂ s₂ hr₂ => ?_
      · obtain ⟨ol, hol, hcl, nl, hdl⟩ := hl
        obtain ⟨ocls, odict, odata, oslots⟩ := ol
        simp only at hcl hdl
        subst hcl; subst hdl
        have hol' : (s.heap.push (freshSet w)).get? l = some { cls := .type "list", dict := odict, data := .seq items nl, slots := oslots } := Heap.get?_push_of_some _ hol
        have hsls := PySem.F.sub_list_set
        have hslf := PySem.F.sub_list_frozenset
        have hne : (Value.type "list" == Value.type "dict") = false := by decide
        have hl1 : (s.heap.push (freshSet w)).IsList l items := ⟨_, hol', rfl, nl, rfl⟩
        unfold Builtin.«set.__init__» noKeywords Builtin.Frozenset.updateFrom
        generalize hPI : pyIter = PI
        wp_walk
        subst hPI
        refine wpAny_pyIter_list hl1 ?_
        refine wpAny_bind (wpAny_runValue ?_)
        have hlS : l < s.heap.objs.size := Heap.lt_size hol
        have hh3 : A.in1.in1.in1.handled = none := by simp [hh]
        have hneI : l ≠ (s.heap.push (freshSet w)).objs.size := by
          rw [Heap.size_push]; exact Nat.ne_of_lt (Nat.lt_succ_of_lt hlS)
        have hSf : s.heap.objs.size ∉ [(s.heap.push (freshSet w)).objs.size, l] := by
          rw [Heap.size_push]; simp only [List.mem_cons, List.mem_singleton, List.not_mem_nil, or_false, not_or]
          exact ⟨Nat.ne_of_lt (Nat.lt_succ_self _), Nat.ne_of_gt hlS⟩
        have hval : ∀ (i : Nat) (v : Value), items[i]? = some v → ∃ t, v = .int ((fun i => ns.getD i 0) i) t := fun i v hv =>
          IntsAre.int_at hi i v (by rw [Array.getElem?_toList]; exact hv)
        have hS0 : SetIs prog w (ledW w) ((s.heap.push (freshSet w)).push { cls := .type "list_iterator", data := .fields #[.ref l, .int 0 0] }) s.heap.objs.size #[] 0 (.fresh 0 0 (ledW w)) :=
          ⟨Heap.get?_push_of_some _ hS, (fun e he => by simp at he), rfl, TblOk.fresh _⟩
        refine set_loop ((Walks.list hh3 _ l hneI items).toS) s.heap.objs.size
          hSf (fun i => ns.getD i 0) hval hb (items.size - 0) 0 _ _ _ _ (by omega) (Nat.zero_le _)
          ⟨⟨_, Heap.get?_push_size _ rfl, rfl, rfl⟩, (hl1.push _)⟩ hS0 ⟨by simp [keysS], fun k => by simp [keysS]⟩ (Nat.le_refl _) ?hR
        case hR =>
          intro s' es' ep' t' hm hS' hK' hz'
          obtain ⟨h', g', d', tk', os'⟩ := s'
          have eg : g' = s.gens := hm.gens
          have ed : d' = s.drawn := hm.drawn
          have eo : os' = s.os := hm.os
          subst eg; subst ed; subst eo
          have e1 : (List.range items.size).map (fun i => ns.getD i 0) = ns := by
            apply List.ext_getElem?
            intro i
            rw [List.getElem?_map, hlen]
            rcases Nat.lt_or_ge i ns.length with q | q
            · rw [List.getElem?_range q]; simp [q]
            · rw [List.getElem?_eq_none (by simpa using q), List.getElem?_eq_none q]; rfl
          rw [e1] at hK'
          show wpAny _ _ _ _ _ _
          refine wpAny_pure ?_
          show wpAny _ _ (ret Value.none) _ _ _
          refine wpAny_pure ⟨rfl, h', tk', es', ep', t', rfl, hS', hK', by omega, fun b o hb e => ?_⟩
          have hb1 : b ≠ s.heap.objs.size := Nat.ne_of_lt hb
          have hb2 : b ≠ (s.heap.push (freshSet w)).objs.size := by
            rw [Heap.size_push]; exact Nat.ne_of_lt (Nat.lt_succ_of_lt hb)
          exact hm.heap b o (by simp only [List.mem_cons, List.mem_singleton, List.not_mem_nil, or_false, not_or]; exact ⟨hb1, hb2⟩) (Heap.get?_push_of_some _ (Heap.get?_push_of_some _ e))
      · cases r₂ with
        | error e => exact hr₂
        | ok fl₂ =>
          cases fl₂ with
          | ret r =>
            obtain ⟨rfl, h', tk, es', ep', t', rfl, hS', hK', hz', hk'⟩ := hr₂
            repeat (any_goals (first | assumption | wp_step))
            exact h _ _ _ _ _ hS' hK' hz' hk'
          | _ => exact hr₂.elim
    | _ => exact hr.elim
end
end
section
open PySem PySem.W PySem.Spec PyProof.Rows
section
variable {prog : Program} {w : World} {A : Around} {E : Value → Shared → Prop} {s : Shared}
theorem hint_set {a : Addr} {Q : Bool → Shared → Prop} (hT : s.TypeIs (.ref a) "set") (h : Q false s) : wpAny (model prog w) A (Builtin.List.listLengthHint (.ref a)) Q E s := by
  unfold Builtin.List.listLengthHint
  refine wpAny_bind (wpAny_specialOf hT PySem.F.slot_set_len.lookup ?_)
  generalize hid : ("set.__len__" : String) = id0
  wp_delta
  rw [show splitId id0 = some ("set", "__len__") from by subst hid; decide +kernel]
  subst hid
  refine wpAny_bind (wpAny_isInstance (T := "set") (b := true) hT (by rw [isSubtype_type]; kernel_rfl) ?_)
  refine wpAny_ite_split (fun hab => absurd hab (by decide)) (fun _ => ?_)
  refine wpAny_ite_split (fun _ => ?_) (fun hab => absurd (by decide +kernel) hab)
  refine wpAny_bind (wpAny_typeOf hT ?_)
  exact wpAny_pure h
theorem items_vals {xs : Array (Int × Value)} {acc : Array Value} (h : ItemsOf (fun i v => ∃ e, xs[i]? = some e ∧ v = e.2) acc xs.size) : acc.toList = xs.toList.map (·.2) := by
  apply List.ext_getElem?
  intro i
  rw [List.getElem?_map, Array.getElem?_toList, Array.getElem?_toList]
  cases hv : acc[i]? with
  | some v =>
    obtain ⟨e, he, rfl⟩ := h.2 i v hv
    rw [he]; rfl
  | none =>
    have : acc.size ≤ i := by simpa using hv
    rw [h.1] at this
    rw [Array.getElem?_eq_none this]; rfl
theorem set_extend {R : Result → Shared → Prop} {a : Addr} {es : Array (Int × Value)} {ep : Nat} {t : SetTable} (H : SetIs prog w (ledW w) s.heap a es ep t) (hb : es.size < scanBound) (hh : A.handled = none)
    (S : Addr) (hSa : S ≠ a) (res : Value) (c₀ : Nat) (hS : s.heap.get? S = some { cls := .type "list", data := .seq #[] c₀ })
    (hR : ∀ d h' tk acc' c', (∀ b o, b ≠ S → s.heap.get? b = some o → h'.get? b = some o) → h'.get? S = some { cls := .type "list", dict := none, data := .seq acc' c', slots := #[] } → acc'.toList.Perm (es.toList.map (·.2)) → R (.ok (.ret res)) { s with heap := h', toks := tk, drawn := d }) :
    wpAny (model prog w) A.in1 (Builtin.List.listExtendWith (.ref S) (.ref a) res)
      (fun fin s' => match fin with | .done f => R (.ok f) s' | .again c' => c'.quiet = true ∧ codeAny (model prog w) A c' R s') (fun e s' => R (.error e) s') s := by
  have hT : s.TypeIs (.ref a) "set" := ⟨_, H.here, rfl⟩
  have hSlt := Heap.lt_size hS
  unfold Builtin.List.listExtendWith
  refine wpAny_bind (wpAny_typeOf (T := "set") hT ?_)
  have h1 : Builtin.List.listSameRef (.ref S) (.ref a) = false := by simp [Builtin.List.listSameRef, hSa]
  have n1 : (Value.type "set" == Value.type "list") = false := by decide
  have n2 : (Value.type "set" == Value.type "tuple") = false := by decide
  simp only [h1, n1, n2, Bool.or_false, Bool.false_eq_true, if_false]
  refine wpAny_bind (set_iter (A := A.in1) H hb fun d h₁ I T xs hk hIa hIT hI hp hit hTo => ?_)
  have hSI : S ≠ I := fun e => Nat.lt_irrefl _ (Nat.lt_of_lt_of_le (e ▸ hSlt) hI)
  have hST : S ≠ T := fun e => hTo.elim (fun q => hSa (e.trans q)) fun q => Nat.lt_irrefl _ (Nat.lt_of_lt_of_le (e ▸ hSlt) q)
  have hSf : S ∉ [I, a, T] := by simp only [List.mem_cons, List.not_mem_nil, or_false, not_or]; exact ⟨hSI, hSa, hST⟩
  have hxs : xs.size = es.size := hit.size
  have W := (Walks.set (prog := prog) (w := w) (A := A.in1) hh ⟨hIa, hIT⟩ es ep t xs).toS
  have key : ∀ (h : Heap) (c₁ tk : Nat), SetIt prog w h I a T es ep t xs 0 → (∀ b o, b ≠ S → s.heap.get? b = some o → h.get? b = some o) →
      h.get? S = some { cls := .type "list", data := .seq #[] c₁ } → codeAny (model prog w) A (.builtin "list.extend.loop" ⟨[.ref S, .ref I, res], []⟩) R { s with heap := h, toks := tk, drawn := d } := by
    intro h c₁ tk hst hk hS₁
    refine codeAny_extend_loopS W (by rw [hxs]; exact fits_of_scanBound hb) S hSf res xs.size 0 _ #[] c₁ rfl (Nat.zero_le _) hst hS₁ (ItemsOf.nil _) fun s' acc' c' hm hS' hacc => ?_
    rw [Moved.eq_with hm]
    refine hR d s'.heap s'.toks acc' c' (fun b o hb e => hm.heap b o (fun hmem => ?_) (hk b o hb e)) hS' ?_
    · rcases List.mem_cons.mp hmem with e' | hmem
      · exact hb e'
      · rw [List.mem_singleton.mp hmem] at e
        exact Nat.lt_irrefl _ (Nat.lt_of_lt_of_le (Heap.lt_size e) hI)
    · rw [items_vals hacc]; exact hp.map _
  have hS₁ := hk S _ hS
  refine wpAny_bind (wpAny_holding (hint_set ⟨_, hk _ _ H.here, rfl⟩ ?_))
  refine wpAny_ite_split (fun _ => ?_) (fun _ => wpAny_pure ⟨plainId_quiet PySem.F.plain_extend_loop _, key _ c₀ _ hit (fun b o _ e => hk _ _ e) hS₁⟩)
  refine wpAny_bind (wpAny_rule ?_)
  refine wpAny_bind ?_
  show wpAny _ _ (updateSeq S (·.push .none) >>= fun _ => updateSeq S (·.pop)) _ _ _
  refine wpAny_bind (wpAny_updateSeq hS₁ rfl ?_)
  have hS₂ := Heap.get?_update_self (Obj.mapSeq (·.push Value.none)) hS₁ rfl
  refine wpAny_updateSeq (hz := by seq_fits) hS₂ rfl ?_
  have hS₃ := Heap.get?_update_self (Obj.mapSeq (·.pop)) hS₂ rfl
  refine wpAny_pure ⟨plainId_quiet PySem.F.plain_extend_loop _, key _ _ _ ?_ (fun b o hb e => ?_) hS₃⟩
  · refine hit.keep fun b hb o e => ?_
    have hbS : b ≠ S := fun h => hSf (h ▸ hb)
    exact (Heap.get?_update_other _ _ (Ne.symm hbS)).trans ((Heap.get?_update_other _ _ (Ne.symm hbS)).trans e)
  · exact (Heap.get?_update_other _ _ (Ne.symm hb)).trans ((Heap.get?_update_other _ _ (Ne.symm hb)).trans (hk _ _ e))
theorem set_collect {R : List Value → Shared → Prop} {a : Addr} {es : Array (Int × Value)} {ep : Nat} {t : SetTable} (H : SetIs prog w (ledW w) s.heap a es ep t) (hb : es.size < scanBound) (hh : A.handled = none)
    (h : ∀ (d : Drawn) (h' : Heap) (tk : Nat) (acc : Array Value), (∀ b o, s.heap.get? b = some o → h'.get? b = some o) → acc.toList.Perm (es.toList.map (·.2)) → R acc.toList { s with heap := h', toks := tk, drawn := d }) :
    wpAny (model prog w) A (collect (.ref a)) R E s := by
  have ha : a < s.heap.objs.size := Heap.lt_size H.here
  unfold collect
  refine wpAny_bind (wpAny_runValue (codeAny_builtin entry_proto_collect' ?_))
  rw [Around.under_plainId PySem.F.plain_proto_collect _]
  show wpAny _ A.in1 (newList [] >>= fun l => again (.builtin "list.__iadd__" ⟨[l, .ref a], []⟩)) _ _ s
  refine wpAny_bind (wpAny_newObj_type ?_)
  refine wpAny_pure ⟨plainId_quiet PySem.F.plain_list_iadd _, codeAny_builtin entry_list_iadd' ?_⟩
  rw [Around.under_plainId PySem.F.plain_list_iadd _]
  have hS₁ : (s.heap.push { cls := .type "list", data := .seq ([] : List Value).toArray }).get? s.heap.objs.size = some { cls := .type "list", data := .seq #[] } := Heap.get?_push_size _ rfl
  show wpAny _ A.in1 (Builtin.List.listExtendWith (.ref s.heap.objs.size) (.ref a) (.ref s.heap.objs.size)) _ _ _
  have key := set_extend (A := A) (s := { s with heap := s.heap.push { cls := .type "list", data := .seq ([] : List Value).toArray } })
    (R := fun (q : Result) (s' : Shared) => ∃ (d : Drawn) (h' : Heap) (tk : Nat) (acc' : Array Value) (c' : Nat), q = .ok (.ret (.ref s.heap.objs.size)) ∧ s' = { s with heap := h', toks := tk, drawn := d } ∧
      (∀ b o, s.heap.get? b = some o → h'.get? b = some o) ∧ h'.get? s.heap.objs.size = some { cls := .type "list", dict := none, data := .seq acc' c', slots := #[] } ∧ acc'.toList.Perm (es.toList.map (·.2)))
    (H.same fun o e => Heap.get?_push_of_some _ e) hb hh s.heap.objs.size (Nat.ne_of_gt ha) (.ref s.heap.objs.size) 0 hS₁
    (fun d h' tk acc' c' hk hS' hacc => ⟨d, h', tk, acc', c', rfl, rfl, fun b o e => hk b o (Nat.ne_of_lt (Heap.lt_size e)) (Heap.get?_push_of_some _ e), hS', hacc⟩)
  refine wpAny_mono key (fun fin s' x => ?_) fun e s' x => ?_
  · cases fin with
    | done f =>
      obtain ⟨d, h', tk, acc', c', e, rfl, hk, hS', hacc⟩ := x
      cases e
      show wpAny _ A (load s.heap.objs.size >>= _) _ _ _
      refine wpAny_bind (wpAny_load hS' ?_)
      exact wpAny_pure (h d h' tk acc' hk hacc)
    | again c₁ =>
      refine ⟨x.1, codeAny_mono x.2 fun q s₂ y => ?_⟩
      obtain ⟨d, h', tk, acc', c', rfl, rfl, hk, hS', hacc⟩ := y
      show wpAny _ A (load s.heap.objs.size >>= _) _ _ _
      refine wpAny_bind (wpAny_load hS' ?_)
      exact wpAny_pure (h d h' tk acc' hk hacc)
  · obtain ⟨_, _, _, _, _, e', _⟩ := x
    cases e'
end
end
section
open PySem PySem.W PyProof.Rows
variable {g : Gr} {sc csc : Scope} {r : Nat} {c : Bool}
/-! ## sorted(set(l)) -/
noncomputable def Zc (t : TE) : TE := fun ℓ σ Q E => t ℓ σ (fun x σ₁ => match listInts x σ₁ with
  | some ns => ns.length < 64 ∧ ∀ (ns' : List Int) b, ns'.Pairwise (· < ·) → (∀ k, k ∈ ns' ↔ k ∈ ns) → σ₁ b = none → Q (.ref b) (σ₁.set b (.list (ns'.map V.int)))
  | none => False) E
theorem intsAre_keysS {prog : Program} {w : World} : ∀ {es : List (Int × Value)}, ElemsOf (intKind prog w) es → IntsAre (es.map (·.2)) (keysS es)
  | [], _ => .nil
  | e :: es, h => by
    obtain ⟨k, tg, e1, e2⟩ := elems_int h (List.mem_cons_self ..)
    show IntsAre (e.2 :: es.map (·.2)) (keyI e.2 :: keysS es)
    rw [e2, e1]
    exact .cons _ _ (intsAre_keysS h.tail)
theorem intsAre_perm {vs vs' : List Value} {ns : List Int} (h : IntsAre vs ns) (p : vs'.Perm vs) : ∃ ns', IntsAre vs' ns' ∧ ns'.Perm ns := by
  have hv : ∀ v ∈ vs, ∃ k t, v = Value.int k t := by
    clear p
    induction h with
    | nil => intro v hv; cases hv
    | cons n t _ ih =>
      intro v hv
      rcases List.mem_cons.mp hv with rfl | hv
      · exact ⟨n, t, rfl⟩
      · exact ih v hv
  have hn : ns = vs.map keyI := by
    clear hv p
    induction h with
    | nil => rfl
    | cons n t _ ih => simp only [List.map_cons, keyI]; rw [← ih]
  refine ⟨vs'.map keyI, ?_, by rw [hn]; exact p.map _⟩
  have hv' : ∀ v ∈ vs', ∃ k t, v = Value.int k t := fun v h => hv v (p.mem_iff.mp h)
  clear hv hn p h
  induction vs' with
  | nil => exact .nil
  | cons v vs' ih =>
    obtain ⟨k, t, rfl⟩ := hv' v (List.mem_cons_self ..)
    exact .cons k t (ih fun u hu => hv' u (List.mem_cons_of_mem _ hu))
theorem lt_of_nodup {ns : List Int} (h1 : ns.Pairwise (· ≤ ·)) (h2 : ns.Nodup) : ns.Pairwise (· < ·) := by
  refine (List.Pairwise.and h1 h2).imp fun {a b} h => ?_
  have := h.1; have := h.2; omega
theorem sndE_sortedSet {e : Expr} {p p' pos pos' : Pos} {t : TE} (hm : (Str.ofString "sorted", NameKind.globalImplicit) ∈ sc.names) (hb : Xi g "sorted" (.builtin "sorted")) (hm' : (Str.ofString "set", NameKind.globalImplicit) ∈ sc.names) (hb' : Xi g "set" (.type "set")) (h1 : Y5 g sc r true e t) (hs : isStar e = false) :
    Y5 g sc r true (.Call (.Name (Str.ofString "sorted") p) [.Call (.Name (Str.ofString "set") p') [e] [] pos'] [] pos) (Zc t) := .mk fun A env s ℓ σ Q E X h => by
  show wpAny _ A (do callWith pos (← eval (.Name (Str.ofString "sorted") p) env) [] (backTo pos (starEach [.Call (.Name (Str.ofString "set") p') [e] [] pos'] env)) (backToKw pos (keywordEach [] env))) _ _ s
  refine wpAny_bind (Y7 X hm hb ?_)
  rw [Yx (es := []) env rfl]
  refine Xn (.inr (.inl ⟨_, rfl⟩)) rfl ?_
  show wpAny _ A (spliced [(false, eval (.Call (.Name (Str.ofString "set") p') [e] [] pos') env)]) _ _ s
  refine Calls.spliced_cons ?_
  show wpAny _ A (do callWith pos' (← eval (.Name (Str.ofString "set") p') env) [] (backTo pos' (starEach [e] env)) (backToKw pos' (keywordEach [] env))) _ _ s
  refine wpAny_bind (Y7 X hm' hb' ?_)
  rw [Yx (es := []) env hs]
  refine Xn (.inr (.inr ⟨_, rfl⟩)) rfl ?_
  show wpAny _ A (spliced [(false, eval e env)]) _ _ s
  refine Calls.spliced_cons (wpAny_mono (h1.run A env s ℓ σ _ E X h) (fun v s₁ p => ?_) fun _ _ p => p)
  refine X7.elim p fun x σ₁ hv hR hx hs1 hq => ?_
  refine Calls.spliced_nil ⟨fun a o e => hR.base a o e, ?_⟩
  split at hq
  · rename_i ns en
    obtain ⟨hsm, hq⟩ := hq
    obtain ⟨a, us, n, rfl, ho, hus⟩ := listInts_at hR hv en
    have hlen : ns.length = us.size := by have := Yb hus; simpa using this
    refine call_set (X.room.calm rfl) ⟨_, ho, rfl, n, rfl⟩ (intsAre_of hus) (by have : scanBound = 4096 := rfl; omega) fun h' tk es ep tb hS hK hz kp => ?_
    have kp' : ∀ a o, s₁.heap.get? a = some o → h'.get? a = some o := fun a o e => kp a o (Heap.lt_size e) e
    refine Calls.spliced_nil ⟨fun a o e => (hR.keeps kp').base a o e, ?_⟩
    refine Calls.call_function_entry kind_sorted plain_sorted entry_sorted (args_sorted1 _) ?_
    unfold Builtin.«sorted»
    refine wpAny_bind (m := checkCount "sorted" 1 1 _) (wpAny_pure ?_)
    refine wpAny_bind (set_collect (A := A.in1) hS (by have : scanBound = 4096 := rfl; omega) (by show A.handled = none; exact X.room.calm rfl) fun d h2 tk2 acc hk2 hacc => ?_)
    obtain ⟨ks, hI, hks⟩ := intsAre_perm (intsAre_keysS hS.elems) hacc
    have hl : acc.toList.length = es.size := by rw [hacc.length_eq]; simp
    have h64' : acc.toList.length < 64 := by rw [hl]; omega
    refine wpAny_bind (wpAny_newList ?_ (by rw [hl]; have : sizeLine = 16777216 := rfl; omega))
    have hoL : (h2.push (seqObj "list" acc.toList.toArray 0)).get? h2.objs.size = some (seqObj "list" acc.toList.toArray 0) := Heap.get?_push_size _ rfl
    refine wpAny_bind (wpAny_holding (wpAny_call_entry slot_list_sort ⟨_, hoL, rfl⟩ entry_list_sort (list_sort_tree hoL hI h64' fun out ns' a1 a2 a3 => ⟨_, rfl, ?_⟩) (args_list_sort _)))
    refine wpAny_pure ⟨_, rfl, ?_⟩
    obtain ⟨e', he⟩ := sortedHeap_at (out := out) hoL
    have kq : ∀ b o, s₁.heap.get? b = some o → h2.get? b = some o := fun b o q => hk2 b o (kp' b o q)
    have hb0 : s₁.heap.get? h2.objs.size = none := by
      cases w : s₁.heap.get? h2.objs.size with
      | none => rfl
      | some o => exact absurd (Heap.lt_size (kq _ o w)) (Nat.lt_irrefl _)
    have hlen2 : ns'.length < 64 := by
      have := a2.length_eq; have := hks.length_eq; have := IntsAre.length hI
      omega
    have kq2 : ∀ b o, s₁.heap.get? b = some o → (sortedHeap (h2.push (seqObj "list" acc.toList.toArray 0)) h2.objs.size acc.toList out).get? b = some o := fun b o q => by
      have hb := Heap.lt_size (kq b o q)
      rw [sortedHeap_old (Nat.ne_of_lt hb) (by rw [size_push']; exact Nat.lt_succ_of_lt hb), Heap.get?_push_ne _ _ _ (Nat.ne_of_lt hb)]
      exact kq b o q
    refine ⟨.ref _, _, Yt.mpr rfl, hR.alloc (ao := .list (ns'.map V.int)) kq2 hb0 ⟨by unfold Ym; rw [List.length_map]; omega, _, _, he, VRs_of_ints a1⟩, hx.trans (.alloc kq2 hb0), hs1.trans ⟨rfl, rfl, rfl⟩, hq ns' _ (lt_of_nodup a3 ?_) (fun k => ?_) (hR.fresh hb0)⟩
    · exact (a2.trans hks).nodup_iff.mpr hK.nodup
    · rw [(a2.trans hks).mem_iff]; exact hK.mem k
  · exact hq.elim
end
section
open PySem PySem.W PyProof.Rows
variable {g : Gr} {sc csc : Scope} {r : Nat} {c : Bool} {K : Frag}
/-! ## zip of two lists -/
noncomputable def zipV : List V → List V → List V
  | x :: xs, y :: ys => .tup [x, y] :: zipV xs ys
  | _, _ => []
theorem zipV_get : ∀ {xs ys : List V} {k : Nat} {v : V}, (zipV xs ys)[k]? = some v → ∃ x y, xs[k]? = some x ∧ ys[k]? = some y ∧ v = .tup [x, y]
  | [], ys, k, v, h => by simp [zipV] at h
  | x :: xs, [], k, v, h => by simp [zipV] at h
  | x :: xs, y :: ys, 0, v, h => by simp [zipV] at h; exact ⟨x, y, rfl, rfl, h.symm⟩
  | x :: xs, y :: ys, k + 1, v, h => by simp [zipV] at h; simpa using zipV_get h
theorem zipV_end : ∀ {xs ys : List V} {k : Nat}, (zipV xs ys).length ≤ k → xs.length ≤ k ∨ ys.length ≤ k
  | [], ys, k, h => .inl (by simp)
  | x :: xs, [], k, h => .inr (by simp)
  | x :: xs, y :: ys, 0, h => by simp [zipV] at h
  | x :: xs, y :: ys, k + 1, h => by
    simp [zipV] at h
    rcases zipV_end h with q | q
    · exact .inl (by simp; omega)
    · exact .inr (by simp; omega)
theorem iters_zip (a b z TI TO i1 i2 : Addr) (xs ys : List V) (D : ZipApart z TI TO i1 i2 a b) (hTI : g.hid TI) (hTO : g.hid TO) :
    Iters g (zipV xs ys) (fun σ => σ a = some (.list xs) ∧ σ b = some (.list ys)) z (fun c => c = z ∨ c = TI ∨ c = TO ∨ c = i1 ∨ c = i2)
      (fun k h => IsZip h z TI TO .none ∧ IsPair h TI (.ref i1) (.ref i2) ∧ (∃ p q, IsPair h TO p q) ∧ h.IsListIter i1 a k ∧ h.IsListIter i2 b k) true where
  stab := fun k h h' st _ kp => ⟨kp z _ (.inl rfl) st.1, kp TI _ (.inr (.inl rfl)) st.2.1, let ⟨p, q, e⟩ := st.2.2.1; ⟨p, q, kp TO _ (.inr (.inr (.inl rfl))) e⟩, st.2.2.2.1.at fun o e => kp i1 o (.inr (.inr (.inr (.inl rfl)))) e, st.2.2.2.2.at fun o e => kp i2 o (.inr (.inr (.inr (.inr rfl)))) e⟩
  flds := fun k h y st e => by
    obtain ⟨s1, s2, ⟨p, q, s3⟩, ⟨o4, h4, _, d4⟩, ⟨o5, h5, _, d5⟩⟩ := st
    rcases e with rfl | rfl | rfl | rfl | rfl
    · exact ⟨_, s1, .inr ⟨_, rfl⟩⟩
    · exact ⟨_, s2, .inl ⟨hTI, _, _, rfl⟩⟩
    · exact ⟨_, s3, .inl ⟨hTO, _, _, rfl⟩⟩
    · exact ⟨_, h4, .inr ⟨_, d4⟩⟩
    · exact ⟨_, h5, .inr ⟨_, d5⟩⟩
  self := fun k A E s Q st h => wpAny_pyIter_zip st.1 h
  item := fun k x A E s σ target Q hx st R iv off tp h => by
    obtain ⟨es, m, p, rfl⟩ := tp rfl
    obtain ⟨u, w, hu, hw, rfl⟩ := zipV_get hx
    obtain ⟨hf1, vs, n, ho, hv⟩ := (R.own a _ iv.1).2
    obtain ⟨hf2, vs', n', ho', hv'⟩ := (R.own b _ iv.2).2
    obtain ⟨s1, s2, ⟨p1, q1, s3⟩, s4, s5⟩ := id st
    obtain ⟨uv, eu, hus⟩ := VRs_getA hv hu
    obtain ⟨wv, ew, hws⟩ := VRs_getA hv' hw
    obtain ⟨o4, h4, _, d4⟩ := id s4
    obtain ⟨o5, h5, _, d5⟩ := id s5
    refine wpAny_pyNext_zip_item D s1 s2 s3 s4 s5 ⟨_, ho, rfl, n, rfl⟩ ⟨_, ho', rfl, n', rfl⟩ eu ew fun h' a1 a2 a3 a4 a5 a6 kp => ?_
    refine wpAny_letOwnedTupleGo_zip a1 fun h'' hz'' sb => ?_
    have kb : KeptBut (fun c => c = z ∨ c = TI ∨ c = TO ∨ c = i1 ∨ c = i2) s.heap h'' := fun y o nb eb => sb.extBut y o (fun q => nb (.inl q)) (kp y o (fun q => nb (.inl q)) (fun q => nb (.inr (.inr (.inl q)))) (fun q => nb (.inr (.inr (.inr (.inl q))))) (fun q => nb (.inr (.inr (.inr (.inr q))))) eb)
    have tk : Y8 g s.heap h'' := fun y o xs' n'' nh eb cl d => by
      refine .of (kb y o ?_ eb)
      rintro (rfl | rfl | rfl | rfl | rfl)
      · rw [s1] at eb; cases eb; cases d
      · exact nh hTI
      · exact nh hTO
      · rw [h4] at eb; cases eb; rw [d4] at d; cases d
      · rw [h5] at eb; cases eb; rw [d5] at d; cases d
    have ez : s.heap.objs.size ≠ z := Nat.ne_of_gt (Heap.lt_size s1)
    refine h _ _ kb ⟨rfl, rfl, rfl⟩ ⟨hz'', sb.extBut _ _ D.TIz (kp _ _ D.TIz D.TITO D.TIi1 D.TIi2 s2), ⟨_, _, sb.extBut _ _ D.TOz a2⟩, a3.extBut sb.extBut D.i1z, a4.extBut sb.extBut D.i2z⟩ ?_
    refine Wd.mpr ⟨by simp [Ym], _, _, _, _, rfl, fun nh => ?_, sb.extBut _ _ ez a5, rfl, rfl, ?_⟩
    · obtain ⟨o', eo⟩ := R.hid _ nh; rw [Yw] at eo; cases eo
    · exact Y4 (VR.mono tk hus) (Y4 (VR.mono tk hws) Xs)
  last := fun k A E s σ Q hk hh st R iv off h => by
    obtain ⟨hf1, vs, n, ho, hv⟩ := (R.own a _ iv.1).2
    obtain ⟨hf2, vs', n', ho', hv'⟩ := (R.own b _ iv.2).2
    obtain ⟨s1, s2, ⟨p1, q1, s3⟩, s4, s5⟩ := id st
    have hend : vs[k]? = none ∨ vs'[k]? = none := by
      rcases zipV_end hk with q | q
      · exact .inl (VRs_noneA hv q)
      · exact .inr (VRs_noneA hv' q)
    exact wpAny_pyNext_zip_end hh D s1 s2 s3 s4 s5 ⟨_, ho, rfl, n, rfl⟩ ⟨_, ho', rfl, n', rfl⟩ hend fun h' kp => h { s with heap := h' } (fun y o nb eb => kp y o (fun q => nb (.inl q)) (fun q => nb (.inr (.inr (.inl q)))) (fun q => nb (.inr (.inr (.inr (.inl q))))) (fun q => nb (.inr (.inr (.inr (.inr q))))) eb) ⟨rfl, rfl, rfl⟩
theorem zip_apart {n a b : Nat} (ha : a < n) (hb : b < n) : ZipApart (n + 4) (n + 2) (n + 3) n (n + 1) a b := by
  constructor <;> (intro q; have q : (_ : Nat) = _ := q; omega)
noncomputable def Z5 (t₁ t₂ : TE) : TI := fun ℓ σ Q E => t₁ ℓ σ (fun x σ₁ => t₂ ℓ σ₁ (fun y σ₂ => ∃ a b xs ys, x = .ref a ∧ y = .ref b ∧ σ₂ a = some (.list xs) ∧ σ₂ b = some (.list ys) ∧ Q (zipV xs ys) (fun σ => σ a = some (.list xs) ∧ σ b = some (.list ys)) true σ₂) E) E
theorem zipV_length : ∀ {xs ys : List V}, (zipV xs ys).length ≤ xs.length
  | [], ys => by simp [zipV]
  | x :: xs, [] => by simp [zipV]
  | x :: xs, y :: ys => by simp [zipV, zipV_length]
theorem sndIH_zip {e₁ e₂ : Expr} {p pos' : Pos} {t₁ t₂ : TE} (hm : (Str.ofString "zip", NameKind.globalImplicit) ∈ sc.names) (hk : Xi g "zip" (.type "zip")) (h1 : Y5 g sc r true e₁ t₁) (h2 : Y5 g sc r true e₂ t₂) (hs1 : isStar e₁ = false) (hs2 : isStar e₂ = false) :
    SndIH g sc r true (fun _ => True) (.Call (.Name (Str.ofString "zip") p) [e₁, e₂] [] pos') (Z5 t₁ t₂) := .mk fun A env s ℓ σ Q E X h => by
  show wpAny _ A (do callWith pos' (← eval (.Name (Str.ofString "zip") p) env) [] (backTo pos' (starEach [e₁, e₂] env)) (backToKw pos' (keywordEach [] env))) _ _ s
  refine wpAny_bind (Y7 X hm hk ?_)
  rw [Yx env hs1, Yx (es := []) env hs2]
  refine Xn (.inr (.inr ⟨_, rfl⟩)) rfl ?_
  show wpAny _ A (spliced [(false, eval e₁ env), (false, eval e₂ env)]) _ _ s
  refine Calls.spliced_cons (wpAny_mono (h1.run A env s ℓ σ _ _ X h) (fun v s₁ q => ?_) fun _ _ q => q)
  refine X7.elim q fun x σ₁ hv hR hx hsa hq => ?_
  have X1 := X.step hR hx
  refine Calls.spliced_cons (wpAny_mono (h2.run A env s₁ ℓ σ₁ _ _ X1 hq) (fun w s₂ q => ?_) fun _ _ q => q.back hx hsa)
  obtain ⟨y, σ₂, hw, hR2, hx2, hsb, a, b, xs, ys, rfl, rfl, ea, eb, hl⟩ := q
  refine Calls.spliced_nil ⟨fun a o e => hR2.base a o e, ?_⟩
  rw [Yt.mp hv, Yt.mp hw]
  obtain ⟨hf1, us, n, ho, hvs⟩ := (hR2.own a _ ea).2
  obtain ⟨hf2, us', n', ho', hvs'⟩ := (hR2.own b _ eb).2
  refine call_zip_2 ⟨_, ho, rfl, n, rfl⟩ ⟨_, ho', rfl, n', rfl⟩ fun h' hz hTI hTO hi1 hi2 hsz kp => ?_
  refine wpAny_pyIter_zip hz ?_
  have fr : ∀ c, s₂.heap.objs.size ≤ c → s₂.heap.get? c = none := fun c hc => Heap.get?_none_of_le hc
  have hx02 : Ext No s.heap σ s₂.heap σ₂ := hx.trans hx2
  let H : Addr → Prop := fun c => g.hid c ∨ c = s₂.heap.objs.size + 2 ∨ c = s₂.heap.objs.size + 3
  have hk' : ∀ c o, s₂.heap.get? c = some o → H c → g.hid c := fun c o e q => by
    rcases q with q | q | q
    · exact q
    · rw [q, fr _ (by omega)] at e; cases e
    · rw [q, fr _ (by omega)] at e; cases e
  have hp : ∀ c, H c → ∃ o, h'.get? c = some o := fun c q => by
    rcases q with q | q | q
    · obtain ⟨o, e⟩ := hR2.hid c q; exact ⟨o, kp c o e⟩
    · rw [q]; exact ⟨_, hTI⟩
    · rw [q]; exact ⟨_, hTO⟩
  have hR' : Rel (g.wh H) h' σ₂ := Rel.more hk' hR2 kp hp
  refine ⟨H, trivial, fun _ q => .inl q, fun c o e q => ?_, zipV xs ys, _, _, _, _, true, σ₂, rfl, iters_zip (g := g.wh H) a b _ _ _ _ _ xs ys (zip_apart (Heap.lt_size ho) (Heap.lt_size ho')) (.inr (.inl rfl)) (.inr (.inr rfl)), ⟨hz, hTI, ⟨_, _, hTO⟩, hi1, hi2⟩, hR', hx02.trans (.keeps kp), (hsa.trans hsb).trans ⟨rfl, rfl, rfl⟩, fun c q => ?_, hf1.le zipV_length, hl⟩
  · obtain ⟨o', e'⟩ := hx02.pres _ o e
    exact hk' c o' e' q
  have hc : s₂.heap.get? c = none := by
    rcases q with q | q | q | q | q <;> (rw [q]; first | exact fr _ (Nat.le_add_right _ _) | exact fr _ (Nat.le_refl _))
  refine ⟨?_, hR2.fresh hc⟩
  cases e : s.heap.get? c with
  | none => rfl
  | some o => obtain ⟨o', e'⟩ := hx02.pres _ o e; rw [hc] at e'; cases e'
end
section
open PySem PySem.W PyProof.Rows
section
variable {prog : Program} {w : World} {A : Around} {E : Value → Shared → Prop} {s : Shared}
end
/-! ## dict(list of pairs) -/
section
variable {g : Gr} {r : Nat} {A : Around}
theorem entry_update_loop : entryFor table "dict.update.loop" = some Builtin.«dict.update.loop» := entryFor_of_tree (by kernel_rfl)
theorem plain_update_loop : plainId "dict.update.loop" = true := by decide +kernel
end
end
section
open PySem PySem.W PyProof.Rows
section
variable {prog : Program} {w : World} {A : Around} {E : Value → Shared → Prop} {s : Shared}
noncomputable abbrev enumObj (vs : Array Value) : Obj := { cls := .type "enumerate", data := .fields vs }
theorem enum_no_keys : typeLookup (.type "enumerate") "keys" = pure none := by rw [typeLookup_type, builtinLookup_eq_fast]; kernel_rfl
theorem enum_getattr_none : typeLookup (.type "enumerate") "__getattr__" = pure none := by rw [typeLookup_type, builtinLookup_eq_fast]; kernel_rfl
theorem entry_enum_getattribute : entryFor table "enumerate.__getattribute__" = some Builtin.«object.__getattribute__» :=
  entryFor_alias (id' := "object.__getattribute__") (by kernel_rfl) (by decide +kernel) (by decide +kernel) (by kernel_rfl)
theorem meets_miss_enum (a : Addr) (vs : Array Value) (name : Str) (u : Tok) (hmiss : typeLookup (.type "enumerate") name = pure none) (hname : (["__module__", "__name__", "__qualname__", "__doc__", "__annotations__"] : List Str).contains name = false) (hsz : name.length + 100 ≤ sizeLine := by size_fits) :
    Meets (Builtin.«object.__getattribute__» ⟨[.ref a, .str name u], []⟩) (fun A R s => s.heap.get? a = some (enumObj vs) ∧ raisesAttr (.ref a) name A R s) :=
  Meets.of_wp fun prog w A R s hs => by
    obtain ⟨hp, g, d, tk, os⟩ := s
    obtain ⟨hx, hs⟩ := hs
    have hT : (⟨hp, g, d, tk, os⟩ : Shared).TypeIs (.ref a) "enumerate" := ⟨_, hx, rfl⟩
    unfold Builtin.«object.__getattribute__»
    repeat (any_goals (first | assumption | wp_step))
    simp only [hname, Bool.false_eq_true, if_false]
    repeat (any_goals (first | assumption | wp_step))
    exact wpAny_raiseAttrError hs.1 hs.2 (attrMsg_fits (by decide +kernel) hsz)
theorem keys_miss_enum {a : Addr} {vs : Array Value} {Q : Option Value → Shared → Prop} (hx : s.heap.get? a = some (enumObj vs)) (hA : A.handled = none)
    (h : ∀ h' tk, (∀ b o, s.heap.get? b = some o → h'.get? b = some o) → Q none { s with heap := h', toks := tk }) : wpAny (model prog w) A (getAttr? (.ref a) "keys") Q E s := by
  obtain ⟨hp, g, d, tk, os⟩ := s
  have hT : ∀ tk', (⟨hp, g, d, tk', os⟩ : Shared).TypeIs (.ref a) "enumerate" := fun _ => ⟨_, hx, rfl⟩
  have f1 := sub_AttributeError
  have f3 := F.slot_enumerate_getattribute.lookup
  have f4 := F.slot_enumerate_getattribute.bind (.ref a)
  have f5 := enum_getattr_none
  have hname : (["__module__", "__name__", "__qualname__", "__doc__", "__annotations__"] : List Str).contains (Str.ofString "keys") = false := by decide +kernel
  unfold getAttr?
  refine wpAny_bind (wpAny_mkText ?_)
  unfold getAttrBy?
  refine wpAny_bind (wpAny_attempt ?_)
  unfold getAttrBy
  refine wpAny_holding ?_
  refine wpAny_bind (wpAny_typeOf (T := "enumerate") (hT _) ?_)
  refine wpAny_bind (wpAny_of_eq f3 ?_)
  show wpAny _ _ (getAttrByItsOwn (.ref a) (.str "keys" tk) (.type "enumerate") (.builtin "enumerate.__getattribute__") false false) _ _ _
  unfold getAttrByItsOwn
  refine wpAny_bind ?_
  show wpAny _ _ (pure none) _ _ _
  refine wpAny_pure ?_
  refine wpAny_bind (wpAny_attempt (wpAny_holding ?_))
  show wpAny _ _ (bindSpecial (.builtin "enumerate.__getattribute__") (.ref a) >>= _) _ _ _
  refine wpAny_bind (wpAny_of_eq f4 ?_)
  show wpAny _ _ (call (.builtin "enumerate.__getattribute__") [.ref a, .str "keys" tk]) _ _ _
  refine call_meets F.slot_enumerate_getattribute (hT _) entry_enum_getattribute (F.args_enumerate_getattribute_2 _ _) (meets_miss_enum a vs "keys" _ enum_no_keys hname (by decide +kernel)) ⟨hx, hA, fun h' tk' e hx' => ?_⟩
  obtain ⟨t', u', he⟩ := hx'.there
  show wpAny _ _ (getattributeRaised _ _ _ _ _ _ _) _ _ _
  unfold getattributeRaised
  refine wpAny_bind (wpAny_isInstance (T := "AttributeError") ⟨_, he, rfl⟩ f1 ?_)
  rw [if_pos rfl]
  refine wpAny_bind ?_
  show wpAny _ _ (typeLookup (.type "enumerate") "__getattr__") _ _ _
  refine wpAny_of_eq f5 ?_
  show wpAny _ _ (throw (Value.ref e) >>= _) _ _ _
  refine wpAny_bind (wpAny_throw ?_)
  refine wpAny_bind (wpAny_isInstance (T := "AttributeError") ⟨_, he, rfl⟩ f1 ?_)
  rw [if_pos rfl]
  exact wpAny_pure (h _ _ hx'.keeps)
/-! ## an enumerate of which the items are held -/
noncomputable def EnumG (h : Heap) (e it : Addr) (i : Nat) : Prop := ∃ own fl old, h.get? e = some (enumObj #[own, fl, .ref it, rawInt i, .none, old]) ∧ (own = .none ∨ ∃ T : Nat, own = rawInt T)
theorem alive {a : Addr} {Q : Option Obj → Shared → Prop} (h : Q (s.heap.get? a) s) : wpAny (model prog w) A (loadIfAlive a) Q E s := by
  intro Γ p hΓ
  unfold loadIfAlive
  rw [Sem.wp_loadIfAlive]
  exact h
theorem enum_item {e it l : Addr} {i : Nat} {items : Array Value} {x : Value} {Q : Option Value → Shared → Prop} (H : EnumG s.heap e it i) (hit : s.heap.IsListIter it l i) (hl : s.heap.IsList l items) (hx : items[i]? = some x) (hne : e ≠ it)
    (hQ : ∀ h', EnumG h' e it (i + 1) → h'.IsListIter it l (i + 1) → h'.get? s.heap.objs.size = some { cls := .type "tuple", data := .seq #[.int i s.toks, x] } →
      (∀ b o, b ≠ e → b ≠ it → s.heap.get? b = some o → h'.get? b = some o) → Q (some (.ref s.heap.objs.size)) { s with heap := h', toks := s.toks + 1 }) :
    wpAny (model prog w) A (pyNext (.ref e)) Q E s := by
  obtain ⟨own, fl, old, he, hown⟩ := H
  have hT : s.TypeIs (.ref e) "enumerate" := ⟨_, he, rfl⟩
  unfold pyNext
  refine wpAny_bind (wpAny_attempt (wpAny_callSpecial?_slot (name := Str.ofString "__next__") hT F.slot_enumerate_next
    (wpAny_call_entry F.slot_enumerate_next hT F.entry_enumerate_next ?_ (F.args_enumerate_next_1 _))))
  obtain ⟨hp, g, d, tk, os⟩ := s
  show wpAny _ _ (field (.ref e) 2 >>= _) _ _ _
  refine wpAny_bind (wpAny_field he rfl (x := .ref it) rfl ?_)
  refine wpAny_bind (wpAny_nextOf_list_item hit hl hx fun h₁ hit₁ hs₁ => ?_)
  replace hs₁ : Heap.SameBut it hp h₁ := hs₁
  have he₁ := (hs₁.2 e hne).trans he
  show wpAny _ _ (field (.ref e) 3 >>= _) _ _ ⟨h₁, g, d, tk, os⟩
  refine wpAny_bind (wpAny_field he₁ rfl (x := rawInt i) rfl ?_)
  show wpAny _ _ (field (.ref e) 4 >>= _) _ _ ⟨h₁, g, d, tk, os⟩
  refine wpAny_bind (wpAny_field he₁ rfl (x := .none) rfl ?_)
  show wpAny _ _ (mkInt i >>= _) _ _ ⟨h₁, g, d, tk, os⟩
  refine wpAny_bind (wpAny_mkInt ?_)
  show wpAny _ _ (setField (.ref e) 3 (rawInt ((i : Int) + 1)) >>= _) _ _ ⟨h₁, g, d, tk + 1, os⟩
  refine wpAny_bind (wpAny_setField_rec he₁ (by simp) fun h₂ he₂ hs₂ => ?_)
  replace hs₂ : Heap.SameBut e h₁ h₂ := hs₂
  show wpAny _ _ (setField (.ref e) 4 .none >>= _) _ _ ⟨h₂, g, d, tk + 1, os⟩
  refine wpAny_bind (wpAny_setField_rec he₂ (by simp) fun h₃ he₃ hs₃ => ?_)
  replace hs₃ : Heap.SameBut e h₂ h₃ := hs₃
  replace he₃ : h₃.get? e = some (enumObj #[own, fl, .ref it, rawInt (i + 1 : Nat), .none, old]) := he₃
  show wpAny _ _ (newTuple [.int i tk, x] >>= _) _ _ ⟨h₃, g, d, tk + 1, os⟩
  refine wpAny_bind (wpAny_newTuple ?_)
  have he₄ : (h₃.push { cls := .type "tuple", data := .seq #[.int i tk, x] }).get? e = some (enumObj #[own, fl, .ref it, rawInt (i + 1 : Nat), .none, old]) := Heap.get?_push_of_some _ he₃
  generalize hh₄ : h₃.push { cls := .type "tuple", data := .seq #[.int i tk, x] } = h₄ at he₄
  have hsz : h₃.objs.size = hp.objs.size := by rw [hs₃.1, hs₂.1, hs₁.1]
  have hel : e < hp.objs.size := Heap.lt_size he
  have ht₄ : h₄.get? hp.objs.size = some { cls := .type "tuple", data := .seq #[.int i tk, x] } := by rw [← hh₄, ← hsz]; exact Heap.get?_push_size _ rfl
  have hk₄ : ∀ b o, b ≠ e → b ≠ it → hp.get? b = some o → h₄.get? b = some o := fun b o hbe hbi hb => by
    rw [← hh₄]; exact Heap.get?_push_of_some _ (hs₃.extBut b o hbe (hs₂.extBut b o hbe (hs₁.extBut b o hbi hb)))
  have hit₄ : h₄.IsListIter it l (i + 1) := by
    rw [← hh₄]; obtain ⟨o, ho, r⟩ := (hit₁.extBut hs₂.extBut (Ne.symm hne)).extBut hs₃.extBut (Ne.symm hne); exact ⟨o, Heap.get?_push_of_some _ ho, r⟩
  show wpAny _ _ (Builtin.SmallTypes.ownedTupleIsFree (.ref e) >>= _) _ _ ⟨h₄, g, d, tk + 1, os⟩
  rw [hsz]
  clear hh₄ he₃ hs₃ he₂ hs₂ he₁ hs₁ hit₁ hsz h₃ h₂ h₁
  have out : wpAny (model prog w) A.in1 (do
      rule "enumerate.__next__.owned-tuple-again"
      let old ← field (.ref e) 5
      setField (.ref e) 5 x
      Builtin.SmallTypes.ownedTupleHandOut (.ref e) (.ref hp.objs.size)
      letGo [old] [.ref hp.objs.size]
      ret (.ref hp.objs.size)) (fun fin s' => ∃ v, fin = .done (.ret v) ∧ wpAny (model prog w) A (pure (some v)) Q E s') (fun e s' => wpAny (model prog w) A (do if (← isInstance e (.type "StopIteration")) = true then pure none else throw e) Q E s') ⟨h₄, g, d, tk + 1, os⟩ := by
    refine wpAny_bind (wpAny_rule ?_)
    refine wpAny_bind (wpAny_field he₄ rfl (x := old) rfl ?_)
    refine wpAny_bind (wpAny_setField_rec he₄ (by simp) fun h₅ he₅ hs₅ => ?_)
    replace hs₅ : Heap.SameBut e h₄ h₅ := hs₅
    refine wpAny_bind ?_
    unfold Builtin.SmallTypes.ownedTupleHandOut
    refine wpAny_bind (wpAny_setField_rec he₅ (by simp) fun h₆ he₆ hs₆ => ?_)
    replace hs₆ : Heap.SameBut e h₅ h₆ := hs₆
    refine wpAny_setField_rec he₆ (by simp) fun h₇ he₇ hs₇ => ?_
    replace hs₇ : Heap.SameBut e h₆ h₇ := hs₇
    refine wpAny_bind (wpAny_letGo (wpAny_pure ⟨_, rfl, wpAny_pure (hQ h₇ ⟨rawInt hp.objs.size, _, x, he₇, .inr ⟨hp.objs.size, rfl⟩⟩ ?_ ?_ ?_)⟩))
    · exact ((hit₄.extBut hs₅.extBut (Ne.symm hne)).extBut hs₆.extBut (Ne.symm hne)).extBut hs₇.extBut (Ne.symm hne)
    · exact hs₇.extBut _ _ (Nat.ne_of_gt hel) (hs₆.extBut _ _ (Nat.ne_of_gt hel) (hs₅.extBut _ _ (Nat.ne_of_gt hel) ht₄))
    · exact fun b o hbe hbi hb => hs₇.extBut b o hbe (hs₆.extBut b o hbe (hs₅.extBut b o hbe (hk₄ b o hbe hbi hb)))
  refine wpAny_bind ?_
  unfold Builtin.SmallTypes.ownedTupleIsFree
  refine wpAny_bind (wpAny_field he₄ rfl (x := own) rfl ?_)
  rcases hown with rfl | ⟨T, rfl⟩
  · refine wpAny_pure ?_
    simp only [if_true]
    exact out
  · dsimp only [rawInt]
    refine wpAny_bind (alive ?_)
    cases hal : h₄.get? ((T : Int)).toNat with
    | none =>
      simp only [Option.isNone_none, if_true]
      refine wpAny_pure ?_
      simp only [if_true]
      exact out
    | some o =>
      simp only [Option.isNone_some, Bool.false_eq_true, if_false]
      refine wpAny_bind (wpAny_field he₄ rfl (x := fl) rfl ?_)
      by_cases hfl : (fl != .bool true) = true
      · rw [if_pos hfl]
        refine wpAny_bind (wpAny_setField_rec he₄ (by simp) fun h₅ he₅ hs₅ => wpAny_pure ?_)
        replace hs₅ : Heap.SameBut e h₄ h₅ := hs₅
        simp only [Bool.false_eq_true, if_false]
        refine wpAny_pure ⟨_, rfl, wpAny_pure (hQ h₅ ⟨_, _, old, he₅, .inr ⟨T, rfl⟩⟩ (hit₄.extBut hs₅.extBut (Ne.symm hne)) (hs₅.extBut _ _ (Nat.ne_of_gt hel) ht₄) fun b o hbe hbi hb => hs₅.extBut b o hbe (hk₄ b o hbe hbi hb))⟩
      · rw [if_neg hfl]
        refine wpAny_pure ?_
        simp only [Bool.false_eq_true, if_false]
        exact wpAny_pure ⟨_, rfl, wpAny_pure (hQ h₄ ⟨_, _, old, he₄, .inr ⟨T, rfl⟩⟩ hit₄ ht₄ hk₄)⟩
theorem enum_end {e it l : Addr} {i : Nat} {items : Array Value} {Q : Option Value → Shared → Prop} (hh : A.handled = none)
    (H : EnumG s.heap e it i) (hit : s.heap.IsListIter it l i) (hl : s.heap.IsList l items) (hx : items[i]? = none)
    (hQ : ∀ h', Heap.ExtBut it s.heap h' → Q none { s with heap := h' }) : wpAny (model prog w) A (pyNext (.ref e)) Q E s := by
  obtain ⟨own, fl, old, he, hown⟩ := H
  have hT : s.TypeIs (.ref e) "enumerate" := ⟨_, he, rfl⟩
  unfold pyNext
  refine wpAny_bind (wpAny_attempt (wpAny_callSpecial?_slot (name := Str.ofString "__next__") hT F.slot_enumerate_next
    (wpAny_call_entry F.slot_enumerate_next hT F.entry_enumerate_next ?_ (F.args_enumerate_next_1 _))))
  show wpAny _ _ (field (.ref e) 2 >>= _) _ _ _
  refine wpAny_bind (wpAny_field he rfl (x := .ref it) rfl ?_)
  refine wpAny_bind (wpAny_nextOf_list_end hh hit hl hx fun h' x he' hx' => ?_)
  obtain ⟨o, ho, hc⟩ := hx'
  refine wpAny_bind (wpAny_isInstance (T := "StopIteration") (b := true) ⟨o, ho, hc⟩ isSubtype_stop ?_)
  exact wpAny_pure (hQ _ he')
end
end
section
open PySem PySem.W PyProof.Rows
variable {g : Gr} {r : Nat} {sc : Scope} {c : Bool}
/-! ## d != {} -/
end
section
open PySem PySem.W PyProof.Rows
section
variable {g : Gr} {A : Around}
theorem stored_new {ws : List (Int × Value)} {k : Int} {u : Value} (h : k ∉ ws.map (·.1)) : stored ws k u = ws ++ [(k, u)] := by
  unfold stored
  rw [if_neg ?_]
  intro q
  obtain ⟨p, hp, e⟩ := List.any_eq_true.mp q
  exact h (List.mem_map.mpr ⟨p, hp, by simpa using e⟩)
theorem enum_loop {h0 : Heap} {l I it d : Addr} {us : Array Value} {R : Result → Shared → Prop} (hh : A.handled = none) (hIi : I ≠ it) (hdI : d ≠ I) (hdi : d ≠ it) (hI0 : h0.get? I = none) (hi0 : h0.get? it = none) (hd0 : h0.get? d = none) (hl0 : h0.IsList l us) (hsm : us.size ≤ 1000000) :
    ∀ (k i : Nat) (s : Shared) (ws : List (Int × Value)), us.size - i = k → i ≤ us.size → EnumG s.heap I it i → s.heap.IsListIter it l i → (∀ b o, h0.get? b = some o → s.heap.get? b = some o) → s.heap.DictOf (intKind g.prog g.w) d ws → ws.map (·.1) = (List.range i).map Int.ofNat → ws.map (·.2) = us.toList.take i →
    (∀ h' tk ws', (∀ b o, h0.get? b = some o → h'.get? b = some o) → h'.DictOf (intKind g.prog g.w) d ws' → ws'.map (·.1) = (List.range us.size).map Int.ofNat → ws'.map (·.2) = us.toList → R (.ok (.ret .none)) { s with heap := h', toks := tk }) →
    codeAny (model g.prog g.w) A (.builtin "dict.update.loop" ⟨[.ref d, .ref I, rawInt i, .none], []⟩) R s := by
  intro k
  induction k with
  | zero =>
    intro i s ws hk hi hen hit kp hd hks hvv hR
    have hie : i = us.size := by omega
    refine codeAny_builtin entry_update_loop ?_
    rw [Around.under_plainId plain_update_loop _]
    show wpAny _ A.in1 (pyNext (.ref I) >>= _) _ _ s
    refine wpAny_bind (enum_end hh hen hit (hl0.at fun o e => kp _ _ e) (by simp [hie]) fun h' eb => ?_)
    show wpAny _ A.in1 (Builtin.Dict.addKeywords d [] >>= _) _ _ _
    refine wpAny_bind (wpAny_pure (wpAny_pure ?_))
    refine hR h' s.toks ws (fun b o e => eb b o (fun z => by rw [z, hi0] at e; cases e) (kp b o e)) (hd.extBut eb hdi) (by rw [hks, hie]) ?_
    rw [hvv, hie, ← Array.length_toList, List.take_length]
  | succ k ih =>
    intro i s ws hk hi hen hit kp hd hks hvv hR
    have hlt : i < us.size := by omega
    refine codeAny_builtin entry_update_loop ?_
    rw [Around.under_plainId plain_update_loop _]
    show wpAny _ A.in1 (pyNext (.ref I) >>= _) _ _ s
    have ev' : us[i]? = some us[i] := by simp [hlt]
    have hds : d < s.heap.objs.size := let ⟨_, _, _, e, _⟩ := hd; Heap.lt_size e
    have hIs : I < s.heap.objs.size := let ⟨_, _, _, e, _⟩ := hen; Heap.lt_size e
    refine wpAny_bind (enum_item hen hit (hl0.at fun o e => kp _ _ e) ev' hIi fun h' hen' hit' hto kp1 => ?_)
    have kp' : ∀ b o, h0.get? b = some o → h'.get? b = some o := fun b o e => kp1 b o (fun z => by rw [z, hI0] at e; cases e) (fun z => by rw [z, hi0] at e; cases e) (kp b o e)
    have hd' : h'.DictOf (intKind g.prog g.w) d ws := by
      obtain ⟨o, es, ep, e, rest⟩ := hd
      exact ⟨o, es, ep, kp1 _ _ hdI hdi e, rest⟩
    show wpAny _ A.in1 (holding [.ref s.heap.objs.size] _ >>= _) _ _ _
    refine wpAny_bind (wpAny_holding (wpAny_bind (wpAny_tryCatch ?_)))
    unfold Builtin.Dict.pairItems
    refine wpAny_bind (wpAny_typeOf (T := "tuple") ⟨_, hto, rfl⟩ ?_)
    rw [if_pos (by decide)]
    refine wpAny_bind (wpAny_seqItems hto rfl (wpAny_pure ?_))
    show wpAny _ A.in1 (holding [.int i s.toks, us[i]] (dictSet d (.int i s.toks) us[i])) _ _ _
    have hwl : ws.length = i := by have := congrArg List.length hks; simpa using this
    refine wpAny_holding (wpAny_dictSet_pairs (intKind_is _ _ (i : Int) s.toks) hd' (fun h'' hd'' sb'' => ?_) (by have : sizeLine = 16777216 := rfl; omega))
    rw [stored_new (by rw [hks]; simp; intro x hx; omega)] at hd''
    refine wpAny_pure ⟨plainId_quiet plain_update_loop _, ?_⟩
    refine ih (i + 1) _ (ws ++ [((i : Int), us[i])]) (by omega) hlt ?_ (hit'.at fun o e => sb''.extBut _ _ (Ne.symm hdi) e) (fun b o e => sb''.extBut b o (fun z => by rw [z, hd0] at e; cases e) (kp' b o e)) hd'' ?_ ?_ fun h3 tk ws' k1 k2 k3 k4 => hR h3 tk ws' k1 k2 k3 k4
    · obtain ⟨own, fl, old, he, ho⟩ := hen'
      exact ⟨own, fl, old, sb''.extBut _ _ (Ne.symm hdI) he, ho⟩
    · rw [List.map_append, hks, List.range_succ, List.map_append]; rfl
    · rw [List.map_append, hvv, List.take_add_one]
      congr 1
      simp [hlt]
end
variable {g : Gr} {sc csc : Scope} {r : Nat} {c : Bool}
/-! ## dict(enumerate(l)) -/
noncomputable def enumKV (xs : List V) : List (Int × V) := ((List.range xs.length).map Int.ofNat).zip xs
theorem enumKV_keys (xs : List V) : (enumKV xs).map (·.1) = (List.range xs.length).map Int.ofNat := by
  unfold enumKV; rw [List.map_fst_zip]; simp
theorem enumKV_vals (xs : List V) : (enumKV xs).map (·.2) = xs := by
  unfold enumKV; rw [List.map_snd_zip]; simp
noncomputable def Zd (t : TE) : TE := fun ℓ σ Q E => t ℓ σ (fun x σ₁ => ∃ a xs, x = .ref a ∧ σ₁ a = some (.list xs) ∧ ∀ d ep, σ₁ d = none → Q (.ref d) (σ₁.set d (.dictI (enumKV xs) ep))) E
theorem sndE_dictEnum {e : Expr} {p p' pos pos' : Pos} {t : TE} (hm : (Str.ofString "dict", NameKind.globalImplicit) ∈ sc.names) (hb : Xi g "dict" (.type "dict")) (hm' : (Str.ofString "enumerate", NameKind.globalImplicit) ∈ sc.names) (hb' : Xi g "enumerate" (.type "enumerate")) (h1 : Y5 g sc r true e t) (hs : isStar e = false) :
    Y5 g sc r true (.Call (.Name (Str.ofString "dict") p) [.Call (.Name (Str.ofString "enumerate") p') [e] [] pos'] [] pos) (Zd t) := .mk fun A env s ℓ σ Q E X h => by
  show wpAny _ A (do callWith pos (← eval (.Name (Str.ofString "dict") p) env) [] (backTo pos (starEach [.Call (.Name (Str.ofString "enumerate") p') [e] [] pos'] env)) (backToKw pos (keywordEach [] env))) _ _ s
  refine wpAny_bind (Y7 X hm hb ?_)
  rw [Yx (es := []) env rfl]
  refine Xn (.inr (.inr ⟨_, rfl⟩)) rfl ?_
  show wpAny _ A (spliced [(false, eval (.Call (.Name (Str.ofString "enumerate") p') [e] [] pos') env)]) _ _ s
  refine Calls.spliced_cons ?_
  show wpAny _ A (do callWith pos' (← eval (.Name (Str.ofString "enumerate") p') env) [] (backTo pos' (starEach [e] env)) (backToKw pos' (keywordEach [] env))) _ _ s
  refine wpAny_bind (Y7 X hm' hb' ?_)
  rw [Yx (es := []) env hs]
  refine Xn (.inr (.inr ⟨_, rfl⟩)) rfl ?_
  show wpAny _ A (spliced [(false, eval e env)]) _ _ s
  refine Calls.spliced_cons (wpAny_mono (h1.run A env s ℓ σ _ E X h) (fun v s₁ p => ?_) fun _ _ p => p)
  obtain ⟨x, σ₁, hv, hR, hx, hs1, a, xs, rfl, ea, hq⟩ := p
  refine Calls.spliced_nil ⟨fun a o e => hR.base a o e, ?_⟩
  rw [Yt.mp hv]
  obtain ⟨hf, us, n, ho, hvs⟩ := (hR.own a _ ea).2
  have hlen : xs.length = us.size := by have := Yb hvs; simpa using this
  have hsm : us.size ≤ 1000000 := by rw [← hlen]; exact hf
  refine call_enumerate_1 ho fun h2 hen hit hsz kp2 => ?_
  refine Calls.spliced_nil ⟨fun a o e => (hR.keeps kp2).base a o e, ?_⟩
  have hal : a < s₁.heap.objs.size := Heap.lt_size ho
  refine callType_codes (Q₁ := fun obj s₂ => obj = .ref h2.objs.size ∧ s₂ = { s₁ with heap := h2.push { cls := .type "dict", data := .dict #[] } }) PySem.F.kt_called_dict (PySem.F.kt_typeCall_dict_1 _) PySem.F.entry_dict_init (kt_code_dict_new _ ⟨rfl, rfl⟩) ?_
  rintro obj s₂ ⟨rfl, rfl⟩
  have kp3 := X9 h2 { cls := .type "dict", data := .dict #[] }
  have hnew : (h2.push { cls := .type "dict", data := .dict #[] }).DictOf (intKind g.prog g.w) h2.objs.size [] := Heap.DictOf.new h2
  refine ⟨hnew.typeIs, PySem.F.args_dict_init_2 _ _, ?_⟩
  unfold Builtin.«dict.__init__»
  refine wpAny_bind ?_
  unfold Builtin.Dict.selfAndRest
  refine wpAny_bind (wpAny_notOrdered_dict hnew.typeIs ?_)
  show wpAny _ _ (pure (h2.objs.size, [Value.ref (s₁.heap.objs.size + 1)])) _ _ _
  refine wpAny_pure ?_
  show wpAny _ _ (Builtin.Dict.updateFrom "dict.__init__" h2.objs.size (.ref (s₁.heap.objs.size + 1)) [] .none) _ _ _
  unfold Builtin.Dict.updateFrom
  refine wpAny_bind (wpAny_typeOf (T := "enumerate") ⟨_, kp3 _ _ hen, rfl⟩ ?_)
  rw [if_pos (by decide)]
  refine wpAny_bind (keys_miss_enum (A := A.in1.in1) (kp3 _ _ hen) (X.room.calm rfl) fun h4 tk4 kp4 => ?_)
  simp only [Option.isNone_none, if_true]
  refine wpAny_bind (wpAny_rule ?_)
  refine wpAny_bind (wpAny_pyIter_enum (kp4 _ _ (kp3 _ _ hen)) ?_)
  refine wpAny_pure ⟨plainId_quiet plain_update_loop _, ?_⟩
  have kpA : ∀ b o, s₁.heap.get? b = some o → h4.get? b = some o := fun b o e => kp4 _ _ (kp3 _ _ (kp2 _ _ e))
  have n0 : ∀ b, s₁.heap.objs.size ≤ b → s₁.heap.get? b = none := fun b hb => Heap.get?_none_of_le hb
  have hd2 : s₁.heap.objs.size ≤ h2.objs.size := by omega
  refine enum_loop (g := g) (A := A.in1) (h0 := s₁.heap) (l := a) (I := s₁.heap.objs.size + 1) (it := s₁.heap.objs.size) (us := us) (X.room.calm rfl) (Nat.succ_ne_self _) (by rw [hsz]; exact Nat.succ_ne_self _) (by rw [hsz]; exact fun z => by have z : s₁.heap.objs.size + 2 = s₁.heap.objs.size := z; omega) (n0 _ (Nat.le_succ _)) (n0 _ (Nat.le_refl _)) (n0 _ hd2) ⟨_, ho, rfl, n, rfl⟩ hsm _ 0 { s₁ with heap := h4, toks := tk4 } [] rfl (Nat.zero_le _) ⟨_, _, _, kp4 _ _ (kp3 _ _ hen), .inl rfl⟩ (hit.at fun o e => kp4 _ _ (kp3 _ _ e)) kpA ?_ rfl rfl fun h' tk ws' k1 k2 k3 k4 => ?_
  · obtain ⟨o, es, ep, q, rest⟩ := hnew
    exact ⟨o, es, ep, kp4 _ _ q, rest⟩
  · obtain ⟨ep, k2⟩ := DictAt_of k2
    have R' : Rel g h' (σ₁.set h2.objs.size (.dictI (enumKV xs) ep)) := hR.alloc k1 (n0 _ hd2) ⟨?_, ws', k2, ?_, ?_⟩
    · exact ⟨rfl, .ref _, _, Yt.mpr rfl, R', hx.trans (.alloc k1 (n0 _ hd2)), hs1.trans ⟨rfl, rfl, rfl⟩, hq _ _ (hR.fresh (n0 _ hd2))⟩
    · unfold enumKV; rw [List.length_zip]; simp; rw [hlen]; exact hsm
    · rw [k3, enumKV_keys, hlen]
    · rw [k4, enumKV_vals]; exact VRs.mono (fun a o _ _ _ e _ _ => .of (k1 a o e)) hvs
end
section
/-! # the plain mathematics of a hall -/
structure Rw where
  n : Int
  l : Int
  r : Int
  h : Option Int
noncomputable def Rw.e (x : Rw) (s : Bool) : Int := if s then x.r else x.l
noncomputable def Inc (S : List Rw) : Prop := S.Pairwise fun x y => x.n < y.n
noncomputable def We (S : List Rw) : Prop := ∀ x ∈ S, ∀ y ∈ S, ∀ s, x.e s = y.e s → x.h = y.h → x.h ≠ none → x.n = y.n
noncomputable def FreeH (S : List Rw) (s : Bool) (e h : Int) : Prop := ∀ x ∈ S, x.e s = e → x.h ≠ some h
noncomputable def deg (S : List Rw) (s : Bool) (e : Int) : Nat := (S.filter fun x => x.e s == e).length
noncomputable def withH (S : List Rw) (s : Bool) (e h : Int) : Option Rw := S.find? fun x => x.e s == e && x.h == some h
theorem Inc.inj {S : List Rw} (hi : Inc S) : ∀ {x y : Rw}, x ∈ S → y ∈ S → x.n = y.n → x = y := by
  induction S with
  | nil => intro x y h; cases h
  | cons z S ih =>
    intro x y hx hy e
    rcases List.pairwise_cons.1 hi with ⟨h1, h2⟩
    rcases List.mem_cons.1 hx with p | p <;> rcases List.mem_cons.1 hy with q | q
    · rw [p, q]
    · have := h1 _ q; rw [← p] at this; omega
    · have := h1 _ p; rw [← q] at this; omega
    · exact ih h2 p q e
theorem nodup_le : ∀ (a b : List Int), a.Nodup → (∀ x ∈ a, x ∈ b) → a.length ≤ b.length
  | [], b, _, _ => Nat.zero_le _
  | x :: a, b, hn, hs => by
    have hx : x ∈ b := hs x (.head _)
    rcases List.nodup_cons.1 hn with ⟨h1, h2⟩
    have := nodup_le a (b.erase x) h2 fun y hy => (List.mem_erase_of_ne (by rintro rfl; exact h1 hy)).2 (hs y (.tail _ hy))
    rw [List.length_erase_of_mem hx] at this
    have : 0 < b.length := List.length_pos_of_mem hx
    simp only [List.length_cons]; omega
noncomputable def Wf (s : Bool) (i : Nat) : Bool := if i % 2 = 0 then s else !s
noncomputable def Wb (one other : Int) (i : Nat) : Int := if i % 2 = 0 then other else one
theorem sideAt_succ {s : Bool} {i : Nat} : Wf s (i + 1) = !(Wf s i) := by
  unfold Wf
  rcases Nat.mod_two_eq_zero_or_one i with h | h
  · rw [if_neg (by omega), if_pos h]
  · rw [if_pos (by omega), if_neg (by omega)]; simp
theorem wantAt_succ {one other : Int} {i : Nat} : Wb one other (i + 1) = one + other - Wb one other i := by
  unfold Wb
  rcases Nat.mod_two_eq_zero_or_one i with h | h
  · rw [if_neg (by omega), if_pos h]; omega
  · rw [if_pos (by omega), if_neg (by omega)]; omega
theorem sideAt_par {s : Bool} {i j : Nat} (h : i % 2 = j % 2) : Wf s i = Wf s j := by unfold Wf; rw [h]
theorem wantAt_par {one other : Int} {i j : Nat} (h : i % 2 = j % 2) : Wb one other i = Wb one other j := by unfold Wb; rw [h]
theorem wantAt_inj {one other : Int} (hne : one ≠ other) {i j : Nat} (h : Wb one other i = Wb one other j) : i % 2 = j % 2 := by
  unfold Wb at h
  rcases Nat.mod_two_eq_zero_or_one i with a | a <;> rcases Nat.mod_two_eq_zero_or_one j with b | b
  · omega
  · rw [if_pos a, if_neg (by omega)] at h; exact absurd h.symm hne
  · rw [if_neg (by omega), if_pos b] at h; exact absurd h hne
  · omega
structure W0 (S : List Rw) (s : Bool) (e one other : Int) (l : List Rw) : Prop where
  mem : ∀ x ∈ l, x ∈ S
  hue : ∀ i x, l[i]? = some x → x.h = some (Wb one other i)
  fst : ∀ x, l[0]? = some x → x.e s = e
  nxt : ∀ i x y, l[i]? = some x → l[i + 1]? = some y → y.e (Wf s (i + 1)) = x.e (Wf s (i + 1))
noncomputable def tipE (s : Bool) (e : Int) (l : List Rw) : Int := match l.getLast? with | none => e | some x => x.e (Wf s l.length)
noncomputable def PDone (S : List Rw) (s : Bool) (e one other : Int) (l : List Rw) : Prop := FreeH S (Wf s l.length) (tipE s e l) (Wb one other l.length)
section
variable {S : List Rw} {s : Bool} {e one other : Int} {l : List Rw}
theorem W0.nil : W0 S s e one other [] := ⟨fun _ h => absurd h (by simp), fun _ _ h => absurd h (by simp), fun _ h => absurd h (by simp), fun _ _ _ h => absurd h (by simp)⟩
theorem tipE_snoc {x : Rw} : tipE s e (l ++ [x]) = x.e (Wf s (l.length + 1)) := by unfold tipE; simp
theorem snoc_get {i : Nat} {x y : Rw} (h : (l ++ [x])[i]? = some y) : (i < l.length ∧ l[i]? = some y) ∨ (i = l.length ∧ y = x) := by
  rcases Nat.lt_trichotomy i l.length with q | q | q
  · left; exact ⟨q, by rwa [List.getElem?_append_left q] at h⟩
  · right; subst q; simp at h; exact ⟨rfl, h.symm⟩
  · rw [List.getElem?_append_right (by omega), List.getElem?_eq_none (by simp; omega)] at h; cases h
theorem W0.snoc (P : W0 S s e one other l) {x : Rw} (hx : x ∈ S) (hh : x.h = some (Wb one other l.length)) (he : x.e (Wf s l.length) = tipE s e l) : W0 S s e one other (l ++ [x]) := by
  refine ⟨fun y hy => ?_, fun i y hy => ?_, fun y hy => ?_, fun i y z hy hz => ?_⟩
  · rcases List.mem_append.1 hy with h | h
    · exact P.mem y h
    · rw [List.mem_singleton.1 h]; exact hx
  · rcases snoc_get hy with ⟨_, h⟩ | ⟨rfl, rfl⟩
    · exact P.hue i y h
    · exact hh
  · rcases snoc_get hy with ⟨_, h⟩ | ⟨q, rfl⟩
    · exact P.fst y h
    · have hl : l = [] := List.length_eq_zero_iff.1 q.symm
      subst hl; exact he
  · rcases snoc_get hz with ⟨q, h⟩ | ⟨q, rfl⟩
    · rcases snoc_get hy with ⟨_, h'⟩ | ⟨q', _⟩
      · exact P.nxt i y z h' h
      · omega
    · rcases snoc_get hy with ⟨q', h'⟩ | ⟨q', _⟩
      · rw [q, he]
        unfold tipE
        have : l.getLast? = some y := by
          rw [List.getLast?_eq_getElem?, ← q]; simpa using h'
        rw [this]
      · omega
theorem W0.inj (P : W0 S s e one other l) (hp : We S) (hi : Inc S) (hne : one ≠ other) (hf : FreeH S s e one) : ∀ (i j : Nat) (x y : Rw), i < j → l[i]? = some x → l[j]? = some y → x.n ≠ y.n := by
  intro i
  induction i with
  | zero =>
    intro j x y hij hx hy hn
    have hxy := hi.inj (P.mem x (List.mem_of_getElem? hx)) (P.mem y (List.mem_of_getElem? hy)) hn
    subst hxy
    have hpar := wantAt_inj hne (Option.some.inj ((P.hue _ _ hx).symm.trans (P.hue _ _ hy)))
    cases j with
    | zero => omega
    | succ j =>
      obtain ⟨z, hz⟩ : ∃ z, l[j]? = some z := by
        rcases Nat.lt_or_ge j l.length with q | q
        · exact ⟨_, List.getElem?_eq_getElem q⟩
        · rw [List.getElem?_eq_none (by omega)] at hy; cases hy
      have h1 := P.nxt j z x hz hy
      have hs : Wf s (j + 1) = s := by unfold Wf; rw [if_pos (by omega)]
      rw [hs, P.fst x hx] at h1
      refine hf z (P.mem z (List.mem_of_getElem? hz)) h1.symm ?_
      rw [P.hue j z hz]; unfold Wb; rw [if_neg (by omega)]
  | succ i ih =>
    intro j x y hij hx hy hn
    have hxy := hi.inj (P.mem x (List.mem_of_getElem? hx)) (P.mem y (List.mem_of_getElem? hy)) hn
    subst hxy
    have hpar := wantAt_inj hne (Option.some.inj ((P.hue _ _ hx).symm.trans (P.hue _ _ hy)))
    cases j with
    | zero => omega
    | succ j =>
      have pred : ∀ k, l[k + 1]? = some x → ∃ z, l[k]? = some z := fun k hk => by
        rcases Nat.lt_or_ge k l.length with q | q
        · exact ⟨_, List.getElem?_eq_getElem q⟩
        · rw [List.getElem?_eq_none (by omega)] at hk; cases hk
      obtain ⟨z, hz⟩ := pred i hx
      obtain ⟨z', hz'⟩ := pred j hy
      have h1 := P.nxt i z x hz hx
      have h2 := P.nxt j z' x hz' hy
      rw [← sideAt_par hpar] at h2
      refine ih j z z' (by omega) hz hz' (hp z (P.mem z (List.mem_of_getElem? hz)) z' (P.mem z' (List.mem_of_getElem? hz')) _ (h1.symm.trans h2) ?_ ?_)
      · rw [P.hue i z hz, P.hue j z' hz', wantAt_par (by omega : i % 2 = j % 2)]
      · rw [P.hue i z hz]; simp
theorem nodup_of_get (as : List Int) (h : ∀ (i j : Nat) (x y : Int), i < j → as[i]? = some x → as[j]? = some y → x ≠ y) : as.Nodup := by
  rw [List.Nodup, List.pairwise_iff_getElem]
  intro i j hi hj hij
  exact h i j _ _ hij (List.getElem?_eq_getElem hi) (List.getElem?_eq_getElem hj)
theorem W0.nodup (P : W0 S s e one other l) (hp : We S) (hi : Inc S) (hne : one ≠ other) (hf : FreeH S s e one) : (l.map Rw.n).Nodup := by
  refine nodup_of_get _ fun i j x y hij hx hy => ?_
  rw [List.getElem?_map] at hx hy
  cases ex : l[i]? with
  | none => rw [ex] at hx; cases hx
  | some a =>
    cases ey : l[j]? with
    | none => rw [ey] at hy; cases hy
    | some b =>
      rw [ex] at hx; rw [ey] at hy; cases hx; cases hy
      exact P.inj hp hi hne hf i j a b hij ex ey
theorem W0.len (P : W0 S s e one other l) (hp : We S) (hi : Inc S) (hne : one ≠ other) (hf : FreeH S s e one) : l.length ≤ S.length := by
  have := nodup_le (l.map Rw.n) (S.map Rw.n) (P.nodup hp hi hne hf) fun x hx => by
    obtain ⟨a, ha, rfl⟩ := List.mem_map.1 hx
    exact List.mem_map.2 ⟨a, P.mem a ha, rfl⟩
  simpa using this
noncomputable def flipH (nums : List Int) (one other : Int) (x : Rw) : Rw := if x.n ∈ nums then { x with h := x.h.map fun h => one + other - h } else x
theorem flipH_n {nums : List Int} {x : Rw} : (flipH nums one other x).n = x.n := by unfold flipH; split <;> rfl
theorem flipH_e {nums : List Int} {x : Rw} {t : Bool} : (flipH nums one other x).e t = x.e t := by unfold flipH; split <;> rfl
theorem Wm {nums : List Int} {x : Rw} (h : x.n ∉ nums) : flipH nums one other x = x := if_neg h
theorem W0.at (P : W0 S s e one other l) (hi : Inc S) {x : Rw} (hx : x ∈ S) (hn : x.n ∈ l.map Rw.n) : ∃ i : Nat, l[i]? = some x := by
  obtain ⟨a, ha, q⟩ := List.mem_map.1 hn
  have := hi.inj (P.mem a ha) hx q
  subst this
  obtain ⟨i, hi, e⟩ := List.getElem_of_mem ha
  exact ⟨i, by rw [List.getElem?_eq_getElem hi, e]⟩
theorem W0.flip_hue (P : W0 S s e one other l) {i : Nat} {x : Rw} (hx : l[i]? = some x) : (flipH (l.map Rw.n) one other x).h = some (Wb one other (i + 1)) := by
  unfold flipH
  rw [if_pos (List.mem_map.2 ⟨x, List.mem_of_getElem? hx, rfl⟩)]
  show x.h.map _ = _
  rw [P.hue i x hx, wantAt_succ]; rfl
theorem getPred {i : Nat} {x : Rw} (h : l[i + 1]? = some x) : ∃ z, l[i]? = some z := by
  rcases Nat.lt_or_ge i l.length with q | q
  · exact ⟨_, List.getElem?_eq_getElem q⟩
  · rw [List.getElem?_eq_none (by omega)] at h; cases h
theorem W0.near (P : W0 S s e one other l) (D : PDone S s e one other l) (hp : We S) (hf : FreeH S s e one) {i : Nat} {x y : Rw} (hx : l[i]? = some x) (hy : y ∈ S) {t : Bool} (ht : y.e t = x.e t) (hh : y.h = some (Wb one other (i + 1))) : y.n ∈ l.map Rw.n := by
  have hcase : t = Wf s i ∨ t = Wf s (i + 1) := by rw [sideAt_succ]; cases t <;> cases Wf s i <;> simp
  have fin : ∀ {k : Nat} {z : Rw}, l[k]? = some z → z.e t = y.e t → z.h = y.h → y.n ∈ l.map Rw.n := fun {k z} hk q1 q2 => by
    have hz := List.mem_of_getElem? hk
    have := hp z (P.mem z hz) y hy t q1 q2 (by rw [q2, hh]; simp)
    exact this ▸ List.mem_map.2 ⟨z, hz, rfl⟩
  rcases hcase with rfl | rfl
  · cases i with
    | zero =>
      refine absurd ?_ (hf y hy (by rw [← P.fst x hx]; exact ht))
      rw [hh]; rfl
    | succ k =>
      obtain ⟨z, hz⟩ := getPred hx
      refine fin hz ((P.nxt k z x hz hx).symm.trans ht.symm) ?_
      rw [P.hue k z hz, hh, wantAt_par (by omega : k % 2 = (k + 1 + 1) % 2)]
  · cases q : l[i + 1]? with
    | some z => exact fin q ((P.nxt i x z hx q).trans ht.symm) (by rw [P.hue _ z q, hh])
    | none =>
      have hl : l.length = i + 1 := by
        have h1 : i < l.length := by
          rcases Nat.lt_or_ge i l.length with w | w
          · exact w
          · rw [List.getElem?_eq_none (by omega)] at hx; cases hx
        have h2 := List.getElem?_eq_none_iff.1 q
        omega
      refine absurd ?_ (D y hy ?_)
      · rw [hl]; exact hh
      · unfold tipE
        have : l.getLast? = some x := by rw [List.getLast?_eq_getElem?, hl]; simpa using hx
        rw [this, hl]; exact ht
theorem mem_flip {nums : List Int} {x' : Rw} (h : x' ∈ S.map (flipH nums one other)) : ∃ x ∈ S, x' = flipH nums one other x := by
  obtain ⟨x, a, b⟩ := List.mem_map.1 h; exact ⟨x, a, b.symm⟩
theorem W0.flip_proper (P : W0 S s e one other l) (D : PDone S s e one other l) (hp : We S) (hi : Inc S) (hne : one ≠ other) (hf : FreeH S s e one) : We (S.map (flipH (l.map Rw.n) one other)) := by
  intro x' hx' y' hy' t ht hh hs
  obtain ⟨x, hx, rfl⟩ := mem_flip hx'
  obtain ⟨y, hy, rfl⟩ := mem_flip hy'
  rw [flipH_e, flipH_e] at ht
  rw [flipH_n, flipH_n]
  by_cases a : x.n ∈ l.map Rw.n <;> by_cases b : y.n ∈ l.map Rw.n
  · obtain ⟨i, hxi⟩ := P.at hi hx a
    obtain ⟨j, hyj⟩ := P.at hi hy b
    rw [P.flip_hue hxi, P.flip_hue hyj] at hh
    have := wantAt_inj hne (Option.some.inj hh)
    refine hp x hx y hy t ht ?_ ?_
    · rw [P.hue i x hxi, P.hue j y hyj, wantAt_par (by omega : i % 2 = j % 2)]
    · rw [P.hue i x hxi]; simp
  · obtain ⟨i, hxi⟩ := P.at hi hx a
    rw [P.flip_hue hxi, Wm b] at hh
    exact absurd (P.near D hp hf hxi hy ht.symm hh.symm) b
  · obtain ⟨j, hyj⟩ := P.at hi hy b
    rw [P.flip_hue hyj, Wm a] at hh
    exact absurd (P.near D hp hf hyj hx ht hh) a
  · rw [Wm a, Wm b] at hh
    rw [Wm a] at hs
    exact hp x hx y hy t ht hh hs
theorem W0.flip_free (P : W0 S s e one other l) (D : PDone S s e one other l) (hp : We S) (hi : Inc S) (hne : one ≠ other) (hf : FreeH S s e one) : FreeH (S.map (flipH (l.map Rw.n) one other)) s e other := by
  intro x' hx' he hh
  obtain ⟨x, hx, rfl⟩ := mem_flip hx'
  rw [flipH_e] at he
  by_cases a : x.n ∈ l.map Rw.n
  · obtain ⟨i, hxi⟩ := P.at hi hx a
    rw [P.flip_hue hxi] at hh
    have h1 : Wb one other (i + 1) = Wb one other 0 := Option.some.inj hh
    have := wantAt_inj hne h1
    refine hf x hx he ?_
    rw [P.hue i x hxi]; unfold Wb; rw [if_neg (by omega)]
  · rw [Wm a] at hh
    cases q : l with
    | nil =>
      subst q
      exact D x hx he hh
    | cons z r =>
      have hz0 : l[0]? = some z := by rw [q]; rfl
      have hz := List.mem_of_getElem? hz0
      have := hp z (P.mem z hz) x hx s ((P.fst z hz0).trans he.symm) (by rw [P.hue 0 z hz0, hh]; rfl) (by rw [P.hue 0 z hz0]; simp)
      exact a (this ▸ List.mem_map.2 ⟨z, hz, rfl⟩)
theorem W0.flip_far (P : W0 S s e one other l) (hi : Inc S) (hne : one ≠ other) {e2 : Int} (hf : FreeH S (!s) e2 other) : FreeH (S.map (flipH (l.map Rw.n) one other)) (!s) e2 other := by
  intro x' hx' he hh
  obtain ⟨x, hx, rfl⟩ := mem_flip hx'
  rw [flipH_e] at he
  by_cases a : x.n ∈ l.map Rw.n
  · obtain ⟨i, hxi⟩ := P.at hi hx a
    rw [P.flip_hue hxi] at hh
    have h1 : Wb one other (i + 1) = Wb one other 0 := Option.some.inj hh
    have := wantAt_inj hne h1
    cases i with
    | zero => omega
    | succ k =>
      obtain ⟨z, hz⟩ := getPred hxi
      have h2 := P.nxt k z x hz hxi
      have hs : Wf s (k + 1) = !s := by unfold Wf; rw [if_neg (by omega)]
      rw [hs, he] at h2
      refine hf z (P.mem z (List.mem_of_getElem? hz)) h2.symm ?_
      rw [P.hue k z hz]; unfold Wb; rw [if_pos (by omega)]
  · rw [Wm a] at hh
    exact hf x hx he hh
end
/-! ## a row gets its hue -/
noncomputable def Wz (k : Int) (h : Option Int) (x : Rw) : Rw := if x.n = k then { x with h := h } else x
theorem putH_n {k : Int} {h : Option Int} {x : Rw} : (Wz k h x).n = x.n := by unfold Wz; split <;> rfl
theorem putH_e {k : Int} {h : Option Int} {x : Rw} {t : Bool} : (Wz k h x).e t = x.e t := by unfold Wz; split <;> rfl
theorem putH_same {k : Int} {h : Option Int} {x : Rw} (q : x.n = k) : (Wz k h x).h = h := by unfold Wz; rw [if_pos q]
theorem putH_out {k : Int} {h : Option Int} {x : Rw} (q : x.n ≠ k) : Wz k h x = x := if_neg q
theorem inc_map {S : List Rw} {f : Rw → Rw} (hf : ∀ x, (f x).n = x.n) (hi : Inc S) : Inc (S.map f) := by
  unfold Inc at *
  rw [List.pairwise_map]
  exact hi.imp fun h => by rw [hf, hf]; exact h
theorem put_proper {S : List Rw} {k h : Int} (hp : We S) (hs : ∀ x ∈ S, x.n = k → ∀ t, FreeH S t (x.e t) h) : We (S.map (Wz k (some h))) := by
  intro x' hx' y' hy' t ht hh hne
  obtain ⟨x, hx, rfl⟩ := List.mem_map.1 hx'
  obtain ⟨y, hy, rfl⟩ := List.mem_map.1 hy'
  rw [putH_e, putH_e] at ht
  rw [putH_n, putH_n]
  by_cases a : x.n = k <;> by_cases b : y.n = k
  · rw [a, b]
  · rw [putH_same a, putH_out b] at hh
    exact absurd hh.symm (hs x hx a t y hy ht.symm)
  · rw [putH_same b, putH_out a] at hh
    exact absurd hh (hs y hy b t x hx ht)
  · rw [putH_out a, putH_out b] at hh
    rw [putH_out a] at hne
    exact hp x hx y hy t ht hh hne
/-! ## counting -/
noncomputable def Wx (m : Nat) : List Int := (List.range m).map Int.ofNat
theorem rngI_mem {m : Nat} {h : Int} : h ∈ Wx m ↔ 0 ≤ h ∧ h < m := by
  unfold Wx
  simp only [List.mem_map, List.mem_range]
  constructor
  · rintro ⟨a, b, rfl⟩; exact ⟨Int.natCast_nonneg _, by simpa using b⟩
  · rintro ⟨a, b⟩; exact ⟨h.toNat, by omega, by simp; omega⟩
theorem rngI_length {m : Nat} : (Wx m).length = m := by simp [Wx]
theorem rngI_nodup {m : Nat} : (Wx m).Nodup := by
  unfold Wx
  refine List.Pairwise.map _ ?_ (List.nodup_range (n := m))
  intro a b h q; exact h (Int.ofNat.inj q)
noncomputable def usedH (S : List Rw) (s : Bool) (e : Int) : List Int := (S.filter fun x => x.e s == e).filterMap Rw.h
theorem mem_usedH {S : List Rw} {s : Bool} {e h : Int} : h ∈ usedH S s e ↔ ∃ x ∈ S, x.e s = e ∧ x.h = some h := by
  unfold usedH
  simp only [List.mem_filterMap, List.mem_filter, beq_iff_eq, and_assoc]
theorem exists_free {S : List Rw} {s : Bool} {e : Int} {m : Nat} (hd : deg S s e ≤ m) (hx : ∃ x ∈ S, x.e s = e ∧ x.h = none) : ∃ h : Int, 0 ≤ h ∧ h < m ∧ FreeH S s e h := by
  refine Classical.byContradiction fun hn => ?_
  have hall : ∀ h ∈ Wx m, h ∈ usedH S s e := fun h hh => by
    obtain ⟨a, b⟩ := rngI_mem.1 hh
    refine Classical.byContradiction fun hq => hn ⟨h, a, b, fun x hx he hy => hq (mem_usedH.2 ⟨x, hx, he, hy⟩)⟩
  have h1 := nodup_le _ _ rngI_nodup hall
  rw [rngI_length] at h1
  have h2 : (usedH S s e).length < deg S s e := by
    obtain ⟨x, h1, h2, h3⟩ := hx
    have hm : x ∈ S.filter fun x => x.e s == e := List.mem_filter.2 ⟨h1, by simpa using h2⟩
    unfold usedH deg
    generalize S.filter (fun x => x.e s == e) = T at hm
    clear h1 hall hn hd
    induction T with
    | nil => cases hm
    | cons y T ih =>
      have hle := List.length_filterMap_le Rw.h T
      cases hm with
      | head => rw [List.filterMap_cons_none h3]; simp only [List.length_cons]; omega
      | tail _ hm =>
        have := ih hm
        cases q : y.h with
        | none => rw [List.filterMap_cons_none q]; simp only [List.length_cons]; omega
        | some v => rw [List.filterMap_cons_some q]; simp only [List.length_cons]; omega
  omega
theorem full_cover {S : List Rw} {s : Bool} {e : Int} {m : Nat} (hi : Inc S) (hp : We S) (hd : deg S s e = m) (hb : ∀ x ∈ S, ∃ h : Int, x.h = some h ∧ 0 ≤ h ∧ h < m) {h : Int} (h0 : 0 ≤ h) (h1 : h < m) : ∃ x ∈ S, x.e s = e ∧ x.h = some h := by
  refine Classical.byContradiction fun hn => ?_
  have hq : h ∉ usedH S s e := fun q => hn (mem_usedH.1 q)
  have hlen : (usedH S s e).length = m := by
    rw [← hd]
    unfold usedH deg
    have : ∀ x ∈ S.filter (fun x => x.e s == e), ∃ h : Int, x.h = some h := fun x hx => let ⟨h, q, _⟩ := hb x (List.mem_filter.1 hx).1; ⟨h, q⟩
    generalize S.filter (fun x => x.e s == e) = T at this
    induction T with
    | nil => rfl
    | cons y T ih =>
      obtain ⟨v, q⟩ := this y (.head _)
      rw [List.filterMap_cons_some q]
      simp only [List.length_cons]
      rw [ih fun x hx => this x (.tail _ hx)]
  have hnd : (usedH S s e).Nodup := by
    unfold usedH
    have hT : (S.filter fun x => x.e s == e).Pairwise fun x y => x.n < y.n := List.Pairwise.filter _ hi
    have hm : ∀ x ∈ S.filter (fun x => x.e s == e), x ∈ S ∧ x.e s = e := fun x hx => by simpa using List.mem_filter.1 hx
    generalize S.filter (fun x => x.e s == e) = T at hT hm
    rw [List.Nodup]
    refine List.Pairwise.filterMap Rw.h ?_ (hT.imp_of_mem ?_ (S := fun x y => x.n < y.n ∧ x ∈ T ∧ y ∈ T))
    · rintro a a' ⟨h1, h2, h3⟩ b hb b' hb' q
      subst q
      have := hp a (hm a h2).1 a' (hm a' h3).1 s ((hm a h2).2.trans (hm a' h3).2.symm) (hb.trans hb'.symm) (by rw [hb]; simp)
      omega
    · exact fun ha hb h => ⟨h, ha, hb⟩
  have := nodup_le (h :: usedH S s e) (Wx m) (List.nodup_cons.2 ⟨hq, hnd⟩) fun x hx => by
    rcases List.mem_cons.1 hx with rfl | hx
    · exact rngI_mem.2 ⟨h0, h1⟩
    · obtain ⟨y, hy, _, hh⟩ := mem_usedH.1 hx
      obtain ⟨h', q, a, b⟩ := hb y hy
      rw [hh] at q; cases q
      exact rngI_mem.2 ⟨a, b⟩
  simp only [List.length_cons, rngI_length] at this
  omega
end
section
/-! # degrees, counts, what come and go do -/
noncomputable def szOf (a b : Int) (s : Bool) : Int := if s then b else a
structure IsCnt (S : List Rw) (a b : Int) (m : Nat) : Prop where
  le : ∀ s e, 0 ≤ e → e < szOf a b s → deg S s e ≤ m
  got : m = 0 ∨ ∃ s e, 0 ≤ e ∧ e < szOf a b s ∧ deg S s e = m
noncomputable def InR (S : List Rw) (a b : Int) : Prop := ∀ x ∈ S, ∀ s, 0 ≤ x.e s ∧ x.e s < szOf a b s
structure Good (S : List Rw) (a b : Int) (m : Nat) : Prop where
  inc : Inc S
  proper : We S
  inr : InR S a b
  cnt : IsCnt S a b m
  hues : ∀ x ∈ S, ∃ h : Int, x.h = some h ∧ 0 ≤ h ∧ h < m
theorem IsCnt.uniq {S : List Rw} {a b : Int} {m m' : Nat} (x : IsCnt S a b m) (y : IsCnt S a b m') : m = m' := by
  have key : ∀ {m m' : Nat}, IsCnt S a b m → IsCnt S a b m' → m ≤ m' := fun {m m'} x y => by
    rcases x.got with h | ⟨s, e, h1, h2, h3⟩
    · omega
    · have := y.le s e h1 h2; omega
  have := key x y; have := key y x; omega
theorem deg_zero {S : List Rw} {s : Bool} {e : Int} (h : ∀ x ∈ S, x.e s ≠ e) : deg S s e = 0 := by
  unfold deg
  rw [List.length_eq_zero_iff, List.filter_eq_nil_iff]
  intro x hx; simpa using h x hx
theorem IsCnt.all {S : List Rw} {a b : Int} {m : Nat} (x : IsCnt S a b m) (r : InR S a b) (s : Bool) (e : Int) : deg S s e ≤ m := by
  by_cases h : 0 ≤ e ∧ e < szOf a b s
  · exact x.le s e h.1 h.2
  · rw [deg_zero fun y hy q => h (by rw [← q]; exact r y hy s)]; omega
theorem IsCnt.empty {a b : Int} : IsCnt [] a b 0 := ⟨fun _ _ _ _ => Nat.le_refl _, .inl rfl⟩
theorem Good.empty {a b : Int} : Good [] a b 0 := ⟨.nil, fun _ h => absurd h (by simp), fun _ h => absurd h (by simp), .empty, fun _ h => absurd h (by simp)⟩
theorem deg_map {S : List Rw} {f : Rw → Rw} (hf : ∀ x t, (f x).e t = x.e t) (s : Bool) (e : Int) : deg (S.map f) s e = deg S s e := by
  unfold deg
  rw [List.filter_map, List.length_map]
  congr 2
  funext x; simp [hf]
theorem deg_append {S T : List Rw} {s : Bool} {e : Int} : deg (S ++ T) s e = deg S s e + deg T s e := by unfold deg; simp
theorem IsCnt.congr {S T : List Rw} {a b : Int} {m : Nat} (x : IsCnt S a b m) (h : ∀ s e, deg T s e = deg S s e) : IsCnt T a b m :=
  ⟨fun s e h1 h2 => by rw [h]; exact x.le s e h1 h2, by
    rcases x.got with q | ⟨s, e, h1, h2, h3⟩
    · exact .inl q
    · exact .inr ⟨s, e, h1, h2, by rw [h]; exact h3⟩⟩
structure Way (S : List Rw) (k : Int) (m : Nat) (hue other : Int) (l : List Rw) : Prop where
  ex : ∃ (s : Bool) (x : Rw), x ∈ S ∧ x.n = k ∧ x.h = none ∧ W0 S s (x.e s) other hue l ∧ PDone S s (x.e s) other hue l ∧ FreeH S s (x.e s) other ∧ FreeH S (!s) (x.e (!s)) hue
  ne : other ≠ hue
  hue : 0 ≤ hue ∧ hue < m
  other : 0 ≤ other ∧ other < m
noncomputable def afterWay (S : List Rw) (k hue other : Int) (nums : List Int) : List Rw := (S.map (flipH nums hue other)).map (Wz k (some hue))
theorem flipH_comm {nums : List Int} {a b : Int} : flipH nums a b = flipH nums b a := by
  funext x; unfold flipH; rw [Int.add_comm a b]
theorem Way.proper {S : List Rw} {k hue other : Int} {m : Nat} {l : List Rw} (w : Way S k m hue other l) (hp : We S) (hi : Inc S) : We (afterWay S k hue other (l.map Rw.n)) := by
  obtain ⟨s, x, hx, hk, hn, P, D, hf, hg⟩ := w.ex
  unfold afterWay
  rw [flipH_comm]
  refine put_proper (P.flip_proper D hp hi w.ne hf) fun y hy q t => ?_
  obtain ⟨z, hz, rfl⟩ := mem_flip hy
  rw [flipH_n] at q
  have : z = x := hi.inj hz hx (q.trans hk.symm)
  subst this
  rw [flipH_e]
  by_cases ht : t = s
  · subst ht; exact P.flip_free D hp hi w.ne hf
  · have : t = !s := by cases t <;> cases s <;> simp_all
    subst this
    exact P.flip_far hi w.ne hg
theorem Way.hues {S : List Rw} {k hue other : Int} {m : Nat} {l : List Rw} (w : Way S k m hue other l) (hi : Inc S) : ∀ y ∈ afterWay S k hue other (l.map Rw.n), (∃ h : Int, y.h = some h ∧ 0 ≤ h ∧ h < m) ∨ (y ∈ S ∧ y.n ≠ k) := by
  intro y hy
  obtain ⟨s, x, hx, hk, hn, P, D, hf, hg⟩ := w.ex
  unfold afterWay at hy
  obtain ⟨y', hy', rfl⟩ := List.mem_map.1 hy
  obtain ⟨z, hz, rfl⟩ := mem_flip hy'
  by_cases q : z.n = k
  · exact .inl ⟨hue, putH_same (by rw [flipH_n]; exact q), w.hue⟩
  · rw [putH_out (by rw [flipH_n]; exact q)]
    by_cases c : z.n ∈ l.map Rw.n
    · obtain ⟨i, e⟩ := P.at hi hz c
      refine .inl ⟨Wb other hue (i + 1), by rw [flipH_comm]; exact P.flip_hue e, ?_⟩
      unfold Wb; split
      · exact w.hue
      · exact w.other
    · rw [Wm c]; exact .inr ⟨hz, q⟩
noncomputable def afterBoth (S : List Rw) (k hue : Int) : List Rw := S.map (Wz k (some hue))
theorem both_proper {S : List Rw} {k hue : Int} (hp : We S) (hi : Inc S) {x : Rw} (hx : x ∈ S) (hk : x.n = k) (hf : ∀ t, FreeH S t (x.e t) hue) : We (afterBoth S k hue) :=
  put_proper hp fun y hy q t => by
    have : y = x := hi.inj hy hx (q.trans hk.symm)
    subst this; exact hf t
/-! ## what hueing leaves: the same rows but for hues -/
noncomputable def sk (x : Rw) : Int × Int × Int := (x.n, x.l, x.r)
structure Hued (S S' : List Rw) (k : Int) (m : Nat) : Prop where
  sk : S'.map sk = S.map sk
  inc : Inc S'
  proper : We S'
  hues : ∀ y ∈ S', (∃ h : Int, y.h = some h ∧ 0 ≤ h ∧ h < m) ∨ (y ∈ S ∧ y.n ≠ k)
theorem sk_map {S : List Rw} {f : Rw → Rw} (hf : ∀ x, sk (f x) = sk x) : (S.map f).map sk = S.map sk := by
  rw [List.map_map]; exact List.map_congr_left fun x _ => hf x
theorem sk_flipH {nums : List Int} {a b : Int} {x : Rw} : sk (flipH nums a b x) = sk x := by unfold flipH; split <;> rfl
theorem sk_putH {k : Int} {h : Option Int} {x : Rw} : sk (Wz k h x) = sk x := by unfold Wz; split <;> rfl
theorem Way.hued {S : List Rw} {k hue other : Int} {m : Nat} {l : List Rw} (w : Way S k m hue other l) (hp : We S) (hi : Inc S) : Hued S (afterWay S k hue other (l.map Rw.n)) k m :=
  ⟨by unfold afterWay; rw [sk_map fun _ => sk_putH, sk_map fun _ => sk_flipH], inc_map (fun _ => putH_n) (inc_map (fun _ => flipH_n) hi), w.proper hp hi, w.hues hi⟩
theorem both_hued {S : List Rw} {k hue : Int} {m : Nat} (hp : We S) (hi : Inc S) {x : Rw} (hx : x ∈ S) (hk : x.n = k) (hf : ∀ t, FreeH S t (x.e t) hue) (hh : 0 ≤ hue ∧ hue < m) : Hued S (afterBoth S k hue) k m :=
  ⟨sk_map fun _ => sk_putH, inc_map (fun _ => putH_n) hi, both_proper hp hi hx hk hf, fun y hy => by
    obtain ⟨z, hz, rfl⟩ := List.mem_map.1 hy
    by_cases q : z.n = k
    · exact .inl ⟨hue, putH_same q, hh⟩
    · rw [putH_out q]; exact .inr ⟨hz, q⟩⟩
theorem deg_sk {S T : List Rw} (h : T.map sk = S.map sk) (s : Bool) (e : Int) : deg T s e = deg S s e := by
  have key : ∀ U : List Rw, deg U s e = ((U.map sk).filter fun p => (if s then p.2.2 else p.2.1) == e).length := fun U => by
    unfold deg; rw [List.filter_map, List.length_map]; rfl
  rw [key, key, h]
theorem inr_sk {S T : List Rw} {a b : Int} (h : T.map sk = S.map sk) (r : InR S a b) : InR T a b := fun x hx s => by
  have : sk x ∈ S.map sk := h ▸ List.mem_map.2 ⟨x, hx, rfl⟩
  obtain ⟨y, hy, q⟩ := List.mem_map.1 this
  have e : x.e s = y.e s := by unfold sk at q; simp only [Prod.mk.injEq] at q; unfold Rw.e; rw [q.2.1, q.2.2]
  rw [e]; exact r y hy s
theorem Good.come {S : List Rw} {a b : Int} {m m' : Nat} (G : Good S a b m) {x : Rw} (hx : ∀ y ∈ S, y.n < x.n) (hr : ∀ s, 0 ≤ x.e s ∧ x.e s < szOf a b s) (hn : x.h = none) (hc : IsCnt (S ++ [x]) a b m') {S' : List Rw} (H : Hued (S ++ [x]) S' x.n m') : Good S' a b m' := by
  have hm : m ≤ m' := by
    rcases G.cnt.got with q | ⟨s, e, h1, h2, h3⟩
    · omega
    · have := hc.le s e h1 h2; rw [deg_append] at this; omega
  refine ⟨H.inc, H.proper, inr_sk H.sk fun y hy s => ?_, hc.congr (deg_sk H.sk), fun y hy => ?_⟩
  · rcases List.mem_append.1 hy with h | h
    · exact G.inr y h s
    · rw [List.mem_singleton.1 h]; exact hr s
  · rcases H.hues y hy with h | ⟨h, q⟩
    · exact h
    · rcases List.mem_append.1 h with h | h
      · obtain ⟨v, e, h1, h2⟩ := G.hues y h; exact ⟨v, e, h1, by omega⟩
      · rw [List.mem_singleton.1 h] at q; exact absurd rfl q
theorem Good.comeInc {S : List Rw} {a b : Int} {m : Nat} (G : Good S a b m) {x : Rw} (hx : ∀ y ∈ S, y.n < x.n) (hn : x.h = none) : Inc (S ++ [x]) ∧ We (S ++ [x]) := by
  refine ⟨?_, fun y hy z hz t h1 h2 h3 => ?_⟩
  · unfold Inc; rw [List.pairwise_append]
    exact ⟨G.inc, List.pairwise_singleton _ _, fun y hy z hz => by rw [List.mem_singleton.1 hz]; exact hx y hy⟩
  · rcases List.mem_append.1 hy with p | p <;> rcases List.mem_append.1 hz with q | q
    · exact G.proper y p z q t h1 h2 h3
    · rw [List.mem_singleton.1 q, hn] at h2; exact absurd h2 h3
    · rw [List.mem_singleton.1 p, hn] at h3; exact absurd rfl h3
    · rw [List.mem_singleton.1 p, List.mem_singleton.1 q]
end
section
/-! ## a hue's pairs go -/
noncomputable def ofHue (S : List Rw) (h : Int) : List Rw := S.filter fun x => x.h == some h
theorem class_full {S : List Rw} {a b : Int} {m : Nat} (G : Good S a b m) {h : Int} (h0 : 0 ≤ h) (h1 : h < m) {s : Bool} {e : Int} (hd : deg S s e = m) : e ∈ (ofHue S h).map fun x => x.e s := by
  obtain ⟨x, hx, he, hh⟩ := full_cover G.inc G.proper hd G.hues h0 h1
  exact List.mem_map.2 ⟨x, List.mem_filter.2 ⟨hx, by simp [hh]⟩, he⟩
theorem class_some {S : List Rw} {a b : Int} {m : Nat} (G : Good S a b m) {h : Int} (h0 : 0 ≤ h) (h1 : h < m) : ofHue S h ≠ [] := by
  rcases G.cnt.got with q | ⟨s, e, p1, p2, p3⟩
  · omega
  · intro w
    have := class_full G h0 h1 p3
    rw [w] at this; cases this
theorem cnt_sk {S T : List Rw} {a b : Int} {m : Nat} (h : T.map sk = S.map sk) (x : IsCnt S a b m) : IsCnt T a b m := x.congr (deg_sk h)
end
section
open PySem PySem.W PyProof.Rows
variable {g : Gr} {sc csc : Scope} {r : Nat} {c : Bool} {K : Frag}
theorem sndE_callC {n : String} {f : Value} {p pos : Pos} {args : List Expr} {ts : TL} {t : TF} (hK : K.In g.b0) (hm : (Str.ofString n, NameKind.globalImplicit) ∈ sc.names) (hk : Xi g n f) (hkp : keepIn K f = true) (hF : SndF g r f t) (hL : SndL g sc r true args ts) (hp : Plain args) :
    Y5 g sc r true (.Call (.Name (Str.ofString n) p) args [] pos) (Zs ts t) := .mk fun A env s ℓ σ Q E X h => by
  show wpAny _ A (do callWith pos (← eval (.Name (Str.ofString n) p) env) [] (backTo pos (starEach args env)) (backToKw pos (keywordEach [] env))) _ _ s
  refine wpAny_bind (Y7 X hm hk ?_)
  refine callWith_in hK hkp (Wr hp pos env) (wpAny_mono (hL.run A env pos s ℓ σ _ E X h) (fun vs s₁ p => ?_) fun _ _ p => p)
  refine X7.elim p fun xs σ₁ hv hR hx hs hq => ?_
  have X1 := X.step hR hx
  exact ⟨fun a o e => hR.base a o e, wp_back hx hs (hF.run A s₁ σ₁ xs vs Q E X.gok X1.fr.frl X1.room hR hv hq)⟩
section
variable {o : Expr} {apos pos : Pos} {args : List Expr} {to : TE} {ts : TL}
end
theorem unmoved_name {i : String} : Unmoved (Zo i) := fun ℓ σ Q E h => by
  unfold Zo at h
  split at h
  · rename_i v e; exact ⟨v, h, fun _ _ _ q => by unfold Zo; rw [e]; exact q⟩
  · exact h.elim
/-! ## strings, none, data -/
theorem lay_str {x : Str} (h : PyData.strOk x = true) : Lay (.str x) := ⟨by simpa [PyData.canLay0] using h, by simp [PyData.depth]⟩
theorem eqD_str {σ : AH} {a b : Str} {Q : Bool → Prop} (ha : PyData.strOk a = true) (hb : PyData.strOk b = true) (h : Q (a == b)) : eqD (.str a) (.str b) σ Q := by
  unfold eqD
  exact ⟨.str a, .str b, by simp [Xe], by simp [Xe], lay_str ha, lay_str hb, by simpa only [PyData.eqv] using h⟩
noncomputable def hueV : Option Int → V
  | none => .none
  | some h => .int h
noncomputable def hueD : Option Int → PyData
  | none => .none
  | some h => .int h
theorem data_hue {σ : AH} (h : Option Int) : Xe σ (hueD h) (hueV h) := by cases h <;> simp [hueD, hueV, Xe]
theorem eqD_hue {σ : AH} {a : Option Int} {b : Int} {Q : Bool → Prop} (h : Q (a == some b)) : eqD (hueV a) (.int b) σ Q := by
  cases a with
  | none => unfold eqD hueV; exact ⟨.none, .int b, by simp [Xe], by simp [Xe], lay_none, lay_int b, by simpa [PyData.eqv] using h⟩
  | some x => simp only [hueV, eqD]; simpa using h
theorem data_hues {σ : AH} : ∀ (hs : List (Option Int)), Wc σ (hs.map hueD) (hs.map hueV)
  | [] => by simp [Wc]
  | h :: hs => by simp only [List.map_cons, Wc]; exact ⟨_, _, rfl, data_hue h, data_hues hs⟩
theorem canLay_hues : ∀ hs : List (Option Int), PyData.canLayAll0 (hs.map hueD) = true
  | [] => by simp [PyData.canLayAll0]
  | h :: hs => by cases h <;> simp [PyData.canLayAll0, PyData.canLay0, hueD, canLay_hues hs]
theorem depth_hues : ∀ hs : List (Option Int), PyData.depthAll (hs.map hueD) ≤ 1
  | [] => by simp [PyData.depthAll]
  | h :: hs => by
    have := depth_hues hs
    cases h <;> (simp only [List.map_cons, hueD, PyData.depthAll, PyData.depth]; omega)
theorem lay_hues (hs : List (Option Int)) : Lay (.list (hs.map hueD)) := ⟨by simp [PyData.canLay0, canLay_hues], by have := depth_hues hs; simp only [PyData.depth]; omega⟩
theorem any_hue : ∀ (hs : List (Option Int)) (k : Int), ((hs.map hueD).any fun y => PyData.eqv y (.int k)) = decide (some k ∈ hs)
  | [], k => by simp
  | h :: hs, k => by
    rw [List.map_cons, List.any_cons, any_hue hs k]
    cases h with
    | none => simp [hueD, PyData.eqv]
    | some x =>
      simp only [hueD, PyData.eqv]
      by_cases q : x = k
      · subst q; simp
      · have q' : ¬ k = x := fun z => q z.symm
        have : (x == k) = false := by simpa using q
        rw [this]; simp [q']
theorem inD_hues {σ : AH} {a : Addr} {hs : List (Option Int)} {k : Int} {Q : Bool → Prop} (ha : σ a = some (.list (hs.map hueV))) (h : Q (decide (some k ∈ hs))) : inD (.int k) (.ref a) σ Q := by
  simp only [inD, ha]
  exact ⟨_, .int k, data_hues hs, by simp [Xe], lay_hues hs, lay_int k, by rw [any_hue]; exact h⟩
theorem eqD_ints {σ : AH} {a b : Addr} {ns ms : List Int} {Q : Bool → Prop} (ha : σ a = some (.list (ns.map V.int))) (hb : σ b = some (.list (ms.map V.int))) (h : Q (ns == ms)) : eqD (.ref a) (.ref b) σ Q := by
  unfold eqD
  exact ⟨_, _, data_list ha (data_ints ns), data_list hb (data_ints ms), lay_ints ns, lay_ints ms, by simpa only [PyData.eqv, eqvAll_ints] using h⟩
/-! ## a hall in the abstract heap -/
noncomputable def sideS (s : Bool) : Str := if s then Str.ofString "right" else Str.ofString "left"
theorem sideS_left (s : Bool) : (sideS s == Str.ofString "left") = !s := by cases s <;> decide +kernel
theorem sideS_ok (s : Bool) : PyData.strOk (sideS s) = true := by cases s <;> decide +kernel
theorem left_ok : PyData.strOk (Str.ofString "left") = true := by decide +kernel
theorem left_ne_right : Str.ofString "left" ≠ Str.ofString "right" := by decide +kernel
noncomputable def rowL (x : Rw) : List V := [.int x.l, .int x.r, hueV x.h]
structure HD where
  T : List (Rw × Addr)
  a : Int
  b : Int
  nx : Int
  d : Addr
  rd : Addr
  sd : Addr
  kvs : List (Str × V)
noncomputable def HD.S (D : HD) : List Rw := D.T.map (·.1)
noncomputable def HD.foot (D : HD) (y : Addr) : Prop := y = D.d ∨ y = D.rd ∨ y ∈ D.T.map (·.2)
structure Yg (σ : AH) (C x : Addr) (D : HD) : Prop where
  inst : σ x = some (.inst C D.d)
  attrs : σ D.d = some (.attrs D.kvs)
  aRows : D.kvs.lookup (Str.ofString "rows") = some (.ref D.rd)
  aSizes : D.kvs.lookup (Str.ofString "sizes") = some (.ref D.sd)
  aNext : D.kvs.lookup (Str.ofString "next_number") = some (.int D.nx)
  names : ∀ p ∈ D.kvs, p.1 = Str.ofString "rows" ∨ p.1 = Str.ofString "sizes" ∨ p.1 = Str.ofString "next_number"
  few : D.kvs.length ≤ 3 + D.nx.toNat
  rows : ∃ ep, σ D.rd = some (.dictI (D.T.map fun t => (t.1.n, V.ref t.2)) ep)
  row : ∀ t ∈ D.T, σ t.2 = some (.list (rowL t.1))
  nodup : (D.T.map (·.2)).Nodup
  sizes : ∃ ep, σ D.sd = some (.dictS [(Str.ofString "left", .int D.a), (Str.ofString "right", .int D.b)] ep)
theorem Yg.sub {σ σ' : AH} {C x : Addr} {D : HD} (H : Yg σ C x D) (s : Sub σ σ') : Yg σ' C x D :=
  ⟨s _ _ H.inst, s _ _ H.attrs, H.aRows, H.aSizes, H.aNext, H.names, H.few, let ⟨ep, e⟩ := H.rows; ⟨ep, s _ _ e⟩, fun t ht => s _ _ (H.row t ht), H.nodup, let ⟨ep, e⟩ := H.sizes; ⟨ep, s _ _ e⟩⟩
theorem Yg.noName {σ : AH} {C x : Addr} {D : HD} (H : Yg σ C x D) {n : Str} (h : (n == Str.ofString "rows" || n == Str.ofString "sizes" || n == Str.ofString "next_number") = false) : D.kvs.lookup n = none := by
  cases e : D.kvs.lookup n with
  | none => rfl
  | some v =>
    have := mem_names (x := n) (kvs := D.kvs) (by rw [e]; simp)
    obtain ⟨p, hp, q⟩ := List.mem_map.1 this
    rcases H.names p hp with z | z | z <;> (rw [← q, z] at h; simp at h)
theorem Yg.instOf {σ : AH} {C x : Addr} {D : HD} (H : Yg σ C x D) {n : Str} (h : (n == Str.ofString "rows" || n == Str.ofString "sizes" || n == Str.ofString "next_number") = false) : Mine.instOf C n (.ref x) σ :=
  ⟨x, D.d, D.kvs, rfl, H.inst, H.attrs, H.noName h⟩
theorem Yg.rowsA {σ : AH} {C x : Addr} {D : HD} (H : Yg σ C x D) : attrOf C (Str.ofString "rows") (.ref x) σ = some (.ref D.rd) := attrOf_eq H.inst H.attrs H.aRows
theorem Yg.sizesA {σ : AH} {C x : Addr} {D : HD} (H : Yg σ C x D) : attrOf C (Str.ofString "sizes") (.ref x) σ = some (.ref D.sd) := attrOf_eq H.inst H.attrs H.aSizes
theorem Yg.nextA {σ : AH} {C x : Addr} {D : HD} (H : Yg σ C x D) : attrOf C (Str.ofString "next_number") (.ref x) σ = some (.int D.nx) := attrOf_eq H.inst H.attrs H.aNext
theorem lookup_T {T : List (Rw × Addr)} (hi : Inc (T.map (·.1))) {t : Rw × Addr} (ht : t ∈ T) : (T.map fun t => (t.1.n, V.ref t.2)).lookup t.1.n = some (.ref t.2) := by
  induction T with
  | nil => cases ht
  | cons u T ih =>
    rw [List.map_cons, List.lookup_cons]
    rcases List.mem_cons.1 ht with rfl | h
    · simp
    · have : u.1.n < t.1.n := (List.pairwise_cons.1 hi).1 t.1 (List.mem_map.2 ⟨t, h, rfl⟩)
      have q : (t.1.n == u.1.n) = false := by simp; omega
      rw [q]; exact ih (List.pairwise_cons.1 hi).2 h
theorem Yg.item {σ : AH} {C x : Addr} {D : HD} (H : Yg σ C x D) (hi : Inc D.S) {t : Rw × Addr} (ht : t ∈ D.T) {Q : V → Prop} (h : Q (.ref t.2)) : itemV (.ref D.rd) (.int t.1.n) σ Q := by
  obtain ⟨ep, e⟩ := H.rows
  simp only [itemV, e, lookup_T hi ht]
  exact h
theorem mem_S {D : HD} {x : Rw} (h : x ∈ D.S) : ∃ t ∈ D.T, t.1 = x := List.mem_map.1 h
theorem Yg.item0 {σ : AH} {C x : Addr} {D : HD} (H : Yg σ C x D) {t : Rw × Addr} (ht : t ∈ D.T) {Q : V → Prop} (h : Q (.int t.1.l)) : itemV (.ref t.2) (.int 0) σ Q := by
  simp only [itemV, H.row t ht]
  exact h
theorem Yg.item1 {σ : AH} {C x : Addr} {D : HD} (H : Yg σ C x D) {t : Rw × Addr} (ht : t ∈ D.T) {Q : V → Prop} (h : Q (.int t.1.r)) : itemV (.ref t.2) (.int 1) σ Q := by
  simp only [itemV, H.row t ht]
  exact h
theorem Yg.item2 {σ : AH} {C x : Addr} {D : HD} (H : Yg σ C x D) {t : Rw × Addr} (ht : t ∈ D.T) {Q : V → Prop} (h : Q (hueV t.1.h)) : itemV (.ref t.2) (.int 2) σ Q := by
  simp only [itemV, H.row t ht]
  exact h
theorem Yg.size {σ : AH} {C x : Addr} {D : HD} (H : Yg σ C x D) (s : Bool) {Q : V → Prop} (h : Q (.int (szOf D.a D.b s))) : itemV (.ref D.sd) (.str (sideS s)) σ Q := by
  obtain ⟨ep, e⟩ := H.sizes
  cases s with
  | false => simp only [itemV, e, sideS, List.lookup_cons]; simpa [szOf] using h
  | true =>
    have : (Str.ofString "right" == Str.ofString "left") = false := by decide +kernel
    simp only [itemV, e, sideS, List.lookup_cons, if_true, this]; simpa [szOf] using h
end
section
open PySem PySem.W PyProof.Rows
theorem compT_growS {α : Type} {t : Tgt} {inv : AH → Prop} {tifs : TB} {telt : TE} {ℓ : Loc} {σ : AH} {Q : List V → AH → Prop} {E : Addr → AH → Prop} (f : α → V) (p : α → Bool) (F : α → V) (xs : List α) (hinv : ∀ σ', Sub σ σ' → inv σ')
    (hs : ∀ x ∈ xs, ∀ σ', Sub σ σ' → ∃ ℓ₁, (∀ P : Loc → Prop, P ℓ₁ → Zj t (f x) ℓ.bare σ' P) ∧ (∀ Qb : Bool → AH → Prop, (∀ σ'', Sub σ' σ'' → Qb (p x) σ'') → tifs ℓ₁ σ' Qb E) ∧
        (p x = true → ∀ σ'', Sub σ' σ'' → ∀ Qv : V → AH → Prop, (∀ σ₃, Sub σ'' σ₃ → Qv (F x) σ₃) → telt ℓ₁ σ'' Qv E))
    (h : ∀ σ', Sub σ σ' → Q ((xs.filter p).map F) σ') : compT t inv tifs telt ℓ (xs.map f) [] σ Q E :=
  compT_grow f p F hinv xs [] σ Sub.refl hs h
theorem compT_growE {α : Type} {t : Tgt} {inv : AH → Prop} {telt : TE} {ℓ : Loc} {σ : AH} {Q : List V → AH → Prop} {E : Addr → AH → Prop} (f : α → V) (F : α → V) (xs : List α) (hinv : ∀ σ', Sub σ σ' → inv σ')
    (hs : ∀ x ∈ xs, ∃ ℓ₁, (∀ σ', Sub σ σ' → ∀ P : Loc → Prop, P ℓ₁ → Zj t (f x) ℓ.bare σ' P) ∧ (∀ σ', Sub σ σ' → ∀ Qv : V → AH → Prop, (∀ σ₃, Sub σ' σ₃ → Qv (F x) σ₃) → telt ℓ₁ σ' Qv E))
    (h : ∀ σ', Sub σ σ' → Q (xs.map F) σ') : compT t inv (Zf true) telt ℓ (xs.map f) [] σ Q E := by
  refine compT_grow f (fun _ => true) F hinv xs [] σ Sub.refl (fun x hx σ' s' => ?_) (fun σ' s' => by rw [filter_all]; exact h σ' s')
  obtain ⟨ℓ₁, h1, h2⟩ := hs x hx
  exact ⟨ℓ₁, h1 σ' s', fun Qb q => q _ Sub.refl, fun _ σ'' s'' Qv q => h2 σ'' (s'.trans s'') Qv q⟩
theorem sub_set {σ σ' : AH} {d : Addr} {o : AO} (s : Sub σ σ') : Sub (σ.set d o) (σ'.set d o) := fun y p q => by
  unfold AH.set at q ⊢
  split at q
  · rename_i z; rw [if_pos z]; exact q
  · rename_i z; rw [if_neg z]; exact s _ _ q
theorem perm_sorted : ∀ {ns ms : List Int}, ms.Perm ns → ms.Pairwise (· ≤ ·) → ns.Pairwise (· < ·) → ms = ns
  | [], ms, hp, _, _ => List.Perm.eq_nil hp
  | n :: ns, [], hp, _, _ => absurd hp.length_eq (by simp)
  | n :: ns, m :: ms, hp, h1, h2 => by
    have e : m = n := by
      have a : m ∈ n :: ns := hp.mem_iff.1 (.head _)
      have b : n ∈ m :: ms := hp.mem_iff.2 (.head _)
      rcases List.mem_cons.1 a with q | q
      · exact q
      · have h3 := (List.pairwise_cons.1 h2).1 m q
        rcases List.mem_cons.1 b with w | w
        · exact w.symm
        · have h4 := (List.pairwise_cons.1 h1).1 n w
          omega
    subst e
    rw [perm_sorted (List.Perm.cons_inv hp) (List.pairwise_cons.1 h1).2 (List.pairwise_cons.1 h2).2]
theorem tSorted_rows {σ : AH} {C x : Addr} {D : HD} (H : Yg σ C x D) (hi : Inc D.S) (h64 : D.T.length < 64) {Q : V → AH → Prop} {E : Addr → AH → Prop} (h : ∀ b, σ b = none → Q (.ref b) (σ.set b (.list (D.T.map fun t => V.int t.1.n)))) : tSorted [.ref D.rd] σ Q E := by
  obtain ⟨ep, er⟩ := H.rows
  simp only [tSorted, keysInts, er]
  refine ⟨by simpa using h64, fun ns' b hp hs hb => ?_⟩
  have e : ns' = D.T.map fun t => t.1.n := by
    refine perm_sorted (by simpa [List.map_map, Function.comp_def] using hp) hs ?_
    unfold Inc HD.S at hi
    rw [List.pairwise_map] at hi
    rw [List.pairwise_map]
    exact hi
  rw [e, List.map_map]
  exact h b hb
noncomputable def metT (T : List (Rw × Addr)) (s : Bool) (e : Int) : List (Rw × Addr) := T.filter fun t => t.1.e s == e
theorem metT_deg (D : HD) (s : Bool) (e : Int) : (metT D.T s e).length = deg D.S s e := by
  unfold metT deg HD.S
  rw [List.filter_map, List.length_map]; rfl
inductive SMetI (C : Addr) (xs : List V) (σ : AH) (Q : V → AH → Prop) : Prop
  | mk (x : Addr) (D : HD) (s : Bool) (e : Int) (h0 : xs = [.ref x, .str (sideS s), .int e]) (h1 : Yg σ C x D) (h2 : Inc D.S) (h3 : D.T.length < 64) (h4 : ∀ b, σ b = none → Q (.ref b) (σ.set b (.list ((metT D.T s e).map fun t => V.int t.1.n)))) : SMetI C xs σ Q
noncomputable def sMet (C : Addr) : TF := fun xs σ Q _ => SMetI C xs σ Q
inductive SCountI (C : Addr) (xs : List V) (σ : AH) (Q : V → AH → Prop) : Prop
  | mk (x : Addr) (D : HD) (h0 : xs = [.ref x]) (h1 : Yg σ C x D) (h2 : Inc D.S) (h3 : D.T.length < 64) (h4 : 0 ≤ D.a) (h5 : D.a ≤ 1000) (h6 : 0 ≤ D.b) (h7 : D.b ≤ 1000) (h8 : ∀ m : Nat, IsCnt D.S D.a D.b m → Q (.int m) σ) : SCountI C xs σ Q
noncomputable def sCount (C : Addr) : TF := fun xs σ Q _ => SCountI C xs σ Q
noncomputable def Yv (S : List Rw) (s : Bool) (e : Int) (m : Nat) : List Int := (Wx m).filter fun h => !(usedH S s e).contains h
theorem mem_openL {S : List Rw} {s : Bool} {e : Int} {m : Nat} {h : Int} : h ∈ Yv S s e m ↔ (0 ≤ h ∧ h < m) ∧ FreeH S s e h := by
  unfold Yv
  rw [List.mem_filter, rngI_mem]
  refine and_congr_right fun _ => ?_
  simp only [Bool.not_eq_true', List.contains_eq_mem, decide_eq_false_iff_not]
  rw [mem_usedH]
  constructor
  · intro q x hx he hh; exact q ⟨x, hx, he, hh⟩
  · rintro q ⟨x, hx, he, hh⟩; exact q x hx he hh
inductive SOpenI (C : Addr) (xs : List V) (σ : AH) (Q : V → AH → Prop) : Prop
  | mk (x : Addr) (D : HD) (s : Bool) (e : Int) (m : Nat) (h0 : xs = [.ref x, .str (sideS s), .int e, .int (m : Nat)]) (h1 : Yg σ C x D) (h2 : Inc D.S) (h3 : D.T.length < 64) (h4 : m ≤ 1000) (h5 : ∀ b, σ b = none → Q (.ref b) (σ.set b (.list ((Yv D.S s e m).map V.int)))) : SOpenI C xs σ Q
noncomputable def sOpen (C : Addr) : TF := fun xs σ Q _ => SOpenI C xs σ Q
noncomputable def numV : Option Rw → V
  | none => .none
  | some x => .int x.n
inductive SWithI (C : Addr) (xs : List V) (σ : AH) (Q : V → AH → Prop) : Prop
  | mk (x : Addr) (D : HD) (s : Bool) (e : Int) (h : Int) (h0 : xs = [.ref x, .str (sideS s), .int e, .int h]) (h1 : Yg σ C x D) (h2 : Inc D.S) (h3 : D.T.length < 64) (h4 : Q (numV (withH D.S s e h)) σ) : SWithI C xs σ Q
noncomputable def sWith (C : Addr) : TF := fun xs σ Q _ => SWithI C xs σ Q
theorem withH_some {S : List Rw} {s : Bool} {e h : Int} {x : Rw} (q : withH S s e h = some x) : x ∈ S ∧ x.e s = e ∧ x.h = some h := by
  unfold withH at q
  have := List.find?_some q
  simp only [Bool.and_eq_true, beq_iff_eq] at this
  exact ⟨List.mem_of_find?_eq_some q, this⟩
theorem withH_none {S : List Rw} {s : Bool} {e h : Int} (q : withH S s e h = none) : FreeH S s e h := fun x hx he hh => by
  unfold withH at q
  have := List.find?_eq_none.1 q x hx
  simp [he, hh] at this
theorem rangeV_rng {n : Nat} : Xw 0 n = (Wx n).map V.int := by
  unfold Xw Wx
  rw [List.map_map]
  refine List.map_congr_left fun i _ => ?_
  simp
/-! ## counting -/
noncomputable def cntL (S : List Rw) (a b : Int) (done : List Bool) : List Int := done.flatMap fun s => (Wx (szOf a b s).toNat).map fun e => (deg S s e : Int)
theorem cntL_snoc {S : List Rw} {a b : Int} {done : List Bool} {s : Bool} : cntL S a b (done ++ [s]) = cntL S a b done ++ (Wx (szOf a b s).toNat).map fun e => (deg S s e : Int) := by
  unfold cntL; rw [List.flatMap_append]; simp
theorem isCnt_of {S : List Rw} {a b : Int} {m : Int} (h1 : m ∈ (0 : Int) :: cntL S a b [false, true]) (h2 : ∀ n ∈ (0 : Int) :: cntL S a b [false, true], n ≤ m) : ∃ k : Nat, m = k ∧ IsCnt S a b k := by
  have h0 := h2 0 (.head _)
  refine ⟨m.toNat, by omega, fun s e p q => ?_, ?_⟩
  · have : (deg S s e : Int) ∈ (0 : Int) :: cntL S a b [false, true] := by
      refine .tail _ ?_
      unfold cntL
      exact List.mem_flatMap.2 ⟨s, by cases s <;> simp, List.mem_map.2 ⟨e, rngI_mem.2 ⟨p, by omega⟩, rfl⟩⟩
    have := h2 _ this
    omega
  · rcases List.mem_cons.1 h1 with q | q
    · left; omega
    · unfold cntL at q
      obtain ⟨s, _, q⟩ := List.mem_flatMap.1 q
      obtain ⟨e, he, q⟩ := List.mem_map.1 q
      have := rngI_mem.1 he
      exact .inr ⟨s, e, this.1, by omega, by omega⟩
theorem used_hues (D : HD) (s : Bool) (e : Int) (m : Nat) : ((Wx m).filter fun h => !decide (some h ∈ (metT D.T s e).map fun t => t.1.h)) = Yv D.S s e m := by
  unfold Yv
  congr 1
  funext h
  congr 1
  rw [List.contains_eq_mem]
  congr 1
  rw [mem_usedH, eq_iff_iff]
  constructor
  · intro q
    obtain ⟨t, ht, q⟩ := List.mem_map.1 q
    obtain ⟨ht, he⟩ := List.mem_filter.1 ht
    exact ⟨t.1, List.mem_map.2 ⟨t, ht, rfl⟩, by simpa using he, q⟩
  · rintro ⟨x, hx, he, hh⟩
    obtain ⟨t, ht, rfl⟩ := List.mem_map.1 hx
    exact List.mem_map.2 ⟨t, List.mem_filter.2 ⟨ht, by simpa using he⟩, hh⟩
theorem withH_find (D : HD) (s : Bool) (e h : Int) : withH D.S s e h = ((metT D.T s e).find? fun t => t.1.h == some h).map (·.1) := by
  unfold withH metT HD.S
  rw [List.find?_filter, List.find?_map]
  congr 2
  funext a
  rw [Bool.eq_iff_iff]
  simp
theorem openL_length {S : List Rw} {s : Bool} {e : Int} {m : Nat} : (Yv S s e m).length ≤ m := by
  unfold Yv
  have := List.length_filter_le (fun h => !(usedH S s e).contains h) (Wx m)
  rw [rngI_length] at this; exact this
end
section
open PySem PySem.W PyProof.Rows
inductive SChainI (C : Addr) (xs : List V) (σ : AH) (Q : V → AH → Prop) : Prop
  | mk (x : Addr) (D : HD) (s : Bool) (e : Int) (one : Int) (other : Int) (h0 : xs = [.ref x, .str (sideS s), .int e, .int one, .int other]) (h1 : Yg σ C x D) (h2 : Inc D.S) (h3 : D.T.length < 64) (h4 : We D.S) (h5 : FreeH D.S s e one) (h6 : one ≠ other) (h7 : ∀ b l, W0 D.S s e one other l → PDone D.S s e one other l → σ b = none → Q (.ref b) (σ.set b (.list (l.map fun x => V.int x.n)))) : SChainI C xs σ Q
noncomputable def sChain (C : Addr) : TF := fun xs σ Q _ => SChainI C xs σ Q
noncomputable def HD.put (D : HD) (k : Int) (h : Option Int) : HD := { D with T := D.T.map fun t => (Wz k h t.1, t.2) }
noncomputable def HD.flip (D : HD) (nums : List Int) (one other : Int) : HD := { D with T := D.T.map fun t => (flipH nums one other t.1, t.2) }
theorem HD.put_S {D : HD} {k : Int} {h : Option Int} : (D.put k h).S = D.S.map (Wz k h) := by simp [HD.put, HD.S, Function.comp_def]
theorem HD.flip_S {D : HD} {nums : List Int} {one other : Int} : (D.flip nums one other).S = D.S.map (flipH nums one other) := by simp [HD.flip, HD.S, Function.comp_def]
theorem HD.put_addr {D : HD} {k : Int} {h : Option Int} : (D.put k h).T.map (·.2) = D.T.map (·.2) := by simp [HD.put, Function.comp_def]
theorem HD.flip_addr {D : HD} {nums : List Int} {one other : Int} : (D.flip nums one other).T.map (·.2) = D.T.map (·.2) := by simp [HD.flip, Function.comp_def]
theorem snd_inj {T : List (Rw × Addr)} (hn : (T.map (·.2)).Nodup) {t u : Rw × Addr} (ht : t ∈ T) (hu : u ∈ T) (h : t.2 = u.2) : t = u := by
  induction T with
  | nil => cases ht
  | cons v T ih =>
    rw [List.map_cons, List.nodup_cons] at hn
    rcases List.mem_cons.1 ht with p | p <;> rcases List.mem_cons.1 hu with q | q
    · rw [p, q]
    · exact absurd (List.mem_map.2 ⟨u, q, by rw [← h, p]⟩) hn.1
    · exact absurd (List.mem_map.2 ⟨t, p, by rw [h, q]⟩) hn.1
    · exact ih hn.2 p q
theorem fst_inj {T : List (Rw × Addr)} (hi : Inc (T.map (·.1))) {t u : Rw × Addr} (ht : t ∈ T) (hu : u ∈ T) (h : t.1.n = u.1.n) : t = u := by
  induction T with
  | nil => cases ht
  | cons v T ih =>
    rcases List.pairwise_cons.1 hi with ⟨h1, h2⟩
    rcases List.mem_cons.1 ht with p | p <;> rcases List.mem_cons.1 hu with q | q
    · rw [p, q]
    · have : v.1.n < u.1.n := h1 _ (List.mem_map.2 ⟨u, q, rfl⟩); rw [← p] at this; omega
    · have : v.1.n < t.1.n := h1 _ (List.mem_map.2 ⟨t, p, rfl⟩); rw [← q] at this; omega
    · exact ih h2 p q
theorem Yg.apart {σ : AH} {C x : Addr} {D : HD} (H : Yg σ C x D) {t : Rw × Addr} (ht : t ∈ D.T) : x ≠ t.2 ∧ D.d ≠ t.2 ∧ D.rd ≠ t.2 ∧ D.sd ≠ t.2 := by
  have r := H.row t ht
  obtain ⟨ep, er⟩ := H.rows
  obtain ⟨eq, es⟩ := H.sizes
  refine ⟨fun z => ?_, fun z => ?_, fun z => ?_, fun z => ?_⟩
  · have := H.inst; rw [z, r] at this; cases this
  · have := H.attrs; rw [z, r] at this; cases this
  · rw [z, r] at er; cases er
  · rw [z, r] at es; cases es
theorem Yg.setHue {σ : AH} {C x : Addr} {D : HD} (H : Yg σ C x D) (hi : Inc D.S) {t : Rw × Addr} (ht : t ∈ D.T) (h : Option Int) : Yg (σ.set t.2 (.list (rowL { t.1 with h := h }))) C x (D.put t.1.n h) := by
  obtain ⟨a1, a2, a3, a4⟩ := H.apart ht
  obtain ⟨ep, er⟩ := H.rows
  obtain ⟨eq, es⟩ := H.sizes
  refine ⟨(AH.set_other a1).trans H.inst, (AH.set_other a2).trans H.attrs, H.aRows, H.aSizes, H.aNext, H.names, H.few, ⟨ep, ?_⟩, fun u hu => ?_, ?_, ⟨eq, (AH.set_other a4).trans es⟩⟩
  · show (σ.set t.2 _) D.rd = _
    rw [AH.set_other a3, er]
    simp [HD.put, Function.comp_def, putH_n]
  · obtain ⟨v, hv, rfl⟩ := List.mem_map.1 hu
    show (σ.set t.2 _) v.2 = _
    by_cases z : v.2 = t.2
    · have := snd_inj H.nodup hv ht z
      subst this
      rw [AH.set_same]
      unfold Wz; rw [if_pos rfl]
    · rw [AH.set_other z, H.row v hv]
      rw [putH_out fun w => z (by rw [fst_inj hi hv ht w])]
  · rw [HD.put_addr]; exact H.nodup
theorem flip_snoc {D : HD} (hi : Inc D.S) {done : List Int} {one other : Int} {t : Rw × Addr} (ht : t ∈ D.T) (hn : t.1.n ∉ done) {h : Int} (hh : t.1.h = some h) : (D.flip done one other).put t.1.n (some (one + other - h)) = D.flip (done ++ [t.1.n]) one other := by
  unfold HD.flip HD.put
  congr 1
  rw [List.map_map]
  refine List.map_congr_left fun u hu => ?_
  simp only [Function.comp_apply]
  congr 1
  by_cases z : u.1.n = t.1.n
  · have := fst_inj hi hu ht z
    subst this
    rw [Wm hn]
    unfold Wz flipH
    rw [if_pos rfl, if_pos (by simp), hh]; rfl
  · have : (flipH done one other u.1).n ≠ t.1.n := by rw [flipH_n]; exact z
    rw [putH_out this]
    unfold flipH
    by_cases w : u.1.n ∈ done
    · rw [if_pos w, if_pos (List.mem_append_left _ w)]
    · rw [if_neg w, if_neg (by simp [w, z])]
theorem flip_nil {D : HD} {one other : Int} : D.flip [] one other = D := by
  unfold HD.flip
  have : (D.T.map fun t => (flipH [] one other t.1, t.2)) = D.T := by
    conv => rhs; rw [← List.map_id D.T]
    refine List.map_congr_left fun t _ => ?_
    rw [Wm (by simp)]; rfl
  rw [this]
inductive STurnI (C : Addr) (xs : List V) (σ : AH) (Q : V → AH → Prop) : Prop
  | mk (x : Addr) (D : HD) (c : Addr) (nums : List Int) (one : Int) (other : Int) (h0 : xs = [.ref x, .ref c, .int one, .int other]) (h1 : Yg σ C x D) (h2 : Inc D.S) (h3 : σ c = some (.list (nums.map V.int))) (h4 : c ∉ D.T.map (·.2)) (h5 : nums.Nodup) (h6 : (∀ k ∈ nums, ∃ t ∈ D.T, t.1.n = k ∧ ∃ h, t.1.h = some h)) (h7 : ∀ σ', Yg σ' C x (D.flip nums one other) → (∀ y, y ∉ D.T.map (·.2) → σ' y = σ y) → Q .none σ') : STurnI C xs σ Q
noncomputable def sTurn (C : Addr) : TF := fun xs σ Q _ => STurnI C xs σ Q
theorem inc_flip {D : HD} {nums : List Int} {one other : Int} (hi : Inc D.S) : Inc (D.flip nums one other).S := by rw [HD.flip_S]; exact inc_map (fun _ => flipH_n) hi
end
section
open PySem PySem.W PyProof.Rows
noncomputable def endS (l r : Int) (s : Bool) : Int := if s then r else l
noncomputable def WayQ (S : List Rw) (l r : Int) (m : Nat) (σ : AH) (t : Int × Int × Int × Addr) : Prop :=
  ∃ s c, t.1 = (c.length : Int) ∧ σ t.2.2.2 = some (.list (c.map fun x => V.int x.n)) ∧ t.2.1 ∈ Yv S (!s) (endS l r (!s)) m ∧ t.2.2.1 ∈ Yv S s (endS l r s) m ∧ W0 S s (endS l r s) t.2.2.1 t.2.1 c ∧ PDone S s (endS l r s) t.2.2.1 t.2.1 c
theorem WayQ.sub {S : List Rw} {l r : Int} {m : Nat} {σ σ' : AH} {t : Int × Int × Int × Addr} (w : WayQ S l r m σ t) (h : ∀ o, σ t.2.2.2 = some o → σ' t.2.2.2 = some o) : WayQ S l r m σ' t := by
  obtain ⟨s, c, h1, h2, h3⟩ := w
  exact ⟨s, c, h1, h _ h2, h3⟩
noncomputable def GotW (es : List (Int × Int × Int × Addr)) (hue other : Int) : Prop := ∃ t ∈ es, t.2.1 = hue ∧ t.2.2.1 = other
theorem GotW.more {es fs : List (Int × Int × Int × Addr)} {a b : Int} (h : GotW es a b) : GotW (es ++ fs) a b := let ⟨t, ht, q⟩ := h; ⟨t, List.mem_append_left _ ht, q⟩
inductive SWaysI (C : Addr) (xs : List V) (σ : AH) (Q : V → AH → Prop) : Prop
  | mk (x : Addr) (D : HD) (l : Int) (r : Int) (m : Nat) (h0 : xs = [.ref x, .int l, .int r, .int (m : Nat)]) (h1 : Yg σ C x D) (h2 : Inc D.S) (h3 : D.T.length < 64) (h4 : We D.S) (h5 : m ≤ 100) (h6 : (∀ h, h ∈ Yv D.S false l m → h ∉ Yv D.S true r m)) (h7 : ∀ σ' b es, Sub σ σ' → σ b = none → σ' b = some (.list (es.map quad)) → (∀ t ∈ es, WayQ D.S l r m σ' t ∧ σ t.2.2.2 = none) → (∀ one ∈ Yv D.S false l m, ∀ two ∈ Yv D.S true r m, GotW es one two ∧ GotW es two one) → Q (.ref b) σ') : SWaysI C xs σ Q
noncomputable def sWays (C : Addr) : TF := fun xs σ Q _ => SWaysI C xs σ Q
structure WInv (S : List Rw) (l r : Int) (m : Nat) (σ : AH) (b : Addr) (σ' : AH) (es : List (Int × Int × Int × Addr)) : Prop where
  fb : σ' b = some (.list (es.map quad))
  sub : Sub σ σ'
  way : ∀ t ∈ es, WayQ S l r m σ' t ∧ σ t.2.2.2 = none ∧ t.2.2.2 ≠ b
theorem WInv.keep {S : List Rw} {l r : Int} {m : Nat} {σ σ' : AH} {b c : Addr} {o : AO} {es : List (Int × Int × Int × Addr)} (w : WInv S l r m σ b σ' es) (hc : σ' c = none) : WInv S l r m σ b (σ'.set c o) es :=
  ⟨Zt w.fb hc, w.sub.new hc, fun t ht => ⟨(w.way t ht).1.sub fun p e => Zt e hc, (w.way t ht).2⟩⟩
theorem WInv.add {S : List Rw} {l r : Int} {m : Nat} {σ σ' : AH} {b c : Addr} {es : List (Int × Int × Int × Addr)} (hb : σ b = none) (w : WInv S l r m σ b σ' es) (hc : σ' c = none) (ch : List Rw) {s : Bool} {hue other : Int}
    (h1 : hue ∈ Yv S (!s) (endS l r (!s)) m) (h2 : other ∈ Yv S s (endS l r s) m) (hp : W0 S s (endS l r s) other hue ch) (hd : PDone S s (endS l r s) other hue ch) :
    WInv S l r m σ b ((σ'.set c (.list (ch.map fun x => V.int x.n))).set b (.list ((es ++ [((ch.length : Int), hue, other, c)]).map quad))) (es ++ [((ch.length : Int), hue, other, c)]) := by
  have hcb : c ≠ b := fun z => by rw [z, w.fb] at hc; cases hc
  refine ⟨AH.set_same, (w.sub.new hc).upd hb, fun t ht => ?_⟩
  rcases List.mem_append.1 ht with q | q
  · obtain ⟨w1, w2, w3⟩ := w.way t q
    exact ⟨w1.sub fun p e => by rw [AH.set_other w3]; exact Zt e hc, w2, w3⟩
  · rw [List.mem_singleton.1 q]
    exact ⟨⟨s, ch, rfl, by rw [AH.set_other hcb]; exact AH.set_same, h1, h2, hp, hd⟩, w.sub.none hc, hcb⟩
end
section
open PySem PySem.W PyProof.Rows
/-! ## a chain is the only one -/
theorem W0.tip {S : List Rw} {s : Bool} {e one other : Int} {l : List Rw} (P : W0 S s e one other l) {i : Nat} {x : Rw} (h : l[i]? = some x) : x.e (Wf s i) = tipE s e (l.take i) := by
  have hi : i < l.length := by
    rcases Nat.lt_or_ge i l.length with q | q
    · exact q
    · rw [List.getElem?_eq_none q] at h; cases h
  have hl : (l.take i).length = i := by rw [List.length_take]; omega
  unfold tipE
  cases i with
  | zero => simp only [List.take_zero, List.getLast?_nil]; exact P.fst x h
  | succ k =>
    obtain ⟨z, hz⟩ := getPred h
    have : (l.take (k + 1)).getLast? = some z := by
      rw [List.getLast?_eq_getElem?, hl, List.getElem?_take, if_pos (by omega)]; exact hz
    rw [this, hl]
    exact P.nxt k z x hz h
theorem W0.unique {S : List Rw} {s : Bool} {e one other : Int} {l l' : List Rw} (hp : We S) (hi : Inc S) (P : W0 S s e one other l) (D : PDone S s e one other l) (P' : W0 S s e one other l') (D' : PDone S s e one other l') : l = l' := by
  have key : ∀ {l l' : List Rw}, W0 S s e one other l → W0 S s e one other l' → PDone S s e one other l' → ∀ i, l.take i = l'.take i → ∀ x, l[i]? = some x → l'[i]? = some x := by
    intro l l' P P' D' i ht x hx
    have h1 := P.tip hx
    have h2 := P.hue i x hx
    have hxS := P.mem x (List.mem_of_getElem? hx)
    cases hy : l'[i]? with
    | some y =>
      have h3 := P'.tip hy
      have h4 := P'.hue i y hy
      have := hp x hxS y (P'.mem y (List.mem_of_getElem? hy)) (Wf s i) (by rw [h1, h3, ht]) (by rw [h2, h4]) (by rw [h2]; simp)
      rw [hi.inj hxS (P'.mem y (List.mem_of_getElem? hy)) this]
    | none =>
      have hlen : l'.length ≤ i := List.getElem?_eq_none_iff.1 hy
      have hil : i < l.length := by
        rcases Nat.lt_or_ge i l.length with q | q
        · exact q
        · rw [List.getElem?_eq_none q] at hx; cases hx
      have hl2 : (l.take i).length = i := by rw [List.length_take]; omega
      have htk : l'.take i = l' := List.take_of_length_le hlen
      have hle : l'.length = i := by rw [← htk, ← ht, hl2]
      refine absurd ?_ (D' x hxS ?_)
      · rw [hle]; exact h2
      · rw [hle]; rw [ht, htk] at h1; exact h1
  have main : ∀ i, l.take i = l'.take i := by
    intro i
    induction i with
    | zero => rfl
    | succ i ih =>
      rw [List.take_add_one, List.take_add_one, ih]
      congr 2
      cases hx : l[i]? with
      | some x => exact (key P P' D' i ih x hx).symm
      | none =>
        cases hy : l'[i]? with
        | none => rfl
        | some y => rw [key P' P D i ih.symm y hy] at hx; cases hx
  have := main (l.length + l'.length)
  rwa [List.take_of_length_le (by omega), List.take_of_length_le (by omega)] at this
/-! ## a row is laid anew -/
noncomputable def HD.renew (D : HD) (k : Int) (p : Addr) : HD := { D with T := D.T.map fun u => if u.1.n = k then (Wz k none u.1, p) else u }
theorem HD.renew_S {D : HD} {k : Int} {p : Addr} : (D.renew k p).S = D.S.map (Wz k none) := by
  unfold HD.renew HD.S
  simp only [List.map_map]
  refine List.map_congr_left fun u _ => ?_
  simp only [Function.comp_apply]
  split
  · rfl
  · rename_i q; rw [putH_out q]
theorem renew_mem {D : HD} {k : Int} {p : Addr} {t : Rw × Addr} (ht : t ∈ D.T) (hk : t.1.n = k) : (Wz k none t.1, p) ∈ (D.renew k p).T := List.mem_map.2 ⟨t, ht, by rw [if_pos hk]⟩
theorem renew_addr {D : HD} {k : Int} {p y : Addr} (h : y ∈ (D.renew k p).T.map (·.2)) : y = p ∨ y ∈ D.T.map (·.2) := by
  obtain ⟨u, hu, rfl⟩ := List.mem_map.1 h
  obtain ⟨v, hv, rfl⟩ := List.mem_map.1 hu
  split
  · exact .inl rfl
  · exact .inr (List.mem_map.2 ⟨v, hv, rfl⟩)
theorem Yg.renew {σ : AH} {C x : Addr} {D : HD} (H : Yg σ C x D) (hi : Inc D.S) {t : Rw × Addr} (ht : t ∈ D.T) {p : Addr} (hp : σ p = none) (ep : Nat) :
    Yg ((σ.set p (.list [.int t.1.l, .int t.1.r, .none])).set D.rd (.dictI (putD (D.T.map fun t => (t.1.n, V.ref t.2)) t.1.n (.ref p)) ep)) C x (D.renew t.1.n p) := by
  have H1 := H.sub (Sub.refl.new (o := .list [.int t.1.l, .int t.1.r, .none]) hp)
  obtain ⟨e1, er⟩ := H1.rows
  obtain ⟨e2, es⟩ := H1.sizes
  have er0 : σ D.rd ≠ none := by obtain ⟨_, q⟩ := H.rows; rw [q]; simp
  have ne : ∀ {y o}, (σ.set p (.list [.int t.1.l, .int t.1.r, .none])) y = some o → (∀ kvs ep, o ≠ .dictI kvs ep) → y ≠ D.rd := fun {y o} h1 h2 z => by rw [z, er] at h1; cases h1; exact h2 _ _ rfl
  have prd : p ≠ D.rd := fun z => er0 (by rw [← z]; exact hp)
  refine ⟨(AH.set_other (ne H1.inst (by simp))).trans H1.inst, (AH.set_other (ne H1.attrs (by simp))).trans H1.attrs, H.aRows, H.aSizes, H.aNext, H.names, H.few, ⟨ep, ?_⟩, fun u hu => ?_, ?_, ⟨e2, (AH.set_other (ne es (by simp))).trans es⟩⟩
  · show (AH.set _ D.rd _) D.rd = _
    rw [AH.set_same]
    congr 2
    unfold putD
    rw [if_pos (by rw [List.any_eq_true]; exact ⟨(t.1.n, .ref t.2), List.mem_map.2 ⟨t, ht, rfl⟩, by simp⟩)]
    unfold HD.renew
    simp only [List.map_map]
    refine List.map_congr_left fun u _ => ?_
    simp only [Function.comp_apply]
    by_cases q : u.1.n = t.1.n
    · rw [if_pos q, if_pos q]; simp [putH_n]
    · rw [if_neg q, if_neg q]
  · obtain ⟨v, hv, rfl⟩ := List.mem_map.1 hu
    by_cases q : v.1.n = t.1.n
    · have := fst_inj hi hv ht q
      subst this
      rw [if_pos rfl]
      show (AH.set _ D.rd _) p = _
      rw [AH.set_other prd, AH.set_same]
      unfold Wz; rw [if_pos rfl]; rfl
    · rw [if_neg q]
      show (AH.set _ D.rd _) v.2 = _
      rw [AH.set_other (ne (H1.row v hv) (by simp))]
      exact H1.row v hv
  · unfold HD.renew
    simp only [List.map_map]
    have hnd := H.nodup
    have hin : ∀ v ∈ D.T, v.2 ≠ p := fun v hv z => by have := H.row v hv; rw [z, hp] at this; cases this
    rw [List.Nodup, List.pairwise_map] at hnd ⊢
    have hi2 : D.T.Pairwise fun a b => a.1.n < b.1.n := by unfold Inc HD.S at hi; rw [List.pairwise_map] at hi; exact hi
    refine (hnd.and hi2).imp_of_mem fun {a b} ha hb h => ?_
    simp only [Function.comp_apply]
    by_cases qa : a.1.n = t.1.n <;> by_cases qb : b.1.n = t.1.n
    · have := h.2; omega
    · rw [if_pos qa, if_neg qb]; exact fun z => hin b hb z.symm
    · rw [if_neg qa, if_pos qb]; exact hin a ha
    · rw [if_neg qa, if_neg qb]; exact h.1
/-! ## hueing a row -/
structure Frm (σ σ' : AH) (D D' : HD) : Prop where
  keep : ∀ y o, σ y = some o → ¬ D.foot y → σ' y = some o
  new : ∀ y, D'.foot y → D.foot y ∨ σ y = none
  sz : D'.a = D.a ∧ D'.b = D.b ∧ D'.nx = D.nx
  dom : ∀ y, σ' y = none → σ y = none
theorem sub_at {σ σ' : AH} {b : Addr} {o : AO} (s : Sub σ σ') (h : σ' b = some o) : Sub (σ.set b o) σ' := fun y p q => by
  unfold AH.set at q
  split at q
  · rename_i z; rw [z, h]; exact q
  · exact s y p q
inductive HuedTo (S0 : List Rw) (k l r : Int) (m : Nat) (hue : Int) (other : Option Int) (nums : List Int) (S' : List Rw) : Prop
  | inl (h1 : other = none) (h2 : nums = []) (h3 : hue ∈ Yv S0 false l m) (h4 : hue ∈ Yv S0 true r m) (h5 : S' = afterBoth S0 k hue) (h6 : ((Yv S0 false l m).filter fun h => decide (h ∈ Yv S0 true r m)).head? = some hue) : HuedTo S0 k l r m hue other nums S'
  | inr (h0 : ∀ h ∈ Yv S0 false l m, h ∉ Yv S0 true r m) (o : Int) (s : Bool) (ch : List Rw) (h1 : other = some o) (h2 : nums = ch.map Rw.n) (h3 : hue ∈ Yv S0 (!s) (endS l r (!s)) m) (h4 : o ∈ Yv S0 s (endS l r s) m) (h5 : W0 S0 s (endS l r s) o hue ch) (h6 : PDone S0 s (endS l r s) o hue ch) (h7 : S' = afterWay S0 k hue o nums)
    (h8 : ∀ s' hue' o' ch', hue' ∈ Yv S0 (!s') (endS l r (!s')) m → o' ∈ Yv S0 s' (endS l r s') m → W0 S0 s' (endS l r s') o' hue' ch' → PDone S0 s' (endS l r s') o' hue' ch' → lex3 ((ch'.length : Int), hue', o') ((ch.length : Int), hue, o) = false) : HuedTo S0 k l r m hue other nums S'
theorem open_ne {S0 : List Rw} {l r : Int} {m : Nat} (hd : ∀ h ∈ Yv S0 false l m, h ∉ Yv S0 true r m) {s : Bool} {hue o : Int} (h1 : hue ∈ Yv S0 (!s) (endS l r (!s)) m) (h2 : o ∈ Yv S0 s (endS l r s) m) : o ≠ hue := fun z => by
  subst z
  cases s with
  | false => exact hd _ h2 h1
  | true => exact hd _ h1 h2
theorem HuedTo.hued {S0 S' : List Rw} {k l r : Int} {m : Nat} {hue : Int} {other : Option Int} {nums : List Int} (h : HuedTo S0 k l r m hue other nums S') (hp : We S0) (hi : Inc S0) {x : Rw} (hx : x ∈ S0) (hk : x.n = k) (hn : x.h = none) (hl : x.l = l) (hr : x.r = r) : Hued S0 S' k m := by
  rcases h with ⟨_, _, h1, h2, rfl, _⟩ | ⟨hd, o, s, ch, _, rfl, h1, h2, hP, hD, rfl, _⟩
  · have m1 := mem_openL.1 h1
    have m2 := mem_openL.1 h2
    refine both_hued hp hi hx hk (fun t => ?_) m1.1
    cases t with
    | false => show FreeH S0 false x.l hue; rw [hl]; exact m1.2
    | true => show FreeH S0 true x.r hue; rw [hr]; exact m2.2
  · have m1 := mem_openL.1 h1
    have m2 := mem_openL.1 h2
    have he : ∀ t, x.e t = endS l r t := fun t => by cases t <;> simp [Rw.e, endS, hl, hr]
    refine Way.hued (m := m) ⟨⟨s, x, hx, hk, hn, by rw [he]; exact hP, by rw [he]; exact hD, by rw [he]; exact m2.2, by rw [he]; exact m1.2⟩, open_ne hd h1 h2, m1.1, m2.1⟩ hp hi
noncomputable def othV : Option Int → V
  | none => .none
  | some o => .int o
noncomputable def toldV (k hue : Int) (other : Option Int) (c : Addr) : V := .tup [.int k, .int hue, othV other, .ref c]
inductive SHuedI (C : Addr) (xs : List V) (σ : AH) (Q : V → AH → Prop) : Prop
  | mk (x : Addr) (D : HD) (t : Rw × Addr) (m : Nat) (h0 : xs = [.ref x, .int t.1.n, .int t.1.l, .int t.1.r, .int (m : Nat)]) (h1 : t ∈ D.T) (h2 : Yg σ C x D) (h3 : Inc D.S) (h4 : D.T.length < 64) (h5 : m ≤ 100) (h6 : We (D.S.map (Wz t.1.n none))) (h7 : deg D.S false t.1.l ≤ m) (h8 : deg D.S true t.1.r ≤ m) (h9 : ∀ σ' D' hue other nums c, Yg σ' C x D' → Frm σ σ' D D' → HuedTo (D.S.map (Wz t.1.n none)) t.1.n t.1.l t.1.r m hue other nums D'.S → σ c = none → ¬ D'.foot c → σ' c = some (.list (nums.map V.int)) → Q (toldV t.1.n hue other c) σ') : SHuedI C xs σ Q
noncomputable def sHued (C : Addr) : TF := fun xs σ Q _ => SHuedI C xs σ Q
theorem itemL {σ : AH} {a : Addr} {xs : List V} {k : Int} {x : V} {Q : V → Prop} (h : σ a = some (.list xs)) (e : atV xs k = some x) (q : Q x) : itemV (.ref a) (.int k) σ Q := by
  simp only [itemV, h, e]; exact q
theorem W1 {σ : AH} {xs : List V} {k : Int} {x : V} {Q : V → Prop} (e : atV xs k = some x) (q : Q x) : itemV (.tup xs) (.int k) σ Q := by
  simp only [itemV, e]; exact q
end
section
open PySem PySem.W PyProof.Rows
section
variable {g : Gr} {sc csc : Scope} {r : Nat} {c : Bool} {K : Frag}
end
/-! ## a hall's number and rows grow -/
theorem Yg.dNe {σ : AH} {C x : Addr} {D : HD} (H : Yg σ C x D) : x ≠ D.d ∧ D.rd ≠ D.d ∧ D.sd ≠ D.d ∧ ∀ t ∈ D.T, t.2 ≠ D.d := by
  obtain ⟨ep, er⟩ := H.rows
  obtain ⟨eq, es⟩ := H.sizes
  have ha := H.attrs
  refine ⟨fun z => ?_, fun z => ?_, fun z => ?_, fun t ht z => ?_⟩
  · have := H.inst; rw [z, ha] at this; cases this
  · rw [z, ha] at er; cases er
  · rw [z, ha] at es; cases es
  · have := H.row t ht; rw [z, ha] at this; cases this
theorem Yg.rdNe {σ : AH} {C x : Addr} {D : HD} (H : Yg σ C x D) : x ≠ D.rd ∧ D.d ≠ D.rd ∧ D.sd ≠ D.rd ∧ ∀ t ∈ D.T, t.2 ≠ D.rd := by
  obtain ⟨ep, er⟩ := H.rows
  obtain ⟨eq, es⟩ := H.sizes
  refine ⟨fun z => ?_, fun z => ?_, fun z => ?_, fun t ht z => ?_⟩
  · have := H.inst; rw [z, er] at this; cases this
  · have := H.attrs; rw [z, er] at this; cases this
  · rw [z, er] at es; cases es
  · have := H.row t ht; rw [z, er] at this; cases this
theorem lookup_skip {kvs : List (Str × V)} {a b : Str} {v : V} (h : (b == a) = false) : ((a, v) :: kvs).lookup b = kvs.lookup b := by
  rw [List.lookup_cons, h]
theorem Yg.setNext {σ : AH} {C x : Addr} {D : HD} (H : Yg σ C x D) (h0 : 0 ≤ D.nx) :
    Yg (σ.set D.d (.attrs ((Str.ofString "next_number", .int (D.nx + 1)) :: D.kvs))) C x { D with nx := D.nx + 1, kvs := (Str.ofString "next_number", .int (D.nx + 1)) :: D.kvs } := by
  obtain ⟨n1, n2, n3, n4⟩ := H.dNe
  obtain ⟨ep, er⟩ := H.rows
  obtain ⟨eq, es⟩ := H.sizes
  refine ⟨(AH.set_other n1).trans H.inst, AH.set_same, ?_, ?_, ?_, fun p hp => ?_, ?_, ⟨ep, (AH.set_other n2).trans er⟩, fun t ht => (AH.set_other (n4 t ht)).trans (H.row t ht), H.nodup, ⟨eq, (AH.set_other n3).trans es⟩⟩
  · show List.lookup _ (_ :: _) = _
    rw [lookup_skip (by decide +kernel)]; exact H.aRows
  · show List.lookup _ (_ :: _) = _
    rw [lookup_skip (by decide +kernel)]; exact H.aSizes
  · show List.lookup _ (_ :: _) = _
    rw [List.lookup_cons]; simp
  · rcases List.mem_cons.1 hp with rfl | q
    · exact .inr (.inr rfl)
    · exact H.names p q
  · have := H.few
    show ((Str.ofString "next_number", V.int (D.nx + 1)) :: D.kvs).length ≤ 3 + (D.nx + 1).toNat
    rw [List.length_cons]; omega
noncomputable def HD.add (D : HD) (w : Rw) (p : Addr) : HD := { D with T := D.T ++ [(w, p)] }
theorem HD.add_S {D : HD} {w : Rw} {p : Addr} : (D.add w p).S = D.S ++ [w] := by simp [HD.add, HD.S]
theorem Yg.addRow {σ : AH} {C x : Addr} {D : HD} (H : Yg σ C x D) {w : Rw} (hw : ∀ t ∈ D.T, t.1.n ≠ w.n) {p : Addr} (hp : σ p = none) (ep : Nat) :
    Yg ((σ.set p (.list (rowL w))).set D.rd (.dictI (putD (D.T.map fun t => (t.1.n, V.ref t.2)) w.n (.ref p)) ep)) C x (D.add w p) := by
  have H1 := H.sub (Sub.refl.new (o := .list (rowL w)) hp)
  obtain ⟨n1, n2, n3, n4⟩ := H1.rdNe
  obtain ⟨e2, es⟩ := H1.sizes
  have prd : p ≠ D.rd := fun z => by obtain ⟨_, q⟩ := H.rows; rw [← z, hp] at q; cases q
  refine ⟨(AH.set_other n1).trans H1.inst, (AH.set_other n2).trans H1.attrs, H.aRows, H.aSizes, H.aNext, H.names, H.few, ⟨ep, ?_⟩, fun u hu => ?_, ?_, ⟨e2, (AH.set_other n3).trans es⟩⟩
  · show (AH.set _ D.rd _) D.rd = _
    rw [AH.set_same]
    unfold putD
    rw [if_neg ?_]
    · simp [HD.add]
    · rw [List.any_eq_true]
      rintro ⟨q, hq, z⟩
      obtain ⟨t, ht, rfl⟩ := List.mem_map.1 hq
      exact hw t ht (by simpa using z)
  · show (AH.set _ D.rd _) u.2 = _
    rcases List.mem_append.1 hu with q | q
    · rw [AH.set_other (n4 u q)]; exact H1.row u q
    · rw [List.mem_singleton.1 q, AH.set_other prd, AH.set_same]
  · show ((D.T ++ [(w, p)]).map (·.2)).Nodup
    rw [List.map_append, List.nodup_append]
    refine ⟨H.nodup, by simp, fun a ha b hb z => ?_⟩
    simp at hb; subst hb
    obtain ⟨t, ht, rfl⟩ := List.mem_map.1 ha
    have := H.row t ht; rw [z, hp] at this; cases this
theorem deg_le_length {S : List Rw} {s : Bool} {e : Int} : deg S s e ≤ S.length := List.length_filter_le _ _
theorem cnt_le_length {S : List Rw} {a b : Int} {m : Nat} (h : IsCnt S a b m) : m ≤ S.length := by
  rcases h.got with q | ⟨s, e, _, _, q⟩
  · omega
  · have := deg_le_length (S := S) (s := s) (e := e); omega
/-! ## what the larger ones do -/
inductive SInitI (C : Addr) (xs : List V) (σ : AH) (Q : V → AH → Prop) : Prop
  | mk (x : Addr) (d : Addr) (a : Int) (b : Int) (h0 : xs = [.ref x, .int a, .int b]) (h1 : 1 ≤ a) (h2 : a ≤ 8) (h3 : 1 ≤ b) (h4 : b ≤ 8) (h5 : σ x = some (.inst C d)) (h6 : σ d = some (.attrs [])) (h7 : ∀ σ' D, Yg σ' C x D → D.T = [] → D.a = a → D.b = b → D.nx = 0 → D.d = d → σ D.rd = none → (∀ y o, σ y = some o → y ≠ d → σ' y = some o) → Q .none σ') : SInitI C xs σ Q
noncomputable def sInit (C : Addr) : TF := fun xs σ Q _ => SInitI C xs σ Q
structure Well (D : HD) (m : Nat) : Prop where
  good : Good D.S D.a D.b m
  a8 : 1 ≤ D.a ∧ D.a ≤ 8
  b8 : 1 ≤ D.b ∧ D.b ≤ 8
  nx : 0 ≤ D.nx ∧ D.nx ≤ 1000
  below : ∀ x ∈ D.S, x.n < D.nx
inductive SNeedPairI (C : Addr) (xs : List V) (σ : AH) (Q : V → AH → Prop) : Prop
  | mk (x : Addr) (D : HD) (t : Rw × Addr) (h0 : xs = [.ref x, .int t.1.n]) (h1 : t ∈ D.T) (h2 : Yg σ C x D) (h3 : Q .none σ) : SNeedPairI C xs σ Q
noncomputable def sNeedPair (C : Addr) : TF := fun xs σ Q _ => SNeedPairI C xs σ Q
end
section
open PySem PySem.W PyProof.Rows
theorem eqD_nil {σ : AH} {a b : Addr} {Q : Bool → Prop} (ha : σ a = some (.list [])) (hb : σ b = some (.list [])) (h : Q true) : eqD (.ref a) (.ref b) σ Q :=
  eqD_ints (ns := []) (ms := []) (by simpa using ha) (by simpa using hb) (by simpa using h)
/-! ## the ends as the law keeps them -/
inductive SCellAtI (xs : List V) (σ : AH) (Q : V → AH → Prop) : Prop
  | mk (ns : List Int) (k : Nat) (h0 : xs = [.frz (ns.map V.int), .int k]) (h1 : ∀ c, Q (.int c) σ) : SCellAtI xs σ Q
noncomputable def sCellAt : TF := fun xs σ Q _ => SCellAtI xs σ Q
inductive SMixedI (xs : List V) (σ : AH) (Q : V → AH → Prop) : Prop
  | mk (c : Int) (k : Int) (h0 : xs = [.int c, .int k]) (h1 : 0 ≤ k) (h2 : k ≤ 1000000) (h3 : ∀ n : Int, 0 ≤ n → Q (.int n) σ) : SMixedI xs σ Q
noncomputable def sMixed : TF := fun xs σ Q _ => SMixedI xs σ Q
inductive SSizesByI (xs : List V) (σ : AH) (Q : V → AH → Prop) : Prop
  | mk (c : Int) (h0 : xs = [.int c]) (h1 : ∀ a b k : Int, 1 ≤ a → a ≤ 8 → 1 ≤ b → b ≤ 8 → Q (.tup [.int a, .int b, .int k]) σ) : SSizesByI xs σ Q
noncomputable def sSizesBy : TF := fun xs σ Q _ => SSizesByI xs σ Q
theorem atV_mem {xs : List V} {k : Int} (h0 : 0 ≤ k) (h1 : k < xs.length) : ∃ x, atV xs k = some x ∧ x ∈ xs := by
  have hk : k.toNat < xs.length := by omega
  exact ⟨xs[k.toNat], Xx h0 (by simp [hk]), List.getElem_mem hk⟩
theorem tIfS_k {t : TB} {a b : TS} {ℓ : Loc} {σ : AH} {Q : Fl → Loc → AH → Prop} {E : Addr → Loc → AH → Prop} (h : ∀ K : Bool → AH → Prop, (∀ σ', a ℓ σ' Q E → K true σ') → (∀ σ', b ℓ σ' Q E → K false σ') → t ℓ σ K fun C σ' => E C ℓ σ') : Xa t a b ℓ σ Q E :=
  h _ (fun _ h => h) (fun _ h => h)
end
section
open PySem PySem.W PyProof.Rows
theorem eqD_int {σ : AH} {i j : Int} {Q : Bool → Prop} (h : Q (i == j)) : eqD (.int i) (.int j) σ Q := by
  simp only [eqD]; exact h
end
section
open PySem PySem.W PyProof.Rows
noncomputable def sLawT : TF := fun xs σ Q _ => ∃ ns : List Int, xs = [.frz (ns.map V.int)] ∧ ns.length ≤ 63 ∧ ∀ σ', Q (.bool true) σ'
end
section
open PySem PySem.W PyProof.Rows
/-! ## a hall does the same with the same pairs -/
theorem HuedTo.det {S0 S1 S2 : List Rw} {k l r : Int} {m : Nat} {hue hue' : Int} {other other' : Option Int} {nums nums' : List Int} (hp : We S0) (hi : Inc S0)
    (x : HuedTo S0 k l r m hue other nums S1) (y : HuedTo S0 k l r m hue' other' nums' S2) : S1 = S2 := by
  rcases x with ⟨_, _, x3, x4, rfl, x6⟩ | ⟨x0, o, s, ch, _, rfl, x3, x4, x5, x6, rfl, x8⟩ <;> rcases y with ⟨_, _, y3, y4, rfl, y6⟩ | ⟨y0, o', s', ch', _, rfl, y3, y4, y5, y6, rfl, y8⟩
  · rw [x6] at y6; cases y6; rfl
  · exact absurd x4 (y0 _ x3)
  · exact absurd y4 (x0 _ y3)
  · have e := lex3_eq (x8 s' hue' o' ch' y3 y4 y5 y6) (y8 s hue o ch x3 x4 x5 x6)
    simp only [Prod.mk.injEq] at e
    obtain ⟨_, rfl, rfl⟩ := e
    have hs : s = s' := by
      cases s <;> cases s' <;> first | rfl | exact absurd x3 (x0 _ y3) | exact absurd y3 (x0 _ x3)
    subst hs
    rw [W0.unique hp hi x5 x6 y5 y6]
inductive Stp9 (a b : Int) (S : List Rw) (l r : Int) (S' : List Rw) : Prop
  | mk (m : Nat) (hue : Int) (other : Option Int) (nums : List Int) (h1 : HuedTo (S ++ [⟨((S.length : Nat) : Int), l, r, none⟩]) ((S.length : Nat) : Int) l r m hue other nums S') (h2 : Good S' a b m) (h3 : S'.map sk = S.map sk ++ [(((S.length : Nat) : Int), l, r)]) : Stp9 a b S l r S'
inductive Runs9 (a b : Int) : List (Int × Int) → List Rw → Prop
  | nil : Runs9 a b [] []
  | snoc {ps : List (Int × Int)} {S S' : List Rw} {l r : Int} : Runs9 a b ps S → Stp9 a b S l r S' → Runs9 a b (ps ++ [(l, r)]) S'
theorem Runs9.good {a b : Int} {ps : List (Int × Int)} {S : List Rw} (h : Runs9 a b ps S) : (∃ m, Good S a b m) ∧ S.length = ps.length ∧ ∀ (i : Nat) x, S[i]? = some x → x.n = i ∧ ps[i]? = some (x.l, x.r) := by
  induction h with
  | nil => exact ⟨⟨0, Good.empty⟩, rfl, fun i x e => by cases e⟩
  | @snoc ps S S' l r _ st ih =>
    obtain ⟨_, hl, hg⟩ := ih
    obtain ⟨m, hue, other, nums, h1, h2, h3⟩ := st
    have hl' : S'.length = S.length + 1 := by have := congrArg List.length h3; simpa using this
    refine ⟨⟨m, h2⟩, by rw [hl', hl]; simp, fun i x e => ?_⟩
    have e1 : (S'.map sk)[i]? = some (sk x) := by rw [List.getElem?_map, e]; rfl
    rw [h3, List.getElem?_append] at e1
    split at e1
    · rename_i hi
      rw [List.length_map] at hi
      rw [List.getElem?_map] at e1
      cases e2 : S[i]? with
      | none => rw [e2] at e1; cases e1
      | some y =>
        rw [e2] at e1
        simp only [Option.map_some, Option.some.injEq, sk, Prod.mk.injEq] at e1
        obtain ⟨q1, q2⟩ := hg i y e2
        refine ⟨by omega, ?_⟩
        rw [List.getElem?_append_left (by omega), q2, e1.2.1, e1.2.2]
    · rename_i hi
      rw [List.length_map] at hi e1
      have hi2 : i < S'.length := by
        rcases Nat.lt_or_ge i S'.length with q | q
        · exact q
        · rw [List.getElem?_eq_none q] at e; cases e
      have : i = S.length := by omega
      subst this
      simp only [Nat.sub_self, List.getElem?_cons_zero, Option.some.injEq, sk, Prod.mk.injEq] at e1
      refine ⟨by omega, ?_⟩
      rw [hl, List.getElem?_append_right (Nat.le_refl _)]
      simp [e1.2.1, e1.2.2]
theorem Runs9.under {a b : Int} {ps : List (Int × Int)} {S : List Rw} (h : Runs9 a b ps S) : ∀ y ∈ S, y.n < (S.length : Int) := fun y hy => by
  obtain ⟨i, hi⟩ := List.getElem?_of_mem hy
  have h1 := (h.good.2.2 i y hi).1
  have h2 : i < S.length := by
    rcases Nat.lt_or_ge i S.length with q | q
    · exact q
    · rw [List.getElem?_eq_none q] at hi; cases hi
  omega
theorem Runs9.det {a b : Int} {ps : List (Int × Int)} {S : List Rw} (h : Runs9 a b ps S) : ∀ {S2 : List Rw}, Runs9 a b ps S2 → S = S2 := by
  induction h with
  | nil =>
    intro S2 h2
    generalize e : ([] : List (Int × Int)) = qs at h2
    cases h2 with
    | nil => rfl
    | snoc _ _ => simp at e
  | @snoc ps S S' l r h0 st ih =>
    intro S2 h2
    generalize e : ps ++ [(l, r)] = qs at h2
    cases h2 with
    | nil => simp at e
    | @snoc ps' T T' l' r' k0 st' =>
      obtain ⟨rfl, e2⟩ := List.append_inj' e rfl
      cases e2
      have := ih k0
      subst this
      obtain ⟨m, hue, other, nums, a1, a2, a3⟩ := st
      obtain ⟨m', hue', other', nums', b1, b2, b3⟩ := st'
      obtain ⟨m0, G⟩ := h0.good.1
      have hm : m = m' := (cnt_sk (a3.trans b3.symm) b2.cnt).uniq a2.cnt |>.symm
      subst hm
      obtain ⟨hinc, hprop⟩ := G.comeInc (x := ⟨((S.length : Nat) : Int), l, r, none⟩) h0.under rfl
      exact a1.det hprop hinc b1
noncomputable def hueN (x : Rw) : Int := x.h.getD 0
noncomputable def huesS (S : List Rw) : List Int := S.map hueN
end
section
open PySem PySem.W PyProof.Rows
/-! ## the values of any dict -/
section
variable {prog : Program} {w : World} {A : Around} {E : Value → Shared → Prop} {s : Shared} {d : Addr} {vs : List Value} {ep : Nat}
end
end
section
open PySem PySem.W PyProof.Rows
variable {g : Gr} {sc csc : Scope} {r : Nat} {c : Bool} {K : Frag}
/-! ## dict.get with a default -/
/-! ## dict(dict), int(bool), all -/
noncomputable def tIntB : TF := fun xs σ Q _ => ∃ b, xs = [.bool b] ∧ Q (.int (if b then 1 else 0)) σ
theorem sndF_intB : SndF g r (.type "int") tIntB := .mk fun A s σ xs vs Q E G Fr Rm R hv h => by
  obtain ⟨b, rfl, h⟩ := h
  obtain ⟨v, _, rfl, ha, hr⟩ := Zv hv
  rw [Yr hr, Wk.mp ha]
  exact call_int_bool (post_value R rfl ⟨rfl, rfl, rfl⟩ (Yl.mpr ⟨_, rfl⟩) h)
noncomputable def tAll : TF := fun xs σ Q _ => ∃ (a : Addr) (bs : List Bool), xs = [.ref a] ∧ σ a = some (.list (bs.map V.bool)) ∧ Q (.bool (bs.all id)) σ
theorem sndF_all : SndF g r (.builtin "all") tAll := .mk fun A s σ xs vs Q E G Fr Rm R hv h => by
  obtain ⟨a, bs, rfl, e, h⟩ := h
  obtain ⟨v, _, rfl, ha, hr⟩ := Zv hv
  rw [Yr hr, Yt.mp ha]
  obtain ⟨hf, us, n, ho, hvs⟩ := (R.own a _ e).2
  have hlt : a < s.heap.objs.size := Heap.lt_size ho
  have hl : s.heap.IsList a us := ⟨_, ho, rfl, n, rfl⟩
  have hlen : bs.length = us.size := by have := Yb hvs; simpa using this
  refine call_all_walk (wpAny_pyIter_list hl ?_)
  refine ⟨s.heap.objs.size, [s.heap.objs.size, a], [s.heap.objs.size], us.size, _, _, fun i => (bs[i]?).getD true, rfl, Walks.list (A := A.in1) (Rm.calm rfl) _ a (Nat.ne_of_lt hlt) us, ⟨⟨_, Heap.get?_push_size _ rfl, rfl, rfl⟩, hl.push _⟩, fun i v s' Q' E' hP hQ => ?_, fun h' tk hk => ?_⟩
  · replace hP : us[i]? = some v := hP
    replace hQ : Q' ((bs[i]?).getD true) s' := hQ
    have hi : i < bs.length := by
      rcases Nat.lt_or_ge i bs.length with q | q
      · exact q
      · rw [Array.getElem?_eq_none (by omega)] at hP; cases hP
    obtain ⟨u, hu, hb⟩ := VRs_getA hvs (i := i) (x := .bool bs[i]) (by simp [hi])
    rw [hP] at hu; cases hu
    rw [Wk.mp hb]
    simp only [List.getElem?_eq_getElem hi, Option.getD_some] at hQ
    exact wpAny_truthy_bool hQ
  · have e2 : ((List.range us.size).all fun i => (bs[i]?).getD true) = bs.all id := by
      rw [Bool.eq_iff_iff, List.all_eq_true, List.all_eq_true]
      constructor
      · intro q b hb
        obtain ⟨i, hi, rfl⟩ := List.getElem_of_mem hb
        have := q i (List.mem_range.2 (by omega))
        simpa [List.getElem?_eq_getElem hi] using this
      · intro q i hi
        have hi' : i < bs.length := by have := List.mem_range.1 hi; omega
        simp only [List.getElem?_eq_getElem hi', Option.getD_some]
        exact q _ (List.getElem_mem hi')
    rw [e2]
    refine .keeps (fun b o q => hk b o (fun hm => ?_) (Heap.get?_push_of_some _ q)) ⟨rfl, rfl, rfl⟩ (Wk.mpr rfl) R h
    rw [List.mem_singleton.1 hm, Yw] at q; cases q
/-! ## the keys of a dict are walked through -/
end
section
open PySem PySem.W PyProof.Rows
variable {g : Gr} {sc : Scope} {r : Nat} {c : Bool}
/-! ## which exception it was -/
noncomputable def Zp (f : Addr → Option Bool) (t : TE) : TE := fun ℓ σ Q E => t ℓ σ (fun v σ₁ => ∃ a C b, v = .ref a ∧ σ₁ a = some (.exc C) ∧ f C = some b ∧ Q (.bool b) σ₁) E
theorem sndE_isCF {K : Frag} {f : Addr → Option Bool} {n : String} {cv : Value} {e : Expr} {p p' pos : Pos} {t : TE} (hK : K.In g.b0) (hf : ∀ C b, f C = some b → ExcK K C ∧ kitOne K (.ref C) cv = some b) (hm : (Str.ofString "isinstance", NameKind.globalImplicit) ∈ sc.names) (hb : Xi g "isinstance" (.builtin "isinstance")) (hm' : (Str.ofString n, NameKind.globalImplicit) ∈ sc.names) (hb' : Xi g n cv)
    (h1 : Y5 g sc r c e t) (hs : isStar e = false) :
    Y5 g sc r c (.Call (.Name (Str.ofString "isinstance") p) [e, .Name (Str.ofString n) p'] [] pos) (Zp f t) := .mk fun A env s ℓ σ Q E X h => by
  show wpAny _ A (do callWith pos (← eval (.Name (Str.ofString "isinstance") p) env) [] (backTo pos (starEach [e, .Name (Str.ofString n) p'] env)) (backToKw pos (keywordEach [] env))) _ _ s
  refine wpAny_bind (Y7 X hm hb ?_)
  rw [Yx env hs, Yx (es := []) env rfl]
  refine Xn (.inr (.inl ⟨_, rfl⟩)) rfl ?_
  show wpAny _ A (spliced [(false, eval e env), (false, eval (.Name (Str.ofString n) p') env)]) _ _ s
  refine Calls.spliced_cons (wpAny_mono (h1.run A env s ℓ σ _ E X h) (fun v s₁ p => ?_) fun _ _ p => p)
  obtain ⟨x, σ₁, hv, hR, hx, hs1, a, C, b, rfl, ea, hfb, hq⟩ := p
  refine Calls.spliced_cons (Y7 (X.step hR hx) hm' hb' (Calls.spliced_nil ⟨fun a o e => hR.base a o e, ?_⟩))
  rw [Yt.mp hv]
  obtain ⟨Z, hk⟩ := hf C b hfb
  exact wp_back hx hs1 (isC_ok hK Z hR ea hk hq)
theorem compT_inv {t : Tgt} {inv : AH → Prop} {telt : TE} {ℓ : Loc} {Q : List V → AH → Prop} {E : Addr → AH → Prop} (I : List V → List V → AH → Prop) (h0 : ∀ acc σ, I [] acc σ → inv σ ∧ Q acc σ)
    (h1 : ∀ x xs acc σ (K : V → AH → Prop), I (x :: xs) acc σ → (∀ v σ₂, I xs (acc ++ [v]) σ₂ → K v σ₂) → inv σ ∧ Zj t x ℓ.bare σ fun ℓ₁ => telt ℓ₁ σ K E) :
    ∀ (xs acc : List V) (σ : AH), I xs acc σ → compT t inv (Zf true) telt ℓ xs acc σ Q E
  | [], acc, σ, h => h0 acc σ h
  | x :: xs, acc, σ, h => h1 x xs acc σ _ h fun v σ₂ h2 => compT_inv I h0 h1 xs (acc ++ [v]) σ₂ h2
/-! ## is it a number -/
noncomputable def nrV : V → Option Bool
  | .int _ => some true
  | .bool _ => some false
  | .none => some false
  | .str _ => some false
  | _ => none
noncomputable def Z2 : TF := fun xs σ Q _ => ∃ v b, xs = [v] ∧ nrV v = some b ∧ Q (.bool b) σ
end
section
open PySem PySem.W PyProof.Rows
/-! ## what the functions of row 09 do -/
noncomputable def okE (n : Int) : V → Bool
  | .int e => decide (0 ≤ e) && decide (e < n)
  | _ => false
inductive SNeedEnd9 (C CB : Addr) (xs : List V) (σ : AH) (Q : V → AH → Prop) (E : Addr → AH → Prop) : Prop
  | mk (x : Addr) (D : HD) (s : Bool) (v : V) (b : Bool) (h0 : xs = [.ref x, .str (sideS s), v]) (h1 : Yg σ C x D) (hn : nrV v = some b) (hq : okE (szOf D.a D.b s) v = true → Q .none σ) (he : okE (szOf D.a D.b s) v = false → E CB σ) : SNeedEnd9 C CB xs σ Q E
noncomputable def sNeedEnd9 (C CB : Addr) : TF := SNeedEnd9 C CB
inductive SCome9 (C CB CT : Addr) (xs : List V) (σ : AH) (Q : V → AH → Prop) (E : Addr → AH → Prop) : Prop
  | mk (x : Addr) (D : HD) (u v : V) (m : Nat) (b1 b2 : Bool) (h0 : xs = [.ref x, u, v]) (h1 : Yg σ C x D) (h2 : Well D m) (h3 : D.nx < 1000) (h4 : D.T.length ≤ 40) (n1 : nrV u = some b1) (n2 : nrV v = some b2)
    (he : (okE D.a u && okE D.b v) = false → E CB σ) (ht : (okE D.a u && okE D.b v) = true → D.T.length = 40 → E CT σ)
    (hq : ∀ l r, u = .int l → v = .int r → (0 ≤ l ∧ l < D.a) → (0 ≤ r ∧ r < D.b) → D.T.length < 40 → ∀ σ' D' m' hue other nums c, Yg σ' C x D' → Well D' m' → D'.nx = D.nx + 1 → D'.a = D.a → D'.b = D.b → (∀ y o, σ y = some o → ¬ D.foot y → σ' y = some o) → (∀ y, D'.foot y → D.foot y ∨ σ y = none) → (∀ y, σ' y = none → σ y = none) → D'.S.map sk = D.S.map sk ++ [(D.nx, l, r)] → HuedTo (D.S ++ [⟨D.nx, l, r, none⟩]) D.nx l r m' hue other nums D'.S → σ c = none → ¬ D'.foot c → σ' c = some (.list (nums.map V.int)) → Q (toldV D.nx hue other c) σ') : SCome9 C CB CT xs σ Q E
noncomputable def sCome9 (C CB CT : Addr) : TF := SCome9 C CB CT
inductive SHueOfI (C : Addr) (xs : List V) (σ : AH) (Q : V → AH → Prop) : Prop
  | mk (x : Addr) (D : HD) (t : Rw × Addr) (h0 : xs = [.ref x, .int t.1.n]) (h1 : t ∈ D.T) (h2 : Yg σ C x D) (h3 : Inc D.S) (h4 : Q (hueV t.1.h) σ) : SHueOfI C xs σ Q
noncomputable def sHueOf (C : Addr) : TF := fun xs σ Q _ => SHueOfI C xs σ Q
noncomputable def prV (q : V × V) : V := .tup [q.1, q.2]
noncomputable def prI (p : Int × Int) : V × V := (.int p.1, .int p.2)
inductive AllIn (a b : Int) (ps : List (Int × Int)) : Prop
  | mk (h : ∀ p ∈ ps, (0 ≤ p.1 ∧ p.1 < a) ∧ (0 ≤ p.2 ∧ p.2 < b)) : AllIn a b ps
inductive Told9 (CB CT : Addr) (a b : Int) (ps : List (Int × Int)) (rest : List (V × V)) (σ : AH) (Q : V → AH → Prop) (E : Addr → AH → Prop) : Prop
  | mk (ha : 1 ≤ a ∧ a ≤ 8) (hb : 1 ≤ b ∧ b ≤ 8) (h40 : ps.length ≤ 40) (hr : rest.length ≤ 100) (hin : AllIn a b ps)
    (hq : rest = [] → ∀ S y, Runs9 a b ps S → σ y = none → Q (.ref y) (σ.set y (.list ((huesS S).map V.int))))
    (he : ∀ q tl, rest = q :: tl → ∃ b1 b2, nrV q.1 = some b1 ∧ nrV q.2 = some b2 ∧ ((okE a q.1 && okE b q.2) = false → E CB σ) ∧ ((okE a q.1 && okE b q.2) = true → ps.length = 40 ∧ E CT σ)) : Told9 CB CT a b ps rest σ Q E
inductive SHued9 (CB CT : Addr) (xs : List V) (σ : AH) (Q : V → AH → Prop) (E : Addr → AH → Prop) : Prop
  | mk (a b : Int) (pa : Addr) (ps : List (Int × Int)) (rest : List (V × V)) (h0 : xs = [.int a, .int b, .ref pa]) (hpa : σ pa = some (.list ((ps.map prI ++ rest).map prV))) (h : Told9 CB CT a b ps rest σ Q E) : SHued9 CB CT xs σ Q E
noncomputable def sHued9 (CB CT : Addr) : TF := SHued9 CB CT
inductive STold9 (CB CT : Addr) (xs : List V) (σ : AH) (Q : V → AH → Prop) : Prop
  | mk (a b k : Int) (pa : Addr) (ps : List (Int × Int)) (rest : List (V × V)) (h0 : xs = [.tup [.int a, .int b, .int k], .ref pa]) (hpa : σ pa = some (.list ((ps.map prI ++ rest).map prV))) (h : Told9 CB CT a b ps rest σ Q fun C σ' => σ' = σ ∧ Q (.tup [.bool (decide (C = CB)), .bool (decide (C = CT))]) σ) : STold9 CB CT xs σ Q
noncomputable def sTold9 (CB CT : Addr) : TF := fun xs σ Q _ => STold9 CB CT xs σ Q
inductive SHall9 (xs : List V) (σ : AH) (Q : V → AH → Prop) : Prop
  | mk (a b k : Int) (pa : Addr) (ps : List (Int × Int)) (h0 : xs = [.tup [.int a, .int b, .int k], .ref pa]) (ha : 1 ≤ a ∧ a ≤ 8) (hb : 1 ≤ b ∧ b ≤ 8) (h40 : ps.length ≤ 40) (hin : AllIn a b ps) (hpa : σ pa = some (.list ((ps.map prI).map prV)))
    (hq : ∀ S y, Runs9 a b ps S → σ y = none → Q (.ref y) (σ.set y (.list ((huesS S).map V.int)))) : SHall9 xs σ Q
noncomputable def sHall9 : TF := fun xs σ Q _ => SHall9 xs σ Q
inductive SPairs9 (xs : List V) (σ : AH) (Q : V → AH → Prop) : Prop
  | mk (ns : List Int) (a b k : Int) (h0 : xs = [.frz (ns.map V.int), .tup [.int a, .int b, .int k]]) (ha : 1 ≤ a ∧ a ≤ 8) (hb : 1 ≤ b ∧ b ≤ 8) (hn : ns.length ≤ 63)
    (hq : ∀ ps y, ps.length ≤ 43 → AllIn a b ps → σ y = none → Q (.ref y) (σ.set y (.list ((ps.map prI).map prV)))) : SPairs9 xs σ Q
noncomputable def sPairs9 : TF := fun xs σ Q _ => SPairs9 xs σ Q
noncomputable def cntV (tl : Rw → List V) (x : Rw) : V := .tup (.int x.l :: .int x.r :: tl x)
inductive SEnds2I (xs : List V) (σ : AH) (Q : V → AH → Prop) : Prop
  | mk (c a b k : Int) (ed : Addr) (kvs : List (Int × V)) (L : List Rw) (tl : Rw → List V) (ep : Nat) (h0 : xs = [.int c, .tup [.int a, .int b, .int k], .ref ed]) (h1 : σ ed = some (.dictI kvs ep)) (h2 : kvs.map (·.2) = L.map (cntV tl)) (h3 : 1 ≤ a) (h4 : a ≤ 8) (h5 : 1 ≤ b) (h6 : b ≤ 8) (h7 : ∀ l r, 0 ≤ l → l < a → 0 ≤ r → r < b → Q (.tup [.int l, .int r]) σ) : SEnds2I xs σ Q
noncomputable def sEnds2 : TF := fun xs σ Q _ => SEnds2I xs σ Q
noncomputable def Wt (x : Rw) : List Int := [x.l, x.r, hueN x]
inductive SCountOf (xs : List V) (σ : AH) (Q : V → AH → Prop) : Prop
  | mk (y : Addr) (S : List Rw) (a b : Int) (m : Nat) (h0 : xs = [.ref y]) (h1 : σ y = some (.list ((S.map Wt).map rowV))) (h2 : S.length ≤ 100) (h3 : IsCnt S a b m) (h4 : InR S a b) (hq : Q (.int m) σ) : SCountOf xs σ Q
noncomputable def sCountOf : TF := fun xs σ Q _ => SCountOf xs σ Q
inductive SIsGood (xs : List V) (σ : AH) (Q : V → AH → Prop) : Prop
  | mk (y : Addr) (S : List Rw) (a b : Int) (m : Nat) (h0 : xs = [.ref y]) (h1 : σ y = some (.list ((S.map Wt).map rowV))) (h2 : S.length ≤ 100) (h3 : Good S a b m) (hq : Q (.bool true) σ) : SIsGood xs σ Q
noncomputable def sIsGood : TF := fun xs σ Q _ => SIsGood xs σ Q
theorem Good.apart {S d1 d2 : List Rw} {a b : Int} {m : Nat} (G : Good S a b m) {x y : Rw} (h : S = d1 ++ x :: d2) (hy : y ∈ d1) : hueN y = hueN x → ¬ (y.l = x.l ∨ y.r = x.r) := by
  intro e q
  have hxS : x ∈ S := by rw [h]; simp
  have hyS : y ∈ S := by rw [h]; simp [hy]
  obtain ⟨h1, e1, _⟩ := G.hues x hxS
  obtain ⟨h2, e2, _⟩ := G.hues y hyS
  have eh : y.h = x.h := by unfold hueN at e; rw [e1, e2] at e; simp at e; rw [e1, e2, e]
  have hn : y.n = x.n := by
    rcases q with q | q
    · exact G.proper y hyS x hxS false q eh (by rw [e2]; simp)
    · exact G.proper y hyS x hxS true q eh (by rw [e2]; simp)
  have hi := G.inc
  rw [h] at hi
  have := (List.pairwise_append.1 hi).2.2 y hy x (by simp)
  omega
theorem hueN_in {S : List Rw} {a b : Int} {m : Nat} (G : Good S a b m) {x : Rw} (hx : x ∈ S) : 0 ≤ hueN x ∧ hueN x < m := by
  obtain ⟨h, e, h1, h2⟩ := G.hues x hx
  unfold hueN; rw [e]; exact ⟨h1, h2⟩
theorem hues_all {S : List Rw} {a b : Int} {m : Nat} (G : Good S a b m) (k : Int) : k ∈ huesS S ↔ k ∈ Wx m := by
  rw [rngI_mem]
  unfold huesS
  rw [List.mem_map]
  constructor
  · rintro ⟨x, hx, rfl⟩; exact hueN_in G hx
  · rintro ⟨h0, h1⟩
    obtain ⟨x, hx⟩ := List.exists_mem_of_ne_nil _ (class_some G h0 h1)
    have := List.mem_filter.1 hx
    refine ⟨x, this.1, ?_⟩
    have e : x.h = some k := by simpa using this.2
    unfold hueN; rw [e]; rfl
theorem rng_sorted (m : Nat) : (Wx m).Pairwise (· < ·) := by
  unfold Wx
  rw [List.pairwise_map]
  exact List.pairwise_lt_range.imp fun h => by simpa using h
theorem same_sorted : ∀ {xs ys : List Int}, xs.Pairwise (· < ·) → ys.Pairwise (· < ·) → (∀ k, k ∈ xs ↔ k ∈ ys) → xs = ys
  | [], [], _, _, _ => rfl
  | [], y :: ys, _, _, h => by have := (h y).2 (by simp); cases this
  | x :: xs, [], _, _, h => by have := (h x).1 (by simp); cases this
  | x :: xs, y :: ys, hx, hy, h => by
    rw [List.pairwise_cons] at hx hy
    have e : x = y := by
      have h1 := (h x).1 (by simp)
      have h2 := (h y).2 (by simp)
      rcases List.mem_cons.1 h1 with q | q
      · exact q
      · rcases List.mem_cons.1 h2 with w | w
        · exact w.symm
        · have := hy.1 x q; have := hx.1 y w; omega
    subst e
    rw [same_sorted hx.2 hy.2 fun k => ?_]
    constructor
    · intro hk
      rcases List.mem_cons.1 ((h k).1 (by simp [hk])) with q | q
      · have := hx.1 k hk; omega
      · exact q
    · intro hk
      rcases List.mem_cons.1 ((h k).2 (by simp [hk])) with q | q
      · have := hy.1 k hk; omega
      · exact q
theorem Sub.both {σ σ' : AH} {b : Addr} {o : AO} (x : Sub σ σ') : Sub (σ.set b o) (σ'.set b o) := fun a p e => by
  unfold AH.set at e ⊢
  split at e
  · rename_i h; rw [if_pos h]; exact e
  · rename_i h; rw [if_neg h]; exact x a p e
theorem okE_int {n : Int} {v : V} (h : okE n v = true) : ∃ e, v = .int e ∧ (0 ≤ e ∧ e < n) := by
  cases v <;> simp [okE] at h
  exact ⟨_, rfl, h⟩
end
section
open PySem PySem.W PyProof.Rows
theorem Loc.get_ne {ℓ : Loc} {n m : String} {v : V} (h : ¬ m = n) : (ℓ.set n v) m = ℓ m := by rw [Loc.set_at, if_neg h]
structure Run9 (C x : Addr) (σ0 σ : AH) (a b : Int) (dn : List (Int × Int)) (D : HD) (m : Nat) : Prop where
  hall : Yg σ C x D
  well : Well D m
  ea : D.a = a
  eb : D.b = b
  nx : D.nx = (dn.length : Nat)
  len : D.T.length = dn.length
  runs : Runs9 a b dn D.S
  sub : Sub σ0 σ
  new : ∀ y, D.foot y → σ0 y = none
theorem Run9.start {C x d : Addr} {σ0 σ : AH} {a b : Int} {D : HD} (hx : σ0 x = none) (hd : σ0 d = none) (hxd : x ≠ d) (ha : 1 ≤ a ∧ a ≤ 8) (hb : 1 ≤ b ∧ b ≤ 8) (H : Yg σ C x D) (hT : D.T = []) (hDa : D.a = a) (hDb : D.b = b) (hDn : D.nx = 0) (hDd : D.d = d) (hrd : ((σ0.set d (.attrs [])).set x (.inst C d)) D.rd = none)
    (kp : ∀ y o, ((σ0.set d (.attrs [])).set x (.inst C d)) y = some o → y ≠ d → σ y = some o) : Run9 C x σ0 σ a b [] D 0 := by
  have hS0 : D.S = [] := by unfold HD.S; rw [hT]; rfl
  have old : ∀ y o, σ0 y = some o → ((σ0.set d (.attrs [])).set x (.inst C d)) y = some o ∧ y ≠ d := fun y o e => by
    have y1 : y ≠ x := fun z => by rw [z, hx] at e; cases e
    have y2 : y ≠ d := fun z => by rw [z, hd] at e; cases e
    exact ⟨by rw [AH.set_other y1, AH.set_other y2]; exact e, y2⟩
  refine ⟨H, ⟨by rw [hS0]; exact Good.empty, by rw [hDa]; exact ha, by rw [hDb]; exact hb, by rw [hDn]; decide, fun y hy => by rw [hS0] at hy; cases hy⟩, hDa, hDb, hDn, by rw [hT]; rfl, by rw [hS0]; exact .nil, fun y o e => kp y o (old y o e).1 (old y o e).2, fun y hy => ?_⟩
  cases e : σ0 y with
  | none => rfl
  | some o =>
    exfalso
    obtain ⟨o1, o2⟩ := old y o e
    rcases hy with q | q | q
    · exact o2 (q.trans hDd)
    · rw [← q, o1] at hrd; cases hrd
    · rw [hT] at q; cases q
theorem Run9.next {C x : Addr} {σ0 σ σ' : AH} {a b l r : Int} {dn : List (Int × Int)} {D D' : HD} {m m' : Nat} {hue : Int} {other : Option Int} {nums : List Int} (R : Run9 C x σ0 σ a b dn D m) (H' : Yg σ' C x D') (W' : Well D' m') (hn' : D'.nx = D.nx + 1) (ha' : D'.a = D.a) (hb' : D'.b = D.b) (kp : ∀ y o, σ y = some o → ¬ D.foot y → σ' y = some o) (nw : ∀ y, D'.foot y → D.foot y ∨ σ y = none) (hsk : D'.S.map sk = D.S.map sk ++ [(D.nx, l, r)])
    (hH : HuedTo (D.S ++ [⟨D.nx, l, r, none⟩]) D.nx l r m' hue other nums D'.S) : Run9 C x σ0 σ' a b (dn ++ [(l, r)]) D' m' := by
  have hSl : ((D.S.length : Nat) : Int) = D.nx := by rw [R.nx, ← R.len]; simp [HD.S]
  have hT' : D'.T.length = D.T.length + 1 := by have := congrArg List.length hsk; simpa [HD.S] using this
  have hg := W'.good
  rw [ha', hb', R.ea, R.eb] at hg
  refine ⟨H', W', ha'.trans R.ea, hb'.trans R.eb, ?_, ?_, .snoc R.runs ⟨m', hue, other, nums, ?_, hg, ?_⟩, fun y o e => kp y o (R.sub y o e) fun q => ?_, fun y q => ?_⟩
  · rw [hn', R.nx]; simp
  · rw [hT', R.len]; simp
  · rw [hSl]; exact hH
  · rw [hSl]; exact hsk
  · rw [R.new y q] at e; cases e
  · rcases nw y q with w | w
    · exact R.new y w
    · exact R.sub.none w
theorem Run9.nums {C x : Addr} {σ0 σ : AH} {a b : Int} {dn : List (Int × Int)} {D : HD} {m : Nat} (R : Run9 C x σ0 σ a b dn D m) : (Wx dn.length).map V.int = D.T.map fun t => V.int t.1.n := by
  apply List.ext_getElem?
  intro i
  unfold Wx
  rw [List.map_map, List.getElem?_map, List.getElem?_map]
  rcases Nat.lt_or_ge i dn.length with q | q
  · have hi : i < D.T.length := by rw [R.len]; exact q
    rw [List.getElem?_range q, List.getElem?_eq_getElem hi]
    have e : D.S[i]? = some (D.T[i]).1 := by unfold HD.S; rw [List.getElem?_map, List.getElem?_eq_getElem hi]; rfl
    have := (R.runs.good.2.2 i _ e).1
    simp [this]
  · rw [List.getElem?_eq_none (by simpa using q), List.getElem?_eq_none (by rw [R.len]; exact q)]; rfl
theorem Run9.hues {C x : Addr} {σ0 σ : AH} {a b : Int} {dn : List (Int × Int)} {D : HD} {m : Nat} (R : Run9 C x σ0 σ a b dn D m) : ∀ t ∈ D.T, hueV t.1.h = V.int (hueN t.1) := fun t ht => by
  obtain ⟨h, e, _⟩ := R.well.good.hues t.1 (List.mem_map.2 ⟨t, ht, rfl⟩)
  unfold hueN; rw [e]; rfl
theorem huesS_T (D : HD) : (D.T.map fun t => V.int (hueN t.1)) = (huesS D.S).map V.int := by unfold huesS HD.S; simp [Function.comp_def]
theorem rng_snoc (n : Nat) : Wx (n + 1) = Wx n ++ [(n : Int)] := by unfold Wx; rw [List.range_succ, List.map_append]; rfl
end
section
open PySem PySem.W PyProof.Rows
/-! the part of the heap at the law's call that the walk reads: functions by the row's own statements -/
noncomputable def top (i : Nat) : Stmt := (PySem.Challenge.pw_uf040033_09.main.body[i]?).getD (.Pass ⟨0, 0, 0, 0⟩)
noncomputable def inCls : Stmt → Nat → Stmt
  | .ClassDef _ _ _ b _ _ _ _ _ _ _, i => (b[i]?).getD (.Pass ⟨0, 0, 0, 0⟩)
  | s, _ => s
noncomputable def fnO (s : Stmt) (q : String) (m : Value) (c : Nat) : Obj := match s with
  | .FunctionDef n as b _ _ _ sc _ _ _ => { cls := .type "function", data := .func { name := n, qualname := Str.ofString q, params := as, body := .stmts b, scope := sc, globals := 3, closure := [], defaults := .none, kwdefaults := .none, pyModule := m, code := .ref c } }
  | _ => { cls := .none, data := .dict #[] 0 }
noncomputable def ent (P : Params) (n : String) (t : Nat) (v : Value) : DictEntry := ⟨PyData.keyHash P (Str.ofString n), .str (Str.ofString n) t, v⟩
noncomputable def KK (P : Params) : Frag :=
  [(2, { cls := Value.none, data := Data.dict #[] }),
   (3, { cls := Value.type "dict", data := Data.dict #[ent P "__name__" 165 (Value.str (Str.ofString "law_uf040033_09") 599), ent P "__doc__" 166 (Value.none), ent P "__package__" 167 (Value.none), ent P "__loader__" 168 (Value.builtin "__main__.__loader__#opaque"), ent P "__spec__" 169 (Value.none), ent P "__annotations__" 170 (Value.ref 6), ent P "__builtins__" 171 (Value.ref 4), ent P "__file__" 173 (Value.str (Str.ofString "/claim/cut.py") 172), ent P "__cached__" 174 (Value.none), ent P "_wall" 193 (Value.ref 21), ent P "PairError" 213 (Value.ref 31), ent P "BadCount" 229 (Value.ref 44), ent P "BadSide" 245 (Value.ref 56), ent P "BadEnd" 261 (Value.ref 68), ent P "TooMany" 277 (Value.ref 80), ent P "NoPair" 293 (Value.ref 92), ent P "BadHue" 309 (Value.ref 104), ent P "NotFree" 325 (Value.ref 116), ent P "MOST_ENDS" 329 (Value.int 8 328), ent P "MOST_PAIRS" 331 (Value.int 40 330), ent P "LEFT" 333 (Value.str (Str.ofString "left") 332), ent P "RIGHT" 335 (Value.str (Str.ofString "right") 334), ent P "is_number" 342 (Value.ref 125), ent P "other_side" 349 (Value.ref 132), ent P "Hall" 571 (Value.ref 286), ent P "hued" 579 (Value.ref 295), ent P "count_of" 587 (Value.ref 300), ent P "is_good" 598 (Value.ref 307), ent P "_law_cell_at" 608 (Value.ref 314), ent P "_law_mixed" 616 (Value.ref 321), ent P "_law_whole" 623 (Value.ref 328), ent P "_law_sizes_by" 631 (Value.ref 335), ent P "_law_ends" 637 (Value.ref 340), ent P "_law_pairs" 649 (Value.ref 347), ent P "_law_told" 658 (Value.ref 354), ent P "_law_hall" 664 (Value.ref 359), ent P "law" 670 (Value.ref 364)] 37 }),
   (30, { cls := Value.type "dict", data := Data.dict #[ent P "__module__" 203 (Value.str (Str.ofString "pairhues.errors") 194), ent P "__firstlineno__" 207 (Value.int 5 206), ent P "__static_attributes__" 208 (Value.ref 29), ent P "__weakref__" 210 (Value.ref 32), ent P "__doc__" 211 (Value.none)] 3 }),
   (31, { cls := Value.type "type", data := Data.cls { name := Str.ofString "PairError", bases := [Value.type "ValueError"], mro := [Value.ref 31, Value.type "ValueError", Value.type "Exception", Value.type "BaseException", Value.type "object"], ns := 30, qualname := Str.ofString "PairError", subclasses := [Value.ref 44, Value.ref 56, Value.ref 68, Value.ref 80, Value.ref 92, Value.ref 104, Value.ref 116] }, slots := #[some (Value.ref 22), none, some (Value.str (Str.ofString "PairError") 196), some (Value.str (Str.ofString "PairError") 204), some (Value.builtin "ValueError.__new__"), some (Value.bool true)] }),
   (67, { cls := Value.type "dict", data := Data.dict #[ent P "__module__" 253 (Value.str (Str.ofString "pairhues.errors") 194), ent P "__firstlineno__" 257 (Value.int 11 256), ent P "__static_attributes__" 258 (Value.ref 66), ent P "__doc__" 259 (Value.none)] 2 }),
   (68, { cls := Value.type "type", data := Data.cls { name := Str.ofString "BadEnd", bases := [Value.ref 31], mro := [Value.ref 68, Value.ref 31, Value.type "ValueError", Value.type "Exception", Value.type "BaseException", Value.type "object"], ns := 67, qualname := Str.ofString "BadEnd" }, slots := #[some (Value.ref 59), none, some (Value.str (Str.ofString "BadEnd") 246), some (Value.str (Str.ofString "BadEnd") 254), some (Value.builtin "ValueError.__new__"), some (Value.bool true)] }),
   (79, { cls := Value.type "dict", data := Data.dict #[ent P "__module__" 269 (Value.str (Str.ofString "pairhues.errors") 194), ent P "__firstlineno__" 273 (Value.int 13 272), ent P "__static_attributes__" 274 (Value.ref 78), ent P "__doc__" 275 (Value.none)] 2 }),
   (80, { cls := Value.type "type", data := Data.cls { name := Str.ofString "TooMany", bases := [Value.ref 31], mro := [Value.ref 80, Value.ref 31, Value.type "ValueError", Value.type "Exception", Value.type "BaseException", Value.type "object"], ns := 79, qualname := Str.ofString "TooMany" }, slots := #[some (Value.ref 71), none, some (Value.str (Str.ofString "TooMany") 262), some (Value.str (Str.ofString "TooMany") 270), some (Value.builtin "ValueError.__new__"), some (Value.bool true)] }),
   (124, { cls := Value.type "code", data := Data.fields #[Value.str (Str.ofString "is_number") 336, Value.str (Str.ofString "is_number") 337, Value.str (Str.ofString "/claim/cut.py") 338, Value.int 26 0, Value.int 1 0, Value.int 0 0, Value.int 0 0, Value.int 3 0, Value.ref 119, Value.bool true, Value.int 181 0, Value.ref 120, Value.none, Value.ref 121, Value.ref 122, Value.ref 123, Value.int 340 0, Value.int 26 0, Value.str (Str.ofString "/claim/cut.py") 341] }),
   (125, fnO (top 15) "is_number" (Value.str (Str.ofString "pairhues.halls") 326) 124),
   (131, { cls := Value.type "code", data := Data.fields #[Value.str (Str.ofString "other_side") 343, Value.str (Str.ofString "other_side") 344, Value.str (Str.ofString "/claim/cut.py") 345, Value.int 28 0, Value.int 1 0, Value.int 0 0, Value.int 0 0, Value.int 3 0, Value.ref 126, Value.bool true, Value.int 181 0, Value.ref 127, Value.none, Value.ref 128, Value.ref 129, Value.ref 130, Value.int 347 0, Value.int 28 0, Value.str (Str.ofString "/claim/cut.py") 348] }),
   (132, fnO (top 16) "other_side" (Value.str (Str.ofString "pairhues.halls") 326) 131),
   (145, { cls := Value.type "code", data := Data.fields #[Value.str (Str.ofString "__init__") 362, Value.str (Str.ofString "Hall.__init__") 363, Value.str (Str.ofString "/claim/cut.py") 364, Value.int 34 0, Value.int 3 0, Value.int 0 0, Value.int 0 0, Value.int 3 0, Value.ref 140, Value.bool true, Value.int 181 0, Value.ref 141, Value.none, Value.ref 142, Value.ref 143, Value.ref 144, Value.int 369 0, Value.int 34 0, Value.str (Str.ofString "/claim/cut.py") 370] }),
   (146, fnO (inCls (top 17) 0) "Hall.__init__" (Value.str (Str.ofString "pairhues.halls") 326) 145),
   (152, { cls := Value.type "code", data := Data.fields #[Value.str (Str.ofString "need_end") 372, Value.str (Str.ofString "Hall.need_end") 373, Value.str (Str.ofString "/claim/cut.py") 374, Value.int 42 0, Value.int 3 0, Value.int 0 0, Value.int 0 0, Value.int 3 0, Value.ref 147, Value.bool true, Value.int 181 0, Value.ref 148, Value.none, Value.ref 149, Value.ref 150, Value.ref 151, Value.int 378 0, Value.int 42 0, Value.str (Str.ofString "/claim/cut.py") 379] }),
   (153, fnO (inCls (top 17) 1) "Hall.need_end" (Value.str (Str.ofString "pairhues.halls") 326) 152),
   (159, { cls := Value.type "code", data := Data.fields #[Value.str (Str.ofString "need_place") 381, Value.str (Str.ofString "Hall.need_place") 382, Value.str (Str.ofString "/claim/cut.py") 383, Value.int 46 0, Value.int 3 0, Value.int 0 0, Value.int 0 0, Value.int 3 0, Value.ref 154, Value.bool true, Value.int 181 0, Value.ref 155, Value.none, Value.ref 156, Value.ref 157, Value.ref 158, Value.int 387 0, Value.int 46 0, Value.str (Str.ofString "/claim/cut.py") 388] }),
   (160, fnO (inCls (top 17) 2) "Hall.need_place" (Value.str (Str.ofString "pairhues.halls") 326) 159),
   (166, { cls := Value.type "code", data := Data.fields #[Value.str (Str.ofString "end_of") 390, Value.str (Str.ofString "Hall.end_of") 391, Value.str (Str.ofString "/claim/cut.py") 392, Value.int 51 0, Value.int 3 0, Value.int 0 0, Value.int 0 0, Value.int 3 0, Value.ref 161, Value.bool true, Value.int 181 0, Value.ref 162, Value.none, Value.ref 163, Value.ref 164, Value.ref 165, Value.int 396 0, Value.int 51 0, Value.str (Str.ofString "/claim/cut.py") 397] }),
   (167, fnO (inCls (top 17) 3) "Hall.end_of" (Value.str (Str.ofString "pairhues.halls") 326) 166),
   (171, { cls := Value.type "code", data := Data.fields #[Value.str (Str.ofString "met") 399, Value.str (Str.ofString "Hall.met") 400, Value.str (Str.ofString "/claim/cut.py") 401, Value.int 56 0, Value.int 3 0, Value.int 0 0, Value.int 0 0, Value.int 3 0, Value.ref 168, Value.bool true, Value.int 181 0, Value.ref 169, Value.none, Value.none, Value.none, Value.ref 170, Value.int 402 0, Value.int 56 0, Value.str (Str.ofString "/claim/cut.py") 403] }),
   (172, fnO (inCls (top 17) 4) "Hall.met" (Value.str (Str.ofString "pairhues.halls") 326) 171),
   (176, { cls := Value.type "code", data := Data.fields #[Value.str (Str.ofString "count") 405, Value.str (Str.ofString "Hall.count") 406, Value.str (Str.ofString "/claim/cut.py") 407, Value.int 59 0, Value.int 1 0, Value.int 0 0, Value.int 0 0, Value.int 3 0, Value.ref 173, Value.bool true, Value.int 181 0, Value.ref 174, Value.none, Value.none, Value.none, Value.ref 175, Value.int 408 0, Value.int 59 0, Value.str (Str.ofString "/claim/cut.py") 409] }),
   (177, fnO (inCls (top 17) 5) "Hall.count" (Value.str (Str.ofString "pairhues.halls") 326) 176),
   (181, { cls := Value.type "code", data := Data.fields #[Value.str (Str.ofString "open_hues") 411, Value.str (Str.ofString "Hall.open_hues") 412, Value.str (Str.ofString "/claim/cut.py") 413, Value.int 65 0, Value.int 4 0, Value.int 0 0, Value.int 0 0, Value.int 3 0, Value.ref 178, Value.bool true, Value.int 181 0, Value.ref 179, Value.none, Value.none, Value.none, Value.ref 180, Value.int 414 0, Value.int 65 0, Value.str (Str.ofString "/claim/cut.py") 415] }),
   (182, fnO (inCls (top 17) 6) "Hall.open_hues" (Value.str (Str.ofString "pairhues.halls") 326) 181),
   (188, { cls := Value.type "code", data := Data.fields #[Value.str (Str.ofString "with_hue") 417, Value.str (Str.ofString "Hall.with_hue") 418, Value.str (Str.ofString "/claim/cut.py") 419, Value.int 69 0, Value.int 4 0, Value.int 0 0, Value.int 0 0, Value.int 3 0, Value.ref 183, Value.bool true, Value.int 181 0, Value.ref 184, Value.none, Value.ref 185, Value.ref 186, Value.ref 187, Value.int 425 0, Value.int 69 0, Value.str (Str.ofString "/claim/cut.py") 426] }),
   (189, fnO (inCls (top 17) 7) "Hall.with_hue" (Value.str (Str.ofString "pairhues.halls") 326) 188),
   (195, { cls := Value.type "code", data := Data.fields #[Value.str (Str.ofString "chain_from") 428, Value.str (Str.ofString "Hall.chain_from") 429, Value.str (Str.ofString "/claim/cut.py") 430, Value.int 75 0, Value.int 5 0, Value.int 0 0, Value.int 0 0, Value.int 3 0, Value.ref 190, Value.bool true, Value.int 181 0, Value.ref 191, Value.none, Value.ref 192, Value.ref 193, Value.ref 194, Value.int 439 0, Value.int 75 0, Value.str (Str.ofString "/claim/cut.py") 440] }),
   (196, fnO (inCls (top 17) 8) "Hall.chain_from" (Value.str (Str.ofString "pairhues.halls") 326) 195),
   (202, { cls := Value.type "code", data := Data.fields #[Value.str (Str.ofString "turn") 442, Value.str (Str.ofString "Hall.turn") 443, Value.str (Str.ofString "/claim/cut.py") 444, Value.int 86 0, Value.int 4 0, Value.int 0 0, Value.int 0 0, Value.int 3 0, Value.ref 197, Value.bool true, Value.int 181 0, Value.ref 198, Value.none, Value.ref 199, Value.ref 200, Value.ref 201, Value.int 450 0, Value.int 86 0, Value.str (Str.ofString "/claim/cut.py") 451] }),
   (203, fnO (inCls (top 17) 9) "Hall.turn" (Value.str (Str.ofString "pairhues.halls") 326) 202),
   (209, { cls := Value.type "code", data := Data.fields #[Value.str (Str.ofString "ways") 453, Value.str (Str.ofString "Hall.ways") 454, Value.str (Str.ofString "/claim/cut.py") 455, Value.int 90 0, Value.int 4 0, Value.int 0 0, Value.int 0 0, Value.int 3 0, Value.ref 204, Value.bool true, Value.int 181 0, Value.ref 205, Value.none, Value.ref 206, Value.ref 207, Value.ref 208, Value.int 464 0, Value.int 90 0, Value.str (Str.ofString "/claim/cut.py") 465] }),
   (210, fnO (inCls (top 17) 10) "Hall.ways" (Value.str (Str.ofString "pairhues.halls") 326) 209),
   (214, { cls := Value.type "code", data := Data.fields #[Value.str (Str.ofString "hued") 467, Value.str (Str.ofString "Hall.hued") 468, Value.str (Str.ofString "/claim/cut.py") 469, Value.int 100 0, Value.int 5 0, Value.int 0 0, Value.int 0 0, Value.int 3 0, Value.ref 211, Value.bool true, Value.int 181 0, Value.ref 212, Value.none, Value.none, Value.none, Value.ref 213, Value.int 470 0, Value.int 100 0, Value.str (Str.ofString "/claim/cut.py") 471] }),
   (215, fnO (inCls (top 17) 11) "Hall.hued" (Value.str (Str.ofString "pairhues.halls") 326) 214),
   (221, { cls := Value.type "code", data := Data.fields #[Value.str (Str.ofString "come") 473, Value.str (Str.ofString "Hall.come") 474, Value.str (Str.ofString "/claim/cut.py") 475, Value.int 111 0, Value.int 3 0, Value.int 0 0, Value.int 0 0, Value.int 3 0, Value.ref 216, Value.bool true, Value.int 181 0, Value.ref 217, Value.none, Value.ref 218, Value.ref 219, Value.ref 220, Value.int 480 0, Value.int 111 0, Value.str (Str.ofString "/claim/cut.py") 481] }),
   (222, fnO (inCls (top 17) 12) "Hall.come" (Value.str (Str.ofString "pairhues.halls") 326) 221),
   (228, { cls := Value.type "code", data := Data.fields #[Value.str (Str.ofString "need_pair") 483, Value.str (Str.ofString "Hall.need_pair") 484, Value.str (Str.ofString "/claim/cut.py") 485, Value.int 121 0, Value.int 2 0, Value.int 0 0, Value.int 0 0, Value.int 3 0, Value.ref 223, Value.bool true, Value.int 181 0, Value.ref 224, Value.none, Value.ref 225, Value.ref 226, Value.ref 227, Value.int 488 0, Value.int 121 0, Value.str (Str.ofString "/claim/cut.py") 489] }),
   (229, fnO (inCls (top 17) 13) "Hall.need_pair" (Value.str (Str.ofString "pairhues.halls") 326) 228),
   (235, { cls := Value.type "code", data := Data.fields #[Value.str (Str.ofString "go") 491, Value.str (Str.ofString "Hall.go") 492, Value.str (Str.ofString "/claim/cut.py") 493, Value.int 125 0, Value.int 2 0, Value.int 0 0, Value.int 0 0, Value.int 3 0, Value.ref 230, Value.bool true, Value.int 181 0, Value.ref 231, Value.none, Value.ref 232, Value.ref 233, Value.ref 234, Value.int 496 0, Value.int 125 0, Value.str (Str.ofString "/claim/cut.py") 497] }),
   (236, fnO (inCls (top 17) 14) "Hall.go" (Value.str (Str.ofString "pairhues.halls") 326) 235),
   (242, { cls := Value.type "code", data := Data.fields #[Value.str (Str.ofString "pairs") 499, Value.str (Str.ofString "Hall.pairs") 500, Value.str (Str.ofString "/claim/cut.py") 501, Value.int 128 0, Value.int 1 0, Value.int 0 0, Value.int 0 0, Value.int 3 0, Value.ref 237, Value.bool true, Value.int 181 0, Value.ref 238, Value.none, Value.ref 239, Value.ref 240, Value.ref 241, Value.int 508 0, Value.int 128 0, Value.str (Str.ofString "/claim/cut.py") 509] }),
   (243, fnO (inCls (top 17) 15) "Hall.pairs" (Value.str (Str.ofString "pairhues.halls") 326) 242),
   (249, { cls := Value.type "code", data := Data.fields #[Value.str (Str.ofString "hue_of") 511, Value.str (Str.ofString "Hall.hue_of") 512, Value.str (Str.ofString "/claim/cut.py") 513, Value.int 135 0, Value.int 2 0, Value.int 0 0, Value.int 0 0, Value.int 3 0, Value.ref 244, Value.bool true, Value.int 181 0, Value.ref 245, Value.none, Value.ref 246, Value.ref 247, Value.ref 248, Value.int 516 0, Value.int 135 0, Value.str (Str.ofString "/claim/cut.py") 517] }),
   (250, fnO (inCls (top 17) 16) "Hall.hue_of" (Value.str (Str.ofString "pairhues.halls") 326) 249),
   (256, { cls := Value.type "code", data := Data.fields #[Value.str (Str.ofString "is_hue") 519, Value.str (Str.ofString "Hall.is_hue") 520, Value.str (Str.ofString "/claim/cut.py") 521, Value.int 139 0, Value.int 2 0, Value.int 0 0, Value.int 0 0, Value.int 3 0, Value.ref 251, Value.bool true, Value.int 181 0, Value.ref 252, Value.none, Value.ref 253, Value.ref 254, Value.ref 255, Value.int 524 0, Value.int 139 0, Value.str (Str.ofString "/claim/cut.py") 525] }),
   (257, fnO (inCls (top 17) 17) "Hall.is_hue" (Value.str (Str.ofString "pairhues.halls") 326) 256),
   (263, { cls := Value.type "code", data := Data.fields #[Value.str (Str.ofString "of_hue") 527, Value.str (Str.ofString "Hall.of_hue") 528, Value.str (Str.ofString "/claim/cut.py") 529, Value.int 142 0, Value.int 2 0, Value.int 0 0, Value.int 0 0, Value.int 3 0, Value.ref 258, Value.bool true, Value.int 181 0, Value.ref 259, Value.none, Value.ref 260, Value.ref 261, Value.ref 262, Value.int 532 0, Value.int 142 0, Value.str (Str.ofString "/claim/cut.py") 533] }),
   (264, fnO (inCls (top 17) 18) "Hall.of_hue" (Value.str (Str.ofString "pairhues.halls") 326) 263),
   (270, { cls := Value.type "code", data := Data.fields #[Value.str (Str.ofString "free") 535, Value.str (Str.ofString "Hall.free") 536, Value.str (Str.ofString "/claim/cut.py") 537, Value.int 145 0, Value.int 3 0, Value.int 0 0, Value.int 0 0, Value.int 3 0, Value.ref 265, Value.bool true, Value.int 181 0, Value.ref 266, Value.none, Value.ref 267, Value.ref 268, Value.ref 269, Value.int 541 0, Value.int 145 0, Value.str (Str.ofString "/claim/cut.py") 542] }),
   (271, fnO (inCls (top 17) 19) "Hall.free" (Value.str (Str.ofString "pairhues.halls") 326) 270),
   (275, { cls := Value.type "code", data := Data.fields #[Value.str (Str.ofString "fullest") 544, Value.str (Str.ofString "Hall.fullest") 545, Value.str (Str.ofString "/claim/cut.py") 546, Value.int 149 0, Value.int 1 0, Value.int 0 0, Value.int 0 0, Value.int 3 0, Value.ref 272, Value.bool true, Value.int 181 0, Value.ref 273, Value.none, Value.none, Value.none, Value.ref 274, Value.int 547 0, Value.int 149 0, Value.str (Str.ofString "/claim/cut.py") 548] }),
   (276, fnO (inCls (top 17) 20) "Hall.fullest" (Value.str (Str.ofString "pairhues.halls") 326) 275),
   (282, { cls := Value.type "code", data := Data.fields #[Value.str (Str.ofString "chain") 550, Value.str (Str.ofString "Hall.chain") 551, Value.str (Str.ofString "/claim/cut.py") 552, Value.int 157 0, Value.int 5 0, Value.int 0 0, Value.int 0 0, Value.int 3 0, Value.ref 277, Value.bool true, Value.int 181 0, Value.ref 278, Value.none, Value.ref 279, Value.ref 280, Value.ref 281, Value.int 558 0, Value.int 157 0, Value.str (Str.ofString "/claim/cut.py") 559] }),
   (283, fnO (inCls (top 17) 21) "Hall.chain" (Value.str (Str.ofString "pairhues.halls") 326) 282),
   (285, { cls := Value.type "dict", data := Data.dict #[ent P "__module__" 357 (Value.str (Str.ofString "pairhues.halls") 326), ent P "__firstlineno__" 361 (Value.int 32 360), ent P "__init__" 371 (Value.ref 146), ent P "need_end" 380 (Value.ref 153), ent P "need_place" 389 (Value.ref 160), ent P "end_of" 398 (Value.ref 167), ent P "met" 404 (Value.ref 172), ent P "count" 410 (Value.ref 177), ent P "open_hues" 416 (Value.ref 182), ent P "with_hue" 427 (Value.ref 189), ent P "chain_from" 441 (Value.ref 196), ent P "turn" 452 (Value.ref 203), ent P "ways" 466 (Value.ref 210), ent P "hued" 472 (Value.ref 215), ent P "come" 482 (Value.ref 222), ent P "need_pair" 490 (Value.ref 229), ent P "go" 498 (Value.ref 236), ent P "pairs" 510 (Value.ref 243), ent P "hue_of" 518 (Value.ref 250), ent P "is_hue" 526 (Value.ref 257), ent P "of_hue" 534 (Value.ref 264), ent P "free" 543 (Value.ref 271), ent P "fullest" 549 (Value.ref 276), ent P "chain" 560 (Value.ref 283), ent P "__static_attributes__" 564 (Value.ref 284), ent P "__dict__" 566 (Value.ref 287), ent P "__weakref__" 568 (Value.ref 288), ent P "__doc__" 569 (Value.none)] 4 }),
   (286, { cls := Value.type "type", data := Data.cls { name := Str.ofString "Hall", bases := [Value.type "object"], mro := [Value.ref 286, Value.type "object"], ns := 285, qualname := Str.ofString "Hall" }, slots := #[none, none, some (Value.str (Str.ofString "Hall") 350), some (Value.str (Str.ofString "Hall") 358), some (Value.builtin "object.__new__"), some (Value.bool true)] }),
   (294, { cls := Value.type "code", data := Data.fields #[Value.str (Str.ofString "hued") 574, Value.str (Str.ofString "hued") 575, Value.str (Str.ofString "/claim/cut.py") 576, Value.int 165 0, Value.int 3 0, Value.int 0 0, Value.int 0 0, Value.int 3 0, Value.ref 291, Value.bool true, Value.int 181 0, Value.ref 292, Value.none, Value.none, Value.none, Value.ref 293, Value.int 577 0, Value.int 165 0, Value.str (Str.ofString "/claim/cut.py") 578] }),
   (295, fnO (top 19) "hued" (Value.str (Str.ofString "pairhues.lists") 572) 294),
   (299, { cls := Value.type "code", data := Data.fields #[Value.str (Str.ofString "count_of") 582, Value.str (Str.ofString "count_of") 583, Value.str (Str.ofString "/claim/cut.py") 584, Value.int 170 0, Value.int 1 0, Value.int 0 0, Value.int 0 0, Value.int 3 0, Value.ref 296, Value.bool true, Value.int 181 0, Value.ref 297, Value.none, Value.none, Value.none, Value.ref 298, Value.int 585 0, Value.int 170 0, Value.str (Str.ofString "/claim/cut.py") 586] }),
   (300, fnO (top 21) "count_of" (Value.str (Str.ofString "pairhues.plain") 580) 299),
   (306, { cls := Value.type "code", data := Data.fields #[Value.str (Str.ofString "is_good") 588, Value.str (Str.ofString "is_good") 589, Value.str (Str.ofString "/claim/cut.py") 590, Value.int 176 0, Value.int 1 0, Value.int 0 0, Value.int 0 0, Value.int 3 0, Value.ref 301, Value.bool true, Value.int 181 0, Value.ref 302, Value.none, Value.ref 303, Value.ref 304, Value.ref 305, Value.int 596 0, Value.int 176 0, Value.str (Str.ofString "/claim/cut.py") 597] }),
   (307, fnO (top 22) "is_good" (Value.str (Str.ofString "pairhues.plain") 580) 306),
   (313, { cls := Value.type "code", data := Data.fields #[Value.str (Str.ofString "_law_cell_at") 601, Value.str (Str.ofString "_law_cell_at") 602, Value.str (Str.ofString "/claim/cut.py") 603, Value.int 186 0, Value.int 2 0, Value.int 0 0, Value.int 0 0, Value.int 3 0, Value.ref 308, Value.bool true, Value.int 181 0, Value.ref 309, Value.none, Value.ref 310, Value.ref 311, Value.ref 312, Value.int 606 0, Value.int 186 0, Value.str (Str.ofString "/claim/cut.py") 607] }),
   (314, fnO (top 24) "_law_cell_at" (Value.str (Str.ofString "law_uf040033_09") 599) 313),
   (320, { cls := Value.type "code", data := Data.fields #[Value.str (Str.ofString "_law_mixed") 609, Value.str (Str.ofString "_law_mixed") 610, Value.str (Str.ofString "/claim/cut.py") 611, Value.int 190 0, Value.int 2 0, Value.int 0 0, Value.int 0 0, Value.int 3 0, Value.ref 315, Value.bool true, Value.int 181 0, Value.ref 316, Value.none, Value.ref 317, Value.ref 318, Value.ref 319, Value.int 614 0, Value.int 190 0, Value.str (Str.ofString "/claim/cut.py") 615] }),
   (321, fnO (top 25) "_law_mixed" (Value.str (Str.ofString "law_uf040033_09") 599) 320),
   (327, { cls := Value.type "code", data := Data.fields #[Value.str (Str.ofString "_law_whole") 617, Value.str (Str.ofString "_law_whole") 618, Value.str (Str.ofString "/claim/cut.py") 619, Value.int 192 0, Value.int 1 0, Value.int 0 0, Value.int 0 0, Value.int 3 0, Value.ref 322, Value.bool true, Value.int 181 0, Value.ref 323, Value.none, Value.ref 324, Value.ref 325, Value.ref 326, Value.int 621 0, Value.int 192 0, Value.str (Str.ofString "/claim/cut.py") 622] }),
   (328, fnO (top 26) "_law_whole" (Value.str (Str.ofString "law_uf040033_09") 599) 327),
   (334, { cls := Value.type "code", data := Data.fields #[Value.str (Str.ofString "_law_sizes_by") 624, Value.str (Str.ofString "_law_sizes_by") 625, Value.str (Str.ofString "/claim/cut.py") 626, Value.int 194 0, Value.int 1 0, Value.int 0 0, Value.int 0 0, Value.int 3 0, Value.ref 329, Value.bool true, Value.int 181 0, Value.ref 330, Value.none, Value.ref 331, Value.ref 332, Value.ref 333, Value.int 629 0, Value.int 194 0, Value.str (Str.ofString "/claim/cut.py") 630] }),
   (335, fnO (top 27) "_law_sizes_by" (Value.str (Str.ofString "law_uf040033_09") 599) 334),
   (339, { cls := Value.type "code", data := Data.fields #[Value.str (Str.ofString "_law_ends") 632, Value.str (Str.ofString "_law_ends") 633, Value.str (Str.ofString "/claim/cut.py") 634, Value.int 197 0, Value.int 3 0, Value.int 0 0, Value.int 0 0, Value.int 3 0, Value.ref 336, Value.bool true, Value.int 181 0, Value.ref 337, Value.none, Value.none, Value.none, Value.ref 338, Value.int 635 0, Value.int 197 0, Value.str (Str.ofString "/claim/cut.py") 636] }),
   (340, fnO (top 28) "_law_ends" (Value.str (Str.ofString "law_uf040033_09") 599) 339),
   (346, { cls := Value.type "code", data := Data.fields #[Value.str (Str.ofString "_law_pairs") 638, Value.str (Str.ofString "_law_pairs") 639, Value.str (Str.ofString "/claim/cut.py") 640, Value.int 205 0, Value.int 2 0, Value.int 0 0, Value.int 0 0, Value.int 3 0, Value.ref 341, Value.bool true, Value.int 181 0, Value.ref 342, Value.none, Value.ref 343, Value.ref 344, Value.ref 345, Value.int 647 0, Value.int 205 0, Value.str (Str.ofString "/claim/cut.py") 648] }),
   (347, fnO (top 29) "_law_pairs" (Value.str (Str.ofString "law_uf040033_09") 599) 346),
   (353, { cls := Value.type "code", data := Data.fields #[Value.str (Str.ofString "_law_told") 650, Value.str (Str.ofString "_law_told") 651, Value.str (Str.ofString "/claim/cut.py") 652, Value.int 211 0, Value.int 2 0, Value.int 0 0, Value.int 0 0, Value.int 3 0, Value.ref 348, Value.bool true, Value.int 181 0, Value.ref 349, Value.none, Value.ref 350, Value.ref 351, Value.ref 352, Value.int 656 0, Value.int 211 0, Value.str (Str.ofString "/claim/cut.py") 657] }),
   (354, fnO (top 30) "_law_told" (Value.str (Str.ofString "law_uf040033_09") 599) 353),
   (358, { cls := Value.type "code", data := Data.fields #[Value.str (Str.ofString "_law_hall") 659, Value.str (Str.ofString "_law_hall") 660, Value.str (Str.ofString "/claim/cut.py") 661, Value.int 216 0, Value.int 2 0, Value.int 0 0, Value.int 0 0, Value.int 3 0, Value.ref 355, Value.bool true, Value.int 181 0, Value.ref 356, Value.none, Value.none, Value.none, Value.ref 357, Value.int 662 0, Value.int 216 0, Value.str (Str.ofString "/claim/cut.py") 663] }),
   (359, fnO (top 31) "_law_hall" (Value.str (Str.ofString "law_uf040033_09") 599) 358),
   (363, { cls := Value.type "code", data := Data.fields #[Value.str (Str.ofString "law") 665, Value.str (Str.ofString "law") 666, Value.str (Str.ofString "/claim/cut.py") 667, Value.int 221 0, Value.int 1 0, Value.int 0 0, Value.int 0 0, Value.int 3 0, Value.ref 360, Value.bool true, Value.int 181 0, Value.ref 361, Value.none, Value.none, Value.none, Value.ref 362, Value.int 668 0, Value.int 221 0, Value.str (Str.ofString "/claim/cut.py") 669] }),
   (364, fnO (top 32) "law" (Value.str (Str.ofString "law_uf040033_09") 599) 363)]
theorem KK_as (P : Params) : [2, 3, 30, 31, 67, 68, 79, 80, 124, 125, 131, 132, 145, 146, 152, 153, 159, 160, 166, 167, 171, 172, 176, 177, 181, 182, 188, 189, 195, 196, 202, 203, 209, 210, 214, 215, 221, 222, 228, 229, 235, 236, 242, 243, 249, 250, 256, 257, 263, 264, 270, 271, 275, 276, 282, 283, 285, 286, 294, 295, 299, 300, 306, 307, 313, 314, 320, 321, 327, 328, 334, 335, 339, 340, 346, 347, 353, 354, 358, 359, 363, 364] = (KK P).map (·.1) := rfl
noncomputable def HKK : Hook := kHook KK _ KK_as
noncomputable def qq : Program := view PySem.Challenge.pw_uf040033_09 [32]
noncomputable def LL : List Str := [Str.ofString "_wall", Str.ofString "__name__", Str.ofString "PairError", Str.ofString "BadCount", Str.ofString "BadSide", Str.ofString "BadEnd", Str.ofString "TooMany", Str.ofString "NoPair", Str.ofString "BadHue", Str.ofString "NotFree", Str.ofString "MOST_ENDS", Str.ofString "MOST_PAIRS", Str.ofString "LEFT", Str.ofString "RIGHT", Str.ofString "is_number", Str.ofString "other_side", Str.ofString "Hall", Str.ofString "hued", Str.ofString "count_of", Str.ofString "is_good", Str.ofString "_law_cell_at", Str.ofString "_law_mixed", Str.ofString "_law_whole", Str.ofString "_law_sizes_by", Str.ofString "_law_ends", Str.ofString "_law_pairs", Str.ofString "_law_told", Str.ofString "_law_hall"]
theorem shared_of {s : Shared} {h : Heap} {gs : Array GenState} {d : Drawn} {k : Nat} (e : (s.heap, s.gens, s.drawn, s.toks) = (h, gs, d, k)) : s = ⟨h, gs, d, k, s.os⟩ := by cases s; cases e; rfl
theorem left_o (w : World) (os : OsState) : (topFrom treeTable PySem.Challenge.pw_uf040033_09 w 8000 ⟨boot_heap w.params, Array.mk [], boot_drawn, boot_toks, os⟩).map (fun s => (openSeen qq LL (importedModules PySem.Challenge.pw_uf040033_09.main.body) (fun s => xlAt qq [] s && recOk [] s) true s, Hook.obs HKK s)) = some (openGood qq LL, Hook.val HKK w) := by unfold topFrom; rw [PySem.W.Fast.te14082659384304107361, PySem.W.Fast.te4187177175401517315, PySem.W.Fast.te14364793385576792824]; kernel_rfl
theorem left : LeftO PySem.Challenge.pw_uf040033_09 qq LL (fun s => xlAt qq [] s && recOk [] s) (Hook.obs HKK) (Hook.val HKK) 8000 := fun w => by
  obtain ⟨s, e, v⟩ := Option.map_eq_some_iff.mp (boot_open (p := PySem.Challenge.pw_uf040033_09) (N := 8000) (by kernel_rfl) (by kernel_rfl) (fun _ => by kernel_rfl) w)
  have q := left_o w s.os
  rw [← shared_of v] at q
  unfold openEnds
  rw [e]
  exact q
theorem said : PySem.Challenge.rw_uf040033_09.wellSaid = true := by kernel_rfl
end
section
open PySem PySem.W PyProof.Rows
variable {g : Gr} {P : Params}
noncomputable abbrev CC : Addr := 286
structure NN (g : Gr) : Prop where
  n_isinstance : Xi g "isinstance" (.builtin "isinstance")
  n_int : Xi g "int" (.type "int")
  n_bool : Xi g "bool" (.type "bool")
  n_len : Xi g "len" (.builtin "len")
  n_max : Xi g "max" (.builtin "max")
  n_min : Xi g "min" (.builtin "min")
  n_range : Xi g "range" (.type "range")
  n_sorted : Xi g "sorted" (.builtin "sorted")
  n_list : Xi g "list" (.type "list")
  n_dict : Xi g "dict" (.type "dict")
  n_set : Xi g "set" (.type "set")
  n_all : Xi g "all" (.builtin "all")
  n_enumerate : Xi g "enumerate" (.type "enumerate")
  n_zip : Xi g "zip" (.type "zip")
  n_LEFT : Xi g "LEFT" (.str (Str.ofString "left") 332)
  n_RIGHT : Xi g "RIGHT" (.str (Str.ofString "right") 334)
  n_MOST_ENDS : Xi g "MOST_ENDS" (.int 8 328)
  n_MOST_PAIRS : Xi g "MOST_PAIRS" (.int 40 330)
  n_Hall : Xi g "Hall" (.ref CC)
  n_str : Xi g "str" (.type "str")
  n_PairError : Xi g "PairError" (.ref 31)
  n_BadEnd : Xi g "BadEnd" (.ref 68)
  n_TooMany : Xi g "TooMany" (.ref 80)
theorem hC : ClsOk (KK P) CC := ⟨by kernel_rfl, by kernel_rfl, by kernel_rfl, by kernel_rfl⟩
theorem kp_Hall : keepIn (KK P) (.ref CC) = true := by kernel_rfl
structure ClsFacts (K : Frag) : Prop where
  a_rows : findIn K (.ref CC) (Str.ofString "rows") = some none
  a_sizes : findIn K (.ref CC) (Str.ofString "sizes") = some none
  a_next_number : findIn K (.ref CC) (Str.ofString "next_number") = some none
  t_rows : takerIn K CC (Str.ofString "rows") = some none
  t_sizes : takerIn K CC (Str.ofString "sizes") = some none
  t_next_number : takerIn K CC (Str.ofString "next_number") = some none
theorem CF : ClsFacts (KK P) := ⟨by kernel_rfl, by kernel_rfl, by kernel_rfl, by kernel_rfl, by kernel_rfl, by kernel_rfl⟩
theorem fnM {n : String} {f : Addr} {r : Nat} {t : TF} (h1 : findIn (KK P) (.ref CC) (Str.ofString n) = some (some (.ref f))) (h2 : isFn (KK P) (.ref f) = true) (h3 : keepIn (KK P) (.ref f) = true) (h : Xm g r (.ref f) t) : FnM g (KK P) CC n r t := ⟨f, h1, h2, h3, h.toF⟩
/-! ## what the small ones do -/
noncomputable def Zz : TF := fun xs σ Q _ => ∃ i, xs = [.int i] ∧ Q (.bool true) σ
noncomputable def sOther : TF := fun xs σ Q _ => ∃ s, xs = [.str (sideS s)] ∧ Q (.str (sideS (!s))) σ
noncomputable def sEndOf : TF := fun xs σ Q _ => ∃ x D s t, xs = [.ref x, .int t.1.n, .str (sideS s)] ∧ Yg σ CC x D ∧ Inc D.S ∧ t ∈ D.T ∧ Q (.int (t.1.e s)) σ
theorem f_num (hK : (KK P).In g.b0) (N : NN g) : Xm g 2 (.ref 125) Z2 := by
  refine Xm.mono (Y2 (r := 1) (ps := ["thing"]) (hK 125 _ rfl) rfl (CodeRec.mk' (hK 124 _ rfl) rfl rfl) rfl (by intro vs h; obtain ⟨a0, rfl⟩ := len1 h; rfl) rfl rfl rfl (by decide +kernel)
    (Ze (Zw (sndE_boolop (sndV_and (W8 (k := .int) (at_ (i := 1) rfl) (N.n_isinstance) (at_ (i := 2) rfl) (N.n_int) (Za (.head _) rfl) rfl) (sndV_one (sndE_not (W8 (k := .bool) (at_ (i := 1) rfl) (N.n_isinstance) (at_ (i := 3) rfl) (N.n_bool) (Za (.head _) rfl) rfl))))))
  Zl)) ?_
  rintro xs σ Q E ⟨v, b, rfl, hb, h⟩
  refine Xv rfl fun K KE kret _ _ => ?_
  simp only [Loc.setAll]
  refine Xl fun K1 r1 => ?_
  cases v <;> cases hb <;> (dsimp only [Z3, Z8, tIsI, isiV, Z4, Zq, Zi, Zo, Yn, Zf, tNot, tAnd, Loc.setAll, Loc.set, Loc.bare, Zj, String.reduceBEq, cond_true, cond_false, List.length_cons, List.length_nil, Zc, Zd, Z5, Zp, Z2]; exact r1 _ _ _ (kret _ _ _ _ Sub.refl h))
theorem f_is_number (hK : (KK P).In g.b0) (N : NN g) : Xm g 2 (.ref 125) Zz := by
  refine Xm.mono (f_num hK N) ?_
  rintro xs σ Q E ⟨i, rfl, h⟩
  exact ⟨.int i, true, rfl, rfl, h⟩
theorem f_other_side (hK : (KK P).In g.b0) (N : NN g) : Xm g 2 (.ref 132) sOther := by
  refine Xm.mono (Y2 (r := 1) (ps := ["side"]) (hK 132 _ rfl) rfl (CodeRec.mk' (hK 131 _ rfl) rfl rfl) rfl (by intro vs h; obtain ⟨a0, rfl⟩ := len1 h; rfl) rfl rfl rfl (by decide +kernel)
    (Ze (Wo (Y3 (Za (.head _) rfl) (Y6 (at_ (i := 1) rfl) (N.n_LEFT) (fun _ => Xp.mpr ⟨fitsS (by decide), _, rfl⟩)) rfl) (Ze (Zw (Y6 (at_ (i := 2) rfl) (N.n_RIGHT) (fun _ => Xp.mpr ⟨fitsS (by decide), _, rfl⟩)))
  Zl) Zl)
  (Ze (Zw (Y6 (at_ (i := 1) rfl) (N.n_LEFT) (fun _ => Xp.mpr ⟨fitsS (by decide), _, rfl⟩)))
  Zl))) ?_
  rintro xs σ Q E ⟨s, rfl, h⟩
  refine Xv rfl fun K KE kret _ _ => ?_
  simp only [Loc.setAll]
  refine X8 fun K1 k1 r1 => ?_
  dsimp only [Z3, Z8, Xa, Z4, Zq, Zi, Zo, Zf, Z1, Yh, Loc.setAll, Loc.set, Loc.bare, Zj, String.reduceBEq, cond_true, cond_false, List.length_cons, List.length_nil, Zc, Zd, Z5, Zp, Z2]
  refine eqD_str (sideS_ok s) left_ok ?_
  rw [sideS_left]
  cases s with
  | false =>
    simp only [Bool.not_false]
    refine Xl fun K2 r2 => ?_
    dsimp only [Z3, Z8, Xa, Z4, Zq, Zi, Zo, Zf, Z1, Yh, Loc.setAll, Loc.set, Loc.bare, Zj, String.reduceBEq, cond_true, cond_false, List.length_cons, List.length_nil, Zc, Zd, Z5, Zp, Z2]
    exact r2 _ _ _ (r1 _ _ _ (kret _ _ _ _ Sub.refl h))
  | true =>
    simp only [Bool.not_true]
    refine k1 _ _ ?_
    refine Xl fun K2 r2 => ?_
    dsimp only [Z3, Z8, Xa, Z4, Zq, Zi, Zo, Zf, Z1, Yh, Loc.setAll, Loc.set, Loc.bare, Zj, String.reduceBEq, cond_true, cond_false, List.length_cons, List.length_nil, Zc, Zd, Z5, Zp, Z2]
    exact r2 _ _ _ (kret _ _ _ _ Sub.refl h)
theorem f_end_of (hK : (KK P).In g.b0) (N : NN g) : Xm g 2 (.ref 167) sEndOf := by
  refine Xm.mono (Y2 (r := 1) (ps := ["self", "number", "side"]) (hK 167 _ rfl) rfl (CodeRec.mk' (hK 166 _ rfl) rfl rfl) rfl (by intro vs h; obtain ⟨a0, a1, a2, rfl⟩ := len3 h; rfl) rfl rfl rfl (by decide +kernel)
    (Ze (Wo (Y3 (Za (at_ (i := 2) rfl) rfl) (Y6 (at_ (i := 3) rfl) (N.n_LEFT) (fun _ => Xp.mpr ⟨fitsS (by decide), _, rfl⟩)) rfl) (Ze (Zw (Zr (Zr (Xq hK hC CF.a_rows rfl rfl (Za (.head _) rfl)) (Za (at_ (i := 1) rfl) rfl) (fun _ _ => rfl)) Zh (fun _ _ => rfl)))
  Zl) Zl)
  (Ze (Zw (Zr (Zr (Xq hK hC CF.a_rows rfl rfl (Za (.head _) rfl)) (Za (at_ (i := 1) rfl) rfl) (fun _ _ => rfl)) Zh (fun _ _ => rfl)))
  Zl))) ?_
  rintro xs σ Q E ⟨x, D, s, t, rfl, H, hi, ht, h⟩
  refine Xv rfl fun K KE kret _ _ => ?_
  simp only [Loc.setAll]
  refine X8 fun K1 k1 r1 => ?_
  dsimp only [Z3, Z8, Xa, Z4, Zq, Zi, Zo, Zf, Z1, Yh, Zu, Loc.setAll, Loc.set, Loc.bare, Zj, String.reduceBEq, cond_true, cond_false, List.length_cons, List.length_nil, Xh, Zc, Zd, Z5, Zp, Z2]
  refine eqD_str (sideS_ok s) left_ok ?_
  rw [sideS_left]
  cases s with
  | false =>
    simp only [Bool.not_false]
    refine Xl fun K2 r2 => ?_
    dsimp only [Z3, Z8, Xa, Z4, Zq, Zi, Zo, Zf, Z1, Yh, Zu, Loc.setAll, Loc.set, Loc.bare, Zj, String.reduceBEq, cond_true, cond_false, List.length_cons, List.length_nil, Xh, Zc, Zd, Z5, Zp, Z2]
    simp only [H.rowsA]
    exact H.item hi ht (H.item0 ht (r2 _ _ _ (r1 _ _ _ (kret _ _ _ _ Sub.refl h))))
  | true =>
    simp only [Bool.not_true]
    refine k1 _ _ ?_
    refine Xl fun K2 r2 => ?_
    dsimp only [Z3, Z8, Xa, Z4, Zq, Zi, Zo, Zf, Z1, Yh, Zu, Loc.setAll, Loc.set, Loc.bare, Zj, String.reduceBEq, cond_true, cond_false, List.length_cons, List.length_nil, Xh, Zc, Zd, Z5, Zp, Z2]
    simp only [H.rowsA]
    exact H.item hi ht (H.item1 ht (r2 _ _ _ (kret _ _ _ _ Sub.refl h)))
end
section
open PySem PySem.W PyProof.Rows
variable {g : Gr} {P : Params}
theorem f_met (hK : (KK P).In g.b0) (N : NN g) (M_end_of : FnM g (KK P) CC "end_of" 2 sEndOf) : Xm g 3 (.ref 172) (sMet CC) := by
  refine Xm.mono (Y2 (r := 2) (ps := ["self", "side", "end"]) (hK 172 _ rfl) rfl (CodeRec.mk' (hK 171 _ rfl) rfl rfl) rfl (by intro vs h; obtain ⟨a0, a1, a2, rfl⟩ := len3 h; rfl) rfl rfl rfl (by decide +kernel)
    (Ze (Zw (sndE_comp (by decide +kernel) (Xb (Z7 (at_ (i := 3) rfl) (Xc N.n_sorted sndF_sorted) (Zb (Xq hK hC CF.a_rows rfl rfl (Za (.head _) rfl)) Zg) rfl)) (.name (at_ (i := 1) rfl) rfl) (by decide +kernel) (sndT_one (Y3 (Yu hK hC M_end_of (Za (at_ (i := 3) rfl) rfl) (Zb (Za (at_ (i := 1) rfl) rfl) (Zb (Za (at_ (i := 4) rfl) rfl) Zg)) rfl rfl rfl rfl) (Za (at_ (i := 2) rfl) rfl) rfl)) (Za (at_ (i := 1) rfl) rfl) (fun _ _ => rfl)))
  Zl)) ?_
  rintro xs σ Q E ⟨x, D, s, e, rfl, H, hi, h64, h⟩
  refine Xv rfl fun K KE kret _ _ => ?_
  simp only [Loc.setAll]
  refine Xl fun K1 r1 => ?_
  dsimp only [Z3, Z8, Zy, Zx, Zs, Zn, Yi, Z4, Zq, Zi, Zo, Zf, Z1, Yh, Loc.setAll, Loc.set, Loc.bare, Zj, String.reduceBEq, cond_true, cond_false, List.length_cons, List.length_nil, Xh, Ye, Zc, Zd, Z5, Zp, Z2]
  simp only [H.rowsA]
  refine tSorted_rows H hi h64 fun b hb => ?_
  simp only [AH.set_same]
  have s1 : Sub σ (σ.set b (.list (D.T.map fun t => V.int t.1.n))) := Sub.refl.new hb
  refine ⟨nofun, compT_growS (fun t : Rw × Addr => V.int t.1.n) (fun t => t.1.e s == e) (fun t => V.int t.1.n) D.T (fun σ' hs => hs _ _ AH.set_same) (fun t ht σ' hs => ⟨_, fun P h => h, fun Qb hQ => ?_, fun _ σ'' hs'' Qv hQ => ?_⟩) fun σ' hs => ?_⟩
  · have H' := H.sub (s1.trans hs)
    dsimp only [Z3, Z8, Zy, Zx, Zs, Zn, Yi, Z4, Zq, Zi, Zo, Zf, Z1, Yh, Loc.setAll, Loc.set, Loc.bare, Zj, String.reduceBEq, cond_true, cond_false, List.length_cons, List.length_nil, Xh, Ye, Zc, Zd, Z5, Zp, Z2]
    refine ⟨H'.instOf (by decide +kernel), x, D, s, t, rfl, H', hi, ht, ?_⟩
    simp only [eqD]
    exact hQ _ Sub.refl
  · dsimp only [Z3, Z8, Zy, Zx, Zs, Zn, Yi, Z4, Zq, Zi, Zo, Zf, Z1, Yh, Loc.setAll, Loc.set, Loc.bare, Zj, String.reduceBEq, cond_true, cond_false, List.length_cons, List.length_nil, Xh, Ye, Zc, Zd, Z5, Zp, Z2]
    exact hQ _ Sub.refl
  · intro d hd
    have s2 : Sub σ σ' := s1.trans hs
    exact r1 _ _ _ (kret _ _ _ (σ.set d (.list ((metT D.T s e).map fun t => V.int t.1.n))) (sub_set s2) (h d (s2.none hd)))
theorem f_count (hK : (KK P).In g.b0) (N : NN g) (M_met : FnM g (KK P) CC "met" 3 (sMet CC)) : Xm g 4 (.ref 177) (sCount CC) := by
  refine Xm.mono (Y2 (r := 3) (ps := ["self"]) (hK 177 _ rfl) rfl (CodeRec.mk' (hK 176 _ rfl) rfl rfl) rfl (by intro vs h; obtain ⟨a0, rfl⟩ := len1 h; rfl) rfl rfl rfl (by decide +kernel)
    (Ze (Z9 (at_ (i := 1) rfl) rfl (Xo (Zb Zh Zg)) (fun _ => rfl))
  (Ze (Wv (Xb (Yo (Zb (Y6 (at_ (i := 3) rfl) (N.n_LEFT) (fun _ => Xp.mpr ⟨fitsS (by decide), _, rfl⟩)) (Zb (Y6 (at_ (i := 4) rfl) (N.n_RIGHT) (fun _ => Xp.mpr ⟨fitsS (by decide), _, rfl⟩)) Zg)))) (.name (at_ (i := 2) rfl) rfl) (Ze (Z9 (at_ (i := 1) rfl) rfl (Yk (Za (at_ (i := 1) rfl) rfl) (sndE_comp (by decide +kernel) (sndI_range1 (at_ (i := 5) rfl) (N.n_range) (Zr (Xq hK hC CF.a_sizes rfl rfl (Za (.head _) rfl)) (Za (at_ (i := 2) rfl) rfl) (fun _ _ => rfl)) rfl) (.name (at_ (i := 1) rfl) rfl) (by decide +kernel) sndT_nil (Z7 (at_ (i := 2) rfl) (Xc N.n_len Wp) (Zb (Yu hK hC M_met (Za (at_ (i := 3) rfl) rfl) (Zb (Za (at_ (i := 4) rfl) rfl) (Zb (Za (at_ (i := 1) rfl) rfl) Zg)) rfl rfl rfl rfl) Zg) rfl) (fun _ _ => rfl))) (fun _ => rfl))
  Zl) (fun _ _ => rfl))
  (Ze (Zw (Z7 (at_ (i := 6) rfl) (Xc N.n_max sndF_max) (Zb (Za (at_ (i := 1) rfl) rfl) Zg) rfl))
  Zl)))) ?_
  rintro xs σ Q E ⟨x, D, rfl, H, hi, h64, ha0, ha1, hb0, hb1, h⟩
  refine Xv rfl fun K KE kret _ _ => ?_
  simp only [Loc.setAll]
  refine Yj fun K1 k1 => ?_
  dsimp only [Z3, Z8, Zm, Yy, Zy, Zx, Yd, Zs, Xf, Xg, tMax, Zn, Yi, Yc, Z6, Z4, Zq, Zi, Zo, Zf, Xj, Xd, Zu, Loc.setAll, Loc.set, Loc.bare, Zj, String.reduceBEq, cond_true, cond_false, List.length_cons, List.length_nil, Xh, Ye, Zc, Zd, Z5, Zp, Z2]
  refine ⟨by simp [Ym], fun b0 hb0' => k1 _ _ ?_⟩
  have s1 : Sub σ (σ.set b0 (.list [V.int 0])) := Sub.refl.new hb0'
  refine Yj fun K1 k1 => ?_
  dsimp only [Z3, Z8, Zm, Yy, Zy, Zx, Yd, Zs, Xf, Xg, tMax, Zn, Yi, Yc, Z6, Z4, Zq, Zi, Zo, Zf, Xj, Xd, Zu, Loc.setAll, Loc.set, Loc.bare, Zj, String.reduceBEq, cond_true, cond_false, List.length_cons, List.length_nil, Xh, Ye, Zc, Zd, Z5, Zp, Z2]
  refine ⟨by simp [Ym], nofun, ?_⟩
  refine loopT_k (fun xs ℓ σ' => ∀ P0 : Prop, (∀ (done rest : List Bool) (b : Addr), (xs = rest.map (fun s => V.str (sideS s))) → (done ++ rest = [false, true]) → (ℓ "self" = some (.ref x)) → (ℓ "sizes" = some (.ref b)) → (σ' b = some (.list (((0 : Int) :: cntL D.S D.a D.b done).map V.int))) → (Sub σ σ') → P0) → P0) ?_ ?_
    (fun _ kI => kI ([]) ([false, true]) (b0) (rfl) (rfl) (rfl) (rfl) (AH.set_same) (s1))
  · intro ℓ σ' hI0
    refine hI0 _ fun done rest b h1 h2 h3 h4 h5 h6 => ?_
    obtain rfl := map_nil_inv h1
    rw [List.append_nil] at h2
    subst h2
    refine ⟨trivial, k1 _ _ ?_⟩
    refine Xl fun K2 r2 => ?_
    dsimp only [Z3, Z8, Zm, Yy, Zy, Zx, Yd, Zs, Xf, Xg, tMax, Zn, Yi, Yc, Z6, Z4, Zq, Zi, Zo, Zf, Xj, Xd, Zu, Loc.setAll, Loc.set, Loc.bare, Zj, String.reduceBEq, cond_true, cond_false, List.length_cons, List.length_nil, Xh, Ye, Zc, Zd, Z5, Zp, Z2]
    simp only [h4, listInts, h5, intsV_map]
    refine ⟨by simp, fun m hm1 hm2 => ?_⟩
    obtain ⟨k, rfl, hk⟩ := isCnt_of hm1 hm2
    exact r2 _ _ _ (kret _ _ _ _ h6 (h k hk))
  · intro v xs ℓ σ' K2 k2 r2 hI0
    refine hI0 _ fun done rest b h1 h2 h3 h4 h5 h6 => ?_
    obtain ⟨s, rest, rfl, rfl, rfl⟩ := map_cons_inv h1
    refine ⟨trivial, ?_⟩
    simp only [Zj]
    refine Yj fun K3 k3 => ?_
    dsimp only [Z3, Z8, Zm, Yy, Zy, Zx, Yd, Zs, Xf, Xg, tMax, Zn, Yi, Yc, Z6, Z4, Zq, Zi, Zo, Zf, Xj, Xd, Zu, Loc.setAll, Loc.set, Loc.bare, Zj, String.reduceBEq, cond_true, cond_false, List.length_cons, List.length_nil, Xh, Ye, Zc, Zd, Z5, Zp, Z2]
    have H' := H.sub h6
    simp only [h3, h4, H'.sizesA]
    have hsz : 0 ≤ szOf D.a D.b s ∧ szOf D.a D.b s ≤ 1000 := by cases s <;> simp [szOf] <;> omega
    refine H'.size s ⟨hsz.1, by unfold Ym; omega, nofun, ?_⟩
    rw [rangeV_rng]
    refine compT_growE V.int (fun e => V.int (deg D.S s e : Int)) (Wx (szOf D.a D.b s).toNat) (fun _ _ => trivial) (fun e he => ⟨_, fun _ _ P h => h, fun σ2 s2 Qv hQ => ?_⟩) fun σ2 s2 d hd => ?_
    · dsimp only [Z3, Z8, Zm, Yy, Zy, Zx, Yd, Zs, Xf, Xg, tMax, Zn, Yi, Yc, Z6, Z4, Zq, Zi, Zo, Zf, Xj, Xd, Zu, Loc.setAll, Loc.set, Loc.bare, Zj, String.reduceBEq, cond_true, cond_false, List.length_cons, List.length_nil, Xh, Ye, Zc, Zd, Z5, Zp, Z2]
      simp only [h3]
      have H2 := H'.sub s2
      refine ⟨H2.instOf (by decide +kernel), x, D, s, e, rfl, H2, hi, h64, fun c hc => ?_⟩
      simp only [AH.set_same, List.length_map]
      rw [metT_deg]
      exact hQ _ (Sub.refl.new hc)
    · refine ⟨_, _, Zt (s2 _ _ h5) hd, AH.set_same, ?_, fun d' hd' => k3 _ _ (k2 _ _ (fun _ kI => kI (done ++ [s]) (rest) (d') (rfl) (by simpa using h2) (h3) (rfl) (?_) (((h6.trans s2).new hd).new hd')))⟩
      · have hl : (cntL D.S D.a D.b done).length ≤ 1000 * done.length := by
          clear h5 h2
          induction done with
          | nil => simp [cntL]
          | cons t done ih =>
            have : (szOf D.a D.b t).toNat ≤ 1000 := by cases t <;> simp [szOf] <;> omega
            unfold cntL at ih ⊢
            rw [List.flatMap_cons, List.length_append, List.length_map, rngI_length, List.length_cons]
            omega
        have hd2 : done.length ≤ 2 := by have := congrArg List.length h2; simp at this; omega
        unfold Ym
        simp only [List.length_append, List.length_map, List.length_cons, rngI_length]
        omega
      · rw [AH.set_same, cntL_snoc]
        simp [List.map_map, Function.comp_def]
theorem f_open_hues (hK : (KK P).In g.b0) (N : NN g) (M_met : FnM g (KK P) CC "met" 3 (sMet CC)) : Xm g 4 (.ref 182) (sOpen CC) := by
  refine Xm.mono (Y2 (r := 3) (ps := ["self", "side", "end", "many"]) (hK 182 _ rfl) rfl (CodeRec.mk' (hK 181 _ rfl) rfl rfl) rfl (by intro vs h; obtain ⟨a0, a1, a2, a3, rfl⟩ := len4 h; rfl) rfl rfl rfl (by decide +kernel)
    (Ze (sndS_assignComp (at_ (i := 4) rfl) rfl (by decide +kernel) (Xb (Yu hK hC M_met (Za (.head _) rfl) (Zb (Za (at_ (i := 1) rfl) rfl) (Zb (Za (at_ (i := 2) rfl) rfl) Zg)) rfl rfl rfl rfl)) (.name (at_ (i := 1) rfl) rfl) (by decide +kernel) sndT_nil (Zr (Zr (Xq hK hC CF.a_rows rfl rfl (Za (at_ (i := 2) rfl) rfl)) (Za (at_ (i := 1) rfl) rfl) (fun _ _ => rfl)) Zh (fun _ _ => rfl)) (fun _ _ => rfl))
  (Ze (Zw (sndE_comp (by decide +kernel) (sndI_range1 (at_ (i := 5) rfl) (N.n_range) (Za (at_ (i := 3) rfl) rfl) rfl) (.name (at_ (i := 1) rfl) rfl) (by decide +kernel) (sndT_one (Y3 (Za (at_ (i := 1) rfl) rfl) (Za (at_ (i := 2) rfl) rfl) rfl)) (Za (at_ (i := 1) rfl) rfl) (fun _ _ => rfl)))
  Zl))) ?_
  rintro xs σ Q E ⟨x, D, s, e, m, rfl, H, hi, h64, hm, h⟩
  refine Xv rfl fun K KE kret _ _ => ?_
  simp only [Loc.setAll]
  refine X8 fun K1 k1 r1 => ?_
  dsimp only [Z3, Z8, Zk, Zy, Zx, Yd, Zn, Yi, Z4, Zq, Zi, Zo, Zf, Z1, Yh, Zu, Loc.setAll, Loc.set, Loc.bare, Zj, String.reduceBEq, cond_true, cond_false, List.length_cons, List.length_nil, Xh, Ye, Zc, Zd, Z5, Zp, Z2]
  refine ⟨H.instOf (by decide +kernel), x, D, s, e, rfl, H, hi, h64, fun c hc => ?_⟩
  simp only [AH.set_same]
  have s1 : Sub σ (σ.set c (.list ((metT D.T s e).map fun t => V.int t.1.n))) := Sub.refl.new hc
  refine ⟨nofun, compT_growE (fun t : Rw × Addr => V.int t.1.n) (fun t => hueV t.1.h) (metT D.T s e) (fun σ' hs => hs _ _ AH.set_same) (fun t ht => ⟨_, fun _ _ P h => h, fun σ2 s2 Qv hQ => ?_⟩) fun σ2 s2 d hd => ?_⟩
  · have H2 := H.sub (s1.trans s2)
    have ht' := (List.mem_filter.1 ht).1
    dsimp only [Z3, Z8, Zk, Zy, Zx, Yd, Zn, Yi, Z4, Zq, Zi, Zo, Zf, Z1, Yh, Zu, Loc.setAll, Loc.set, Loc.bare, Zj, String.reduceBEq, cond_true, cond_false, List.length_cons, List.length_nil, Xh, Ye, Zc, Zd, Z5, Zp, Z2]
    simp only [H2.rowsA]
    exact H2.item hi ht' (H2.item2 ht' (hQ _ Sub.refl))
  · have s3 : Sub σ (σ2.set d (.list ((metT D.T s e).map fun t => hueV t.1.h))) := (s1.trans s2).new hd
    refine k1 _ _ ?_
    refine Xl fun K1 r1 => ?_
    dsimp only [Z3, Z8, Zk, Zy, Zx, Yd, Zn, Yi, Z4, Zq, Zi, Zo, Zf, Z1, Yh, Zu, Loc.setAll, Loc.set, Loc.bare, Zj, String.reduceBEq, cond_true, cond_false, List.length_cons, List.length_nil, Xh, Ye, Zc, Zd, Z5, Zp, Z2]
    refine ⟨by omega, by unfold Ym; omega, nofun, ?_⟩
    rw [rangeV_rng]
    refine compT_growS V.int (fun h => !decide (some h ∈ (metT D.T s e).map fun t => t.1.h)) V.int (Wx (m : Int).toNat) (fun _ _ => trivial) (fun h' _ σ4 s4 => ⟨_, fun P h => h, fun Qb hQ => ?_, fun _ σ5 s5 Qv hQ => ?_⟩) fun σ4 s4 d' hd' => ?_
    · dsimp only [Z3, Z8, Zk, Zy, Zx, Yd, Zn, Yi, Z4, Zq, Zi, Zo, Zf, Z1, Yh, Zu, Loc.setAll, Loc.set, Loc.bare, Zj, String.reduceBEq, cond_true, cond_false, List.length_cons, List.length_nil, Xh, Ye, Zc, Zd, Z5, Zp, Z2]
      refine inD_hues (hs := (metT D.T s e).map fun t => t.1.h) ?_ (hQ _ Sub.refl)
      rw [List.map_map]
      exact s4 _ _ AH.set_same
    · dsimp only [Z3, Z8, Zk, Zy, Zx, Yd, Zn, Yi, Z4, Zq, Zi, Zo, Zf, Z1, Yh, Zu, Loc.setAll, Loc.set, Loc.bare, Zj, String.reduceBEq, cond_true, cond_false, List.length_cons, List.length_nil, Xh, Ye, Zc, Zd, Z5, Zp, Z2]
      exact hQ _ Sub.refl
    · have s5 := s3.trans s4
      refine r1 _ _ _ (kret _ _ _ (σ.set d' (.list ((Yv D.S s e m).map V.int))) ?_ (h d' (s5.none hd')))
      rw [show ((m : Int).toNat) = m by omega, used_hues]
      exact sub_set s5
theorem f_with_hue (hK : (KK P).In g.b0) (N : NN g) (M_met : FnM g (KK P) CC "met" 3 (sMet CC)) : Xm g 4 (.ref 189) (sWith CC) := by
  refine Xm.mono (Y2 (r := 3) (ps := ["self", "side", "end", "hue"]) (hK 189 _ rfl) rfl (CodeRec.mk' (hK 188 _ rfl) rfl rfl) rfl (by intro vs h; obtain ⟨a0, a1, a2, a3, rfl⟩ := len4 h; rfl) rfl rfl rfl (by decide +kernel)
    (Ze (Wv (Xb (Yu hK hC M_met (Za (.head _) rfl) (Zb (Za (at_ (i := 1) rfl) rfl) (Zb (Za (at_ (i := 2) rfl) rfl) Zg)) rfl rfl rfl rfl)) (.name (at_ (i := 4) rfl) rfl) (Ze (Wo (Y3 (Zr (Zr (Xq hK hC CF.a_rows rfl rfl (Za (.head _) rfl)) (Za (at_ (i := 4) rfl) rfl) (fun _ _ => rfl)) Zh (fun _ _ => rfl)) (Za (at_ (i := 3) rfl) rfl) rfl) (Ze (Zw (Za (at_ (i := 4) rfl) rfl))
  Zl) Zl)
  Zl) (fun _ _ => rfl))
  (Ze (Zw sndE_none)
  Zl))) ?_
  rintro xs σ Q E ⟨x, D, s, e, hh, rfl, H, hi, h64, h⟩
  refine Xv rfl fun K KE kret _ _ => ?_
  simp only [Loc.setAll]
  refine X8 fun K1 k1 r1 => ?_
  dsimp only [Z3, Z8, Xa, Yy, Zy, Zx, Z4, Zq, Zi, Zo, Zf, Z1, Yh, Zu, Loc.setAll, Loc.set, Loc.bare, Zj, String.reduceBEq, cond_true, cond_false, List.length_cons, List.length_nil, Xh, Ye, Zc, Zd, Z5, Zp, Z2]
  refine ⟨H.instOf (by decide +kernel), x, D, s, e, rfl, H, hi, h64, fun c hc => ?_⟩
  simp only [AH.set_same]
  have s1 : Sub σ (σ.set c (.list ((metT D.T s e).map fun t => V.int t.1.n))) := Sub.refl.new hc
  refine ⟨nofun, loopT_k (fun xs ℓ σ' => ∀ P0 : Prop, (∀ rest : List (Rw × Addr), (xs = rest.map (fun t => V.int t.1.n)) → ((∀ t ∈ rest, t ∈ D.T)) → (withH D.S s e hh = (rest.find? fun t => t.1.h == some hh).map (·.1)) → (ℓ "self" = some (.ref x)) → (ℓ "hue" = some (.int hh)) → (Sub (σ.set c (.list ((metT D.T s e).map fun t => V.int t.1.n))) σ') → P0) → P0) ?_ ?_
    (fun _ kI => kI (_) (rfl) (fun t ht => (List.mem_filter.1 ht).1) (withH_find D s e hh) (rfl) (rfl) (Sub.refl))⟩
  · intro ℓ σ' hI0
    refine hI0 _ fun rest h1 h2 h3 h4 h5 h6 => ?_
    obtain rfl := map_nil_inv h1
    refine ⟨h6 _ _ AH.set_same, k1 _ _ ?_⟩
    refine Xl fun K2 r2 => ?_
    dsimp only [Z3, Z8, Xa, Yy, Zy, Zx, Z4, Zq, Zi, Zo, Zf, Z1, Yh, Zu, Loc.setAll, Loc.set, Loc.bare, Zj, String.reduceBEq, cond_true, cond_false, List.length_cons, List.length_nil, Xh, Ye, Zc, Zd, Z5, Zp, Z2]
    rw [h3] at h
    exact r2 _ _ _ (kret _ _ _ _ (s1.trans h6) h)
  · intro v xs ℓ σ' K2 k2 r2 hI0
    refine hI0 _ fun rest h1 h2 h3 h4 h5 h6 => ?_
    obtain ⟨t, rest, rfl, rfl, rfl⟩ := map_cons_inv h1
    refine ⟨h6 _ _ AH.set_same, ?_⟩
    simp only [Zj]
    refine X8 fun K3 k3 r3 => ?_
    dsimp only [Z3, Z8, Xa, Yy, Zy, Zx, Z4, Zq, Zi, Zo, Zf, Z1, Yh, Zu, Loc.setAll, Loc.set, Loc.bare, Zj, String.reduceBEq, cond_true, cond_false, List.length_cons, List.length_nil, Xh, Ye, Zc, Zd, Z5, Zp, Z2]
    have H' := H.sub (s1.trans h6)
    simp only [h4, h5, H'.rowsA]
    refine H'.item hi (h2 t (.head _)) (H'.item2 (h2 t (.head _)) (eqD_hue ?_))
    rw [List.find?_cons] at h3
    cases q : (t.1.h == some hh) with
    | true =>
      rw [q] at h3
      simp only at h3 ⊢
      refine Xl fun K4 r4 => ?_
      dsimp only [Z3, Z8, Xa, Yy, Zy, Zx, Z4, Zq, Zi, Zo, Zf, Z1, Yh, Zu, Loc.setAll, Loc.set, Loc.bare, Zj, String.reduceBEq, cond_true, cond_false, List.length_cons, List.length_nil, Xh, Ye, Zc, Zd, Z5, Zp, Z2]
      rw [h3] at h
      exact r4 _ _ _ (r3 _ _ _ (r2 _ _ _ (r1 _ _ _ (kret _ _ _ _ (s1.trans h6) h))))
    | false =>
      rw [q] at h3
      simp only at h3 ⊢
      exact k3 _ _ (k2 _ _ (fun _ kI => kI (rest) (rfl) (fun t' ht' => h2 t' (.tail _ ht')) (h3) (h4) (h5) (h6)))
end
section
open PySem PySem.W PyProof.Rows
variable {g : Gr} {P : Params}
inductive ChI (S : List Rw) (s : Bool) (e one other : Int) (σ : AH) (x b : Addr) (n : Nat) (ℓ : Loc) (σ' : AH) : Prop
  | mk (l : List Rw) (h0 : W0 S s e one other l) (h1 : n = S.length - l.length) (h2 : σ' = σ.set b (.list (l.map fun x => V.int x.n))) (h3 : ℓ "self" = some (.ref x)) (h4 : ℓ "found" = some (.ref b)) (h5 : ℓ "one" = some (.int one)) (h6 : ℓ "other" = some (.int other)) (h7 : ℓ "side" = some (.str (sideS (Wf s l.length)))) (h8 : ℓ "want" = some (.int (Wb one other l.length))) (h9 : ℓ "number" = some (numV (withH S (Wf s l.length) (tipE s e l) (Wb one other l.length)))) : ChI S s e one other σ x b n ℓ σ'
theorem f_chain_from (hK : (KK P).In g.b0) (N : NN g) (F_other_side : FnG g "other_side" 4 sOther) (M_with_hue : FnM g (KK P) CC "with_hue" 4 (sWith CC)) (M_end_of : FnM g (KK P) CC "end_of" 4 sEndOf) : Xm g 5 (.ref 196) (sChain CC) := by
  refine Xm.mono (Y2 (r := 4) (ps := ["self", "side", "end", "one", "other"]) (hK 196 _ rfl) rfl (CodeRec.mk' (hK 195 _ rfl) rfl rfl) rfl (by intro vs h; obtain ⟨a0, a1, a2, a3, a4, rfl⟩ := len5 h; rfl) rfl rfl rfl (by decide +kernel)
    (Ze (Z9 (at_ (i := 5) rfl) rfl (Xo Zg) (fun _ => rfl))
  (Ze (Z9 (at_ (i := 6) rfl) rfl (Za (at_ (i := 4) rfl) rfl) (fun _ => rfl))
  (Ze (Z9 (at_ (i := 7) rfl) rfl (Yu hK hC M_with_hue (Za (.head _) rfl) (Zb (Za (at_ (i := 1) rfl) rfl) (Zb (Za (at_ (i := 2) rfl) rfl) (Zb (Za (at_ (i := 6) rfl) rfl) Zg))) rfl rfl rfl rfl) (fun _ => rfl))
  (Ze (sndS_while (Y3 (Za (at_ (i := 7) rfl) rfl) sndE_none rfl) (Ze (Wl (mAppend (Za (at_ (i := 5) rfl) rfl) (Zb (Za (at_ (i := 7) rfl) rfl) Zg) rfl rfl rfl rfl) (fun _ => rfl))
  (Ze (Z9 (at_ (i := 1) rfl) rfl (Z7 (at_ (i := 8) rfl) F_other_side (Zb (Za (at_ (i := 1) rfl) rfl) Zg) rfl) (fun _ => rfl))
  (Ze (Z9 (at_ (i := 6) rfl) rfl (Yk (Yk (Za (at_ (i := 3) rfl) rfl) (Za (at_ (i := 4) rfl) rfl)) (Za (at_ (i := 6) rfl) rfl)) (fun _ => rfl))
  (Ze (Z9 (at_ (i := 7) rfl) rfl (Yu hK hC M_with_hue (Za (.head _) rfl) (Zb (Za (at_ (i := 1) rfl) rfl) (Zb (Yu hK hC M_end_of (Za (.head _) rfl) (Zb (Za (at_ (i := 7) rfl) rfl) (Zb (Za (at_ (i := 1) rfl) rfl) Zg)) rfl rfl rfl rfl) (Zb (Za (at_ (i := 6) rfl) rfl) Zg))) rfl rfl rfl rfl) (fun _ => rfl))
  Zl)))))
  (Ze (Zw (Za (at_ (i := 5) rfl) rfl))
  Zl)))))) ?_
  rintro xs σ Q E ⟨x, D, s, e, one, other, rfl, H, hi, h64, hp, hf, hne, h⟩
  refine Xv rfl fun K KE kret _ _ => ?_
  simp only [Loc.setAll]
  refine Yj fun K1 k1 => ?_
  dsimp only [Z3, Z8, tDo, Zm, Yp, Ws, Yq, Zs, Yc, Z4, Zq, Zi, Zo, Zf, Z1, Yh, Xj, Xd, Loc.setAll, Loc.set, Loc.bare, Zj, String.reduceBEq, cond_true, cond_false, List.length_cons, List.length_nil, Ye, Zc, Zd, Z5, Zp, Z2]
  refine ⟨by simp [Ym], fun b hb => k1 _ _ ?_⟩
  refine Yj fun K1 k1 => ?_
  dsimp only [Z3, Z8, tDo, Zm, Yp, Ws, Yq, Zs, Yc, Z4, Zq, Zi, Zo, Zf, Z1, Yh, Xj, Xd, Loc.setAll, Loc.set, Loc.bare, Zj, String.reduceBEq, cond_true, cond_false, List.length_cons, List.length_nil, Ye, Zc, Zd, Z5, Zp, Z2]
  refine k1 _ _ ?_
  have Hs : ∀ l : List V, Yg (σ.set b (.list l)) CC x D := fun l => H.sub (Sub.refl.new hb)
  refine Yj fun K1 k1 => ?_
  dsimp only [Z3, Z8, tDo, Zm, Yp, Ws, Yq, Zs, Yc, Z4, Zq, Zi, Zo, Zf, Z1, Yh, Xj, Xd, Loc.setAll, Loc.set, Loc.bare, Zj, String.reduceBEq, cond_true, cond_false, List.length_cons, List.length_nil, Ye, Zc, Zd, Z5, Zp, Z2]
  refine ⟨(Hs []).instOf (by decide +kernel), x, D, s, e, other, rfl, Hs [], hi, h64, k1 _ _ ?_⟩
  refine Yj fun K1 k1 => ?_
  refine ⟨ChI D.S s e one other σ x b, ⟨_, [], .nil, rfl, rfl, rfl, rfl, rfl, rfl, rfl, rfl, rfl⟩, ?_⟩
  rintro n ℓ σ' ⟨l, hP, rfl, rfl, e1, e2, e3, e4, e5, e6, e7⟩
  dsimp only [Z3, Z8, tDo, Zm, Yp, Ws, Yq, Zs, Yc, Z4, Zq, Zi, Zo, Zf, Z1, Yh, Xj, Xd, Loc.setAll, Loc.set, Loc.bare, Zj, String.reduceBEq, cond_true, cond_false, List.length_cons, List.length_nil, Ye, Zc, Zd, Z5, Zp, Z2]
  simp only [e7]
  cases hw : withH D.S (Wf s l.length) (tipE s e l) (Wb one other l.length) with
  | none =>
    simp only [numV, isNoneV, Bool.not_true]
    refine k1 _ _ ?_
    refine Xl fun K2 r2 => ?_
    dsimp only [Z3, Z8, tDo, Zm, Yp, Ws, Yq, Zs, Yc, Z4, Zq, Zi, Zo, Zf, Z1, Yh, Xj, Xd, Loc.setAll, Loc.set, Loc.bare, Zj, String.reduceBEq, cond_true, cond_false, List.length_cons, List.length_nil, Ye, Zc, Zd, Z5, Zp, Z2]
    simp only [e2]
    exact r2 _ _ _ (kret _ _ _ _ Sub.refl (h b l hP (withH_none hw) hb))
  | some r =>
    obtain ⟨w1, w2, w3⟩ := withH_some hw
    have hP' : W0 D.S s e one other (l ++ [r]) := hP.snoc w1 w3 w2
    have hl := hP'.len hp hi hne hf
    have hST : D.S.length = D.T.length := by simp [HD.S]
    rw [List.length_append, List.length_singleton] at hl
    simp only [numV, isNoneV, Bool.not_false]
    rw [hw] at e7
    simp only [numV] at e7
    refine Yj fun K2 k2 => ?_
    dsimp only [Z3, Z8, tDo, Zm, Yp, Ws, Yq, Zs, Yc, Z4, Zq, Zi, Zo, Zf, Z1, Yh, Xj, Xd, Loc.setAll, Loc.set, Loc.bare, Zj, String.reduceBEq, cond_true, cond_false, List.length_cons, List.length_nil, Ye, Zc, Zd, Z5, Zp, Z2]
    simp only [e2, e7, AH.set_same]
    refine ⟨trivial, by simp [Ym]; omega, k2 _ _ ?_⟩
    rw [AH.set_set]
    have hmap : ((l.map fun x => V.int x.n) ++ [V.int r.n]) = (l ++ [r]).map fun x => V.int x.n := by simp
    rw [hmap]
    refine Yj fun K2 k2 => ?_
    dsimp only [Z3, Z8, tDo, Zm, Yp, Ws, Yq, Zs, Yc, Z4, Zq, Zi, Zo, Zf, Z1, Yh, Xj, Xd, Loc.setAll, Loc.set, Loc.bare, Zj, String.reduceBEq, cond_true, cond_false, List.length_cons, List.length_nil, Ye, Zc, Zd, Z5, Zp, Z2]
    simp only [e5]
    refine ⟨_, rfl, k2 _ _ ?_⟩
    refine Yj fun K2 k2 => ?_
    dsimp only [Z3, Z8, tDo, Zm, Yp, Ws, Yq, Zs, Yc, Z4, Zq, Zi, Zo, Zf, Z1, Yh, Xj, Xd, Loc.setAll, Loc.set, Loc.bare, Zj, String.reduceBEq, cond_true, cond_false, List.length_cons, List.length_nil, Ye, Zc, Zd, Z5, Zp, Z2]
    simp only [e3, e4, e6]
    refine k2 _ _ ?_
    refine Yj fun K2 k2 => ?_
    dsimp only [Z3, Z8, tDo, Zm, Yp, Ws, Yq, Zs, Yc, Z4, Zq, Zi, Zo, Zf, Z1, Yh, Xj, Xd, Loc.setAll, Loc.set, Loc.bare, Zj, String.reduceBEq, cond_true, cond_false, List.length_cons, List.length_nil, Ye, Zc, Zd, Z5, Zp, Z2]
    simp only [e1, e7]
    obtain ⟨t, ht, rfl⟩ := mem_S w1
    have H' := Hs ((l ++ [t.1]).map fun x => V.int x.n)
    refine ⟨H'.instOf (by decide +kernel), H'.instOf (by decide +kernel), x, D, _, t, rfl, H', hi, ht, x, D, _, _, _, rfl, H', hi, h64, k2 _ _ ?_⟩
    refine ⟨D.S.length - (l ++ [t.1]).length, by rw [List.length_append, List.length_singleton]; omega, l ++ [t.1], hP', rfl, rfl, e1, e2, e3, e4, ?_, ?_, ?_⟩
    · simp only [List.length_append, List.length_singleton, sideAt_succ]; rfl
    · simp only [List.length_append, List.length_singleton, wantAt_succ]; rfl
    · simp only [List.length_append, List.length_singleton, sideAt_succ, wantAt_succ, tipE_snoc]; rfl
end
section
open PySem PySem.W PyProof.Rows
variable {g : Gr} {P : Params}
theorem f_turn (hK : (KK P).In g.b0) (N : NN g) : Xm g 2 (.ref 203) (sTurn CC) := by
  refine Xm.mono (Y2 (r := 1) (ps := ["self", "chain", "one", "other"]) (hK 203 _ rfl) rfl (CodeRec.mk' (hK 202 _ rfl) rfl rfl) rfl (by intro vs h; obtain ⟨a0, a1, a2, a3, rfl⟩ := len4 h; rfl) rfl rfl rfl (by decide +kernel)
    (Ze (Wv (Xb (Za (at_ (i := 1) rfl) rfl)) (.name (at_ (i := 4) rfl) rfl) (Ze (sndS_setItem (Zr (Xq hK hC CF.a_rows rfl rfl (Za (.head _) rfl)) (Za (at_ (i := 4) rfl) rfl) (fun _ _ => rfl)) Zh (Yk (Yk (Za (at_ (i := 2) rfl) rfl) (Za (at_ (i := 3) rfl) rfl)) (Zr (Zr (Xq hK hC CF.a_rows rfl rfl (Za (.head _) rfl)) (Za (at_ (i := 4) rfl) rfl) (fun _ _ => rfl)) Zh (fun _ _ => rfl))) (fun _ => rfl))
  Zl) (fun _ _ => rfl))
  Zl)) ?_
  rintro xs σ Q E ⟨x, D, c, nums, one, other, rfl, H, hi, hc, hca, hnd, hks, h⟩
  refine Xv rfl fun K KE kret kend _ => ?_
  simp only [Loc.setAll]
  refine Yj fun K1 k1 => ?_
  dsimp only [Z3, Yy, Zy, Zx, Z4, Zq, Zi, Zo, Zf, Xj, Xd, Zu, Loc.setAll, Loc.set, Loc.bare, Zj, String.reduceBEq, cond_true, cond_false, List.length_cons, List.length_nil, Xh, Xk, Zc, Zd, Z5, Zp, Z2]
  simp only [hc]
  refine ⟨nofun, loopT_k (fun xs ℓ σ' => ∀ P0 : Prop, (∀ done rest : List Int, (done ++ rest = nums) → (xs = rest.map V.int) → (ℓ "self" = some (.ref x)) → (ℓ "one" = some (.int one)) → (ℓ "other" = some (.int other)) → (Yg σ' CC x (D.flip done one other)) → (∀ y, y ∉ D.T.map (·.2) → σ' y = σ y) → P0) → P0) ?_ ?_
    (fun _ kI => kI ([]) (nums) (rfl) (rfl) (rfl) (rfl) (rfl) (by rw [flip_nil]; exact H) (fun _ _ => rfl))⟩
  · intro ℓ σ' hI0
    refine hI0 _ fun done rest h1 h2 h3 h4 h5 h6 h7 => ?_
    obtain rfl := map_nil_inv h2
    rw [List.append_nil] at h1
    subst h1
    refine ⟨(h7 c hca).trans hc, k1 _ _ ?_⟩
    dsimp only [Z3, Yy, Zy, Zx, Z4, Zq, Zi, Zo, Zf, Xj, Xd, Zu, Loc.setAll, Loc.set, Loc.bare, Zj, String.reduceBEq, cond_true, cond_false, List.length_cons, List.length_nil, Xh, Xk, Zc, Zd, Z5, Zp, Z2]
    exact kend _ _ _ Sub.refl (h σ' h6 h7)
  · intro v xs ℓ σ' K2 k2 r2 hI0
    refine hI0 _ fun done rest h1 h2 h3 h4 h5 h6 h7 => ?_
    obtain ⟨k, rest, rfl, rfl, rfl⟩ := map_cons_inv h2
    refine ⟨(h7 c hca).trans hc, ?_⟩
    simp only [Zj]
    obtain ⟨t, ht, rfl, hu, hh⟩ := hks k (by rw [← h1]; simp)
    have hnin : t.1.n ∉ done := fun q => by
      rw [← h1, List.nodup_append] at hnd
      exact hnd.2.2 _ q _ (.head _) rfl
    have ht' : (t.1, t.2) ∈ (D.flip done one other).T := List.mem_map.2 ⟨t, ht, by rw [Wm hnin]⟩
    have hi' : Inc (D.flip done one other).S := inc_flip hi
    refine Yj fun K3 k3 => ?_
    simp only [Xk]
    dsimp only [Z3, Yy, Zy, Zx, Z4, Zq, Zi, Zo, Zf, Xj, Xd, Zu, Loc.setAll, Loc.set, Loc.bare, Zj, String.reduceBEq, cond_true, cond_false, List.length_cons, List.length_nil, Xh, Xk, Zc, Zd, Z5, Zp, Z2]
    simp only [h3, h4, h5, h6.rowsA]
    refine h6.item hi' ht' (h6.item2 ht' ?_)
    simp only [hh, hueV]
    refine h6.item hi' ht' ?_
    simp only [setItemV, h6.row _ ht']
    refine ⟨2, rfl, by simp [rowL], k3 _ _ (k2 _ _ (fun _ kI => kI (done ++ [t.1.n]) (rest) (by simpa using h1) (rfl) (h3) (h4) (h5) (?_) (fun y hy => ?_)))⟩
    · rw [← flip_snoc hi ht hnin hh]
      have := h6.setHue hi' ht' (some (one + other - hu))
      simpa [rowL, hueV] using this
    · rw [AH.set_other fun z => hy (by rw [z]; exact List.mem_map.2 ⟨t, ht, rfl⟩)]
      exact h7 y hy
theorem f_ways (hK : (KK P).In g.b0) (N : NN g) (M_open_hues : FnM g (KK P) CC "open_hues" 5 (sOpen CC)) (M_chain_from : FnM g (KK P) CC "chain_from" 5 (sChain CC)) : Xm g 6 (.ref 210) (sWays CC) := by
  refine Xm.mono (Y2 (r := 5) (ps := ["self", "left", "right", "many"]) (hK 210 _ rfl) rfl (CodeRec.mk' (hK 209 _ rfl) rfl rfl) rfl (by intro vs h; obtain ⟨a0, a1, a2, a3, rfl⟩ := len4 h; rfl) rfl rfl rfl (by decide +kernel)
    (Ze (Z9 (at_ (i := 4) rfl) rfl (Xo Zg) (fun _ => rfl))
  (Ze (Wv (Xb (Yu hK hC M_open_hues (Za (.head _) rfl) (Zb (Y6 (at_ (i := 8) rfl) (N.n_LEFT) (fun _ => Xp.mpr ⟨fitsS (by decide), _, rfl⟩)) (Zb (Za (at_ (i := 1) rfl) rfl) (Zb (Za (at_ (i := 3) rfl) rfl) Zg))) rfl rfl rfl rfl)) (.name (at_ (i := 5) rfl) rfl) (Ze (Wv (Xb (Yu hK hC M_open_hues (Za (.head _) rfl) (Zb (Y6 (at_ (i := 9) rfl) (N.n_RIGHT) (fun _ => Xp.mpr ⟨fitsS (by decide), _, rfl⟩)) (Zb (Za (at_ (i := 2) rfl) rfl) (Zb (Za (at_ (i := 3) rfl) rfl) Zg))) rfl rfl rfl rfl)) (.name (at_ (i := 6) rfl) rfl) (Ze (Z9 (at_ (i := 7) rfl) rfl (Yu hK hC M_chain_from (Za (.head _) rfl) (Zb (Y6 (at_ (i := 9) rfl) (N.n_RIGHT) (fun _ => Xp.mpr ⟨fitsS (by decide), _, rfl⟩)) (Zb (Za (at_ (i := 2) rfl) rfl) (Zb (Za (at_ (i := 6) rfl) rfl) (Zb (Za (at_ (i := 5) rfl) rfl) Zg)))) rfl rfl rfl rfl) (fun _ => rfl))
  (Ze (Wl (mAppend (Za (at_ (i := 4) rfl) rfl) (Zb (Yo (Zb (Z7 (at_ (i := 10) rfl) (Xc N.n_len Wp) (Zb (Za (at_ (i := 7) rfl) rfl) Zg) rfl) (Zb (Za (at_ (i := 5) rfl) rfl) (Zb (Za (at_ (i := 6) rfl) rfl) (Zb (Za (at_ (i := 7) rfl) rfl) Zg))))) Zg) rfl rfl rfl rfl) (fun _ => rfl))
  (Ze (Z9 (at_ (i := 7) rfl) rfl (Yu hK hC M_chain_from (Za (.head _) rfl) (Zb (Y6 (at_ (i := 8) rfl) (N.n_LEFT) (fun _ => Xp.mpr ⟨fitsS (by decide), _, rfl⟩)) (Zb (Za (at_ (i := 1) rfl) rfl) (Zb (Za (at_ (i := 5) rfl) rfl) (Zb (Za (at_ (i := 6) rfl) rfl) Zg)))) rfl rfl rfl rfl) (fun _ => rfl))
  (Ze (Wl (mAppend (Za (at_ (i := 4) rfl) rfl) (Zb (Yo (Zb (Z7 (at_ (i := 10) rfl) (Xc N.n_len Wp) (Zb (Za (at_ (i := 7) rfl) rfl) Zg) rfl) (Zb (Za (at_ (i := 6) rfl) rfl) (Zb (Za (at_ (i := 5) rfl) rfl) (Zb (Za (at_ (i := 7) rfl) rfl) Zg))))) Zg) rfl rfl rfl rfl) (fun _ => rfl))
  Zl)))) (fun _ _ => rfl))
  Zl) (fun _ _ => rfl))
  (Ze (Zw (Za (at_ (i := 4) rfl) rfl))
  Zl)))) ?_
  rintro xs σ Q E ⟨x, D, l, r, m, rfl, H, hi, h64, hp, hm, hdis, h⟩
  refine Xv rfl fun K KE kret kend _ => ?_
  simp only [Loc.setAll]
  refine Yj fun K1 k1 => ?_
  dsimp only [Z3, Z8, tDo, Zm, Yy, Zy, Zx, Yp, Ws, Yq, Zs, Xf, Xg, Yc, Z6, Z4, Zq, Zi, Zo, Zf, Loc.setAll, Loc.set, Loc.bare, Zj, String.reduceBEq, cond_true, cond_false, List.length_cons, List.length_nil, Ye, Zc, Zd, Z5, Zp, Z2]
  refine ⟨by simp [Ym], fun b hb => k1 _ _ ?_⟩
  have w0 : WInv D.S l r m σ b (σ.set b (.list [])) [] := ⟨AH.set_same, Sub.refl.new hb, fun t ht => absurd ht (by simp)⟩
  refine Yj fun K1 k1 => ?_
  dsimp only [Z3, Z8, tDo, Zm, Yy, Zy, Zx, Yp, Ws, Yq, Zs, Xf, Xg, Yc, Z6, Z4, Zq, Zi, Zo, Zf, Loc.setAll, Loc.set, Loc.bare, Zj, String.reduceBEq, cond_true, cond_false, List.length_cons, List.length_nil, Ye, Zc, Zd, Z5, Zp, Z2]
  have H1 := H.sub w0.sub
  refine ⟨H1.instOf (by decide +kernel), x, D, false, l, m, rfl, H1, hi, h64, by omega, fun o1 ho1 => ?_⟩
  simp only [AH.set_same]
  refine ⟨nofun, loopT_k (fun xs ℓ σ' => ∀ P0 : Prop, (∀ (done rest : List Int) (es : List (Int × Int × Int × Addr)), (done ++ rest = Yv D.S false l m) → (xs = rest.map V.int) → (ℓ "self" = some (.ref x)) → (ℓ "left" = some (.int l)) → (ℓ "right" = some (.int r)) → (ℓ "many" = some (.int (m : Nat))) → (ℓ "found" = some (.ref b)) → (WInv D.S l r m σ b σ' es) → (σ' o1 = some (.list ((Yv D.S false l m).map V.int))) → ((∀ one ∈ done, ∀ two ∈ Yv D.S true r m, GotW es one two ∧ GotW es two one)) → (es.length ≤ 2 * (Yv D.S true r m).length * done.length) → P0) → P0) ?_ ?_
    (fun _ kI => kI ([]) (Yv D.S false l m) ([]) (rfl) (rfl) (rfl) (rfl) (rfl) (rfl) (rfl) (w0.keep ho1) (AH.set_same) (fun _ h => absurd h (by simp)) (by simp))⟩
  · intro ℓ σ' hI0
    refine hI0 _ fun done rest es h1 h2 e1 e2 e3 e4 e5 W ho hg hl => ?_
    obtain rfl := map_nil_inv h2
    rw [List.append_nil] at h1
    subst h1
    refine ⟨ho, k1 _ _ ?_⟩
    refine Xl fun K2 r2 => ?_
    dsimp only [Z3, Z8, tDo, Zm, Yy, Zy, Zx, Yp, Ws, Yq, Zs, Xf, Xg, Yc, Z6, Z4, Zq, Zi, Zo, Zf, Loc.setAll, Loc.set, Loc.bare, Zj, String.reduceBEq, cond_true, cond_false, List.length_cons, List.length_nil, Ye, Zc, Zd, Z5, Zp, Z2]
    simp only [e5]
    exact r2 _ _ _ (kret _ _ _ _ Sub.refl (h σ' b es W.sub hb W.fb (fun t ht => ⟨(W.way t ht).1, (W.way t ht).2.1⟩) hg))
  · intro v xs ℓ σ' K2 k2 r2 hI0
    refine hI0 _ fun done rest es h1 h2 e1 e2 e3 e4 e5 W ho hg hl => ?_
    obtain ⟨one, rest, rfl, rfl, rfl⟩ := map_cons_inv h2
    have hone : one ∈ Yv D.S false l m := by rw [← h1]; simp
    refine ⟨ho, ?_⟩
    simp only [Zj]
    refine Yj fun K3 k3 => ?_
    dsimp only [Z3, Z8, tDo, Zm, Yy, Zy, Zx, Yp, Ws, Yq, Zs, Xf, Xg, Yc, Z6, Z4, Zq, Zi, Zo, Zf, Loc.setAll, Loc.set, Loc.bare, Zj, String.reduceBEq, cond_true, cond_false, List.length_cons, List.length_nil, Ye, Zc, Zd, Z5, Zp, Z2]
    simp only [e1, e3, e4]
    have H2 := H.sub W.sub
    refine ⟨H2.instOf (by decide +kernel), x, D, true, r, m, rfl, H2, hi, h64, by omega, fun o2 ho2 => ?_⟩
    simp only [AH.set_same]
    have hlD : done.length ≤ m := by
      have := congrArg List.length h1
      have := openL_length (S := D.S) (s := false) (e := l) (m := m)
      simp at *; omega
    have hlT : (Yv D.S true r m).length ≤ m := openL_length
    refine ⟨nofun, loopT_k (fun xs ℓ σ2 => ∀ P0 : Prop, (∀ (done2 rest2 : List Int) (fs : List (Int × Int × Int × Addr)), (done2 ++ rest2 = Yv D.S true r m) → (xs = rest2.map V.int) → (ℓ "self" = some (.ref x)) → (ℓ "left" = some (.int l)) → (ℓ "right" = some (.int r)) → (ℓ "many" = some (.int (m : Nat))) → (ℓ "found" = some (.ref b)) → (ℓ "one" = some (.int one)) → (WInv D.S l r m σ b σ2 fs) → (σ2 o1 = some (.list ((Yv D.S false l m).map V.int))) → (σ2 o2 = some (.list ((Yv D.S true r m).map V.int))) → ((∀ one ∈ done, ∀ two ∈ Yv D.S true r m, GotW fs one two ∧ GotW fs two one)) → ((∀ two ∈ done2, GotW fs one two ∧ GotW fs two one)) → (fs.length ≤ 2 * (Yv D.S true r m).length * done.length + 2 * done2.length) → P0) → P0) ?_ ?_
      (fun _ kI => kI ([]) (Yv D.S true r m) (es) (rfl) (rfl) (e1) (e2) (e3) (e4) (e5) (rfl) (W.keep ho2) (Zt ho ho2) (AH.set_same) (hg) (fun _ h => absurd h (by simp)) (by simpa using hl))⟩
    · intro ℓ σ2 hI0
      refine hI0 _ fun done2 rest2 fs h3 h4 f1 f2 f3 f4 f5 f6 W2 ho3 ho4 hg2 hg3 hl2 => ?_
      obtain rfl := map_nil_inv h4
      rw [List.append_nil] at h3
      subst h3
      refine ⟨ho4, k3 _ _ (k2 _ _ (fun _ kI => kI (done ++ [one]) (rest) (fs) (by simpa using h1) (rfl) (f1) (f2) (f3) (f4) (f5) (W2) (ho3) (fun o hO two hT => ?_) (?_)))⟩
      · rcases List.mem_append.1 hO with q | q
        · exact hg2 o q two hT
        · rw [List.mem_singleton.1 q]; exact hg3 two hT
      · rw [List.length_append, List.length_singleton, Nat.mul_add]; omega
    · intro v xs ℓ σ2 K4 k4 r4 hI0
      refine hI0 _ fun done2 rest2 fs h3 h4 f1 f2 f3 f4 f5 f6 W2 ho3 ho4 hg2 hg3 hl2 => ?_
      obtain ⟨two, rest2, rfl, rfl, rfl⟩ := map_cons_inv h4
      have htwo : two ∈ Yv D.S true r m := by rw [← h3]; simp
      have hne : two ≠ one := fun z => hdis one hone (z ▸ htwo)
      have hlen2 : fs.length ≤ 2 * m * m + 2 * m := by
        have h5 : done2.length ≤ m := by have := congrArg List.length h3; simp at this; omega
        have h6 : 2 * (Yv D.S true r m).length * done.length ≤ 2 * m * m := Nat.mul_le_mul (by omega) hlD
        omega
      have hmm : 2 * m * m ≤ 2 * 100 * 100 := Nat.mul_le_mul (by omega) hm
      refine ⟨ho4, ?_⟩
      simp only [Zj]
      have H3 := H.sub W2.sub
      refine Yj fun K5 k5 => ?_
      dsimp only [Z3, Z8, tDo, Zm, Yy, Zy, Zx, Yp, Ws, Yq, Zs, Xf, Xg, Yc, Z6, Z4, Zq, Zi, Zo, Zf, Loc.setAll, Loc.set, Loc.bare, Zj, String.reduceBEq, cond_true, cond_false, List.length_cons, List.length_nil, Ye, Zc, Zd, Z5, Zp, Z2]
      simp only [f1, f3, f6]
      refine ⟨H3.instOf (by decide +kernel), x, D, true, r, two, one, rfl, H3, hi, h64, hp, (mem_openL.1 htwo).2, hne, fun c1 ch1 hp1 hd1 hc1 => k5 _ _ ?_⟩
      have c1b : b ≠ c1 := fun z => by rw [← z, W2.fb] at hc1; cases hc1
      have W3 := W2.add hb hc1 ch1 (s := true) (hue := one) (other := two) hone htwo hp1 hd1
      refine Yj fun K5 k5 => ?_
      dsimp only [Z3, Z8, tDo, Zm, Yy, Zy, Zx, Yp, Ws, Yq, Zs, Xf, Xg, Yc, Z6, Z4, Zq, Zi, Zo, Zf, Loc.setAll, Loc.set, Loc.bare, Zj, String.reduceBEq, cond_true, cond_false, List.length_cons, List.length_nil, Ye, Zc, Zd, Z5, Zp, Z2]
      simp only [f5, f6, AH.set_same, List.length_map, AH.set_other c1b, W2.fb]
      refine ⟨trivial, by simp [Ym], by simp [Ym]; omega, k5 _ _ ?_⟩
      have hq1 : (fs.map quad ++ [V.tup [V.int (ch1.length : Int), V.int one, V.int two, V.ref c1]]) = (fs ++ [((ch1.length : Int), one, two, c1)]).map quad := by simp [quad]
      rw [hq1]
      generalize hσ3 : (σ2.set c1 (.list (ch1.map fun x => V.int x.n))).set b (.list ((fs ++ [((ch1.length : Int), one, two, c1)]).map quad)) = σ3 at W3 ⊢
      have ob1 : o1 ≠ b := fun z => by rw [z, W2.fb] at ho3; injection ho3 with ho3; injection ho3 with ho3; rw [z, AH.set_same] at ho1; cases ho1
      have ob2 : o2 ≠ b := fun z => by rw [z, W.fb] at ho2; cases ho2
      have go1 : σ3 o1 = some (.list ((Yv D.S false l m).map V.int)) := by rw [← hσ3, AH.set_other ob1]; exact Zt ho3 hc1
      have go2 : σ3 o2 = some (.list ((Yv D.S true r m).map V.int)) := by rw [← hσ3, AH.set_other ob2]; exact Zt ho4 hc1
      have H4 := H.sub W3.sub
      refine Yj fun K5 k5 => ?_
      dsimp only [Z3, Z8, tDo, Zm, Yy, Zy, Zx, Yp, Ws, Yq, Zs, Xf, Xg, Yc, Z6, Z4, Zq, Zi, Zo, Zf, Loc.setAll, Loc.set, Loc.bare, Zj, String.reduceBEq, cond_true, cond_false, List.length_cons, List.length_nil, Ye, Zc, Zd, Z5, Zp, Z2]
      simp only [f1, f2, f6]
      refine ⟨H4.instOf (by decide +kernel), x, D, false, l, one, two, rfl, H4, hi, h64, hp, (mem_openL.1 hone).2, Ne.symm hne, fun c2 ch2 hp2 hd2 hc2 => k5 _ _ ?_⟩
      have c2b : b ≠ c2 := fun z => by rw [← z, W3.fb] at hc2; cases hc2
      have W4 := W3.add hb hc2 ch2 (s := false) (hue := two) (other := one) htwo hone hp2 hd2
      refine Yj fun K5 k5 => ?_
      dsimp only [Z3, Z8, tDo, Zm, Yy, Zy, Zx, Yp, Ws, Yq, Zs, Xf, Xg, Yc, Z6, Z4, Zq, Zi, Zo, Zf, Loc.setAll, Loc.set, Loc.bare, Zj, String.reduceBEq, cond_true, cond_false, List.length_cons, List.length_nil, Ye, Zc, Zd, Z5, Zp, Z2]
      simp only [f5, f6, AH.set_same, List.length_map, AH.set_other c2b, W3.fb]
      refine ⟨trivial, by simp [Ym], by simp [Ym]; omega, k5 _ _ (k4 _ _ ?_)⟩
      have hq2 : ((fs ++ [((ch1.length : Int), one, two, c1)]).map quad ++ [V.tup [V.int (ch2.length : Int), V.int two, V.int one, V.ref c2]]) = ((fs ++ [((ch1.length : Int), one, two, c1)]) ++ [((ch2.length : Int), two, one, c2)]).map quad := by simp [quad]
      rw [hq2]
      refine (fun _ kI => kI (done2 ++ [two]) (rest2) (_) (by simpa using h3) (rfl) (f1) (f2) (f3) (f4) (f5) (f6) (W4) (?_) (?_) (fun o hO t hT => ⟨(hg2 o hO t hT).1.more.more, (hg2 o hO t hT).2.more.more⟩) (fun t hT => ?_) (?_))
      · rw [AH.set_other ob1]; exact Zt go1 hc2
      · rw [AH.set_other ob2]; exact Zt go2 hc2
      · rcases List.mem_append.1 hT with q | q
        · exact ⟨(hg3 t q).1.more.more, (hg3 t q).2.more.more⟩
        · rw [List.mem_singleton.1 q]
          exact ⟨⟨((ch1.length : Int), one, two, c1), by simp, rfl, rfl⟩, ⟨((ch2.length : Int), two, one, c2), by simp, rfl, rfl⟩⟩
      · simp only [List.length_append, List.length_singleton]; omega
end
section
open PySem PySem.W PyProof.Rows
variable {g : Gr} {P : Params}
theorem f_hued (hK : (KK P).In g.b0) (N : NN g) (M_open_hues : FnM g (KK P) CC "open_hues" 6 (sOpen CC)) (M_ways : FnM g (KK P) CC "ways" 6 (sWays CC)) (M_turn : FnM g (KK P) CC "turn" 6 (sTurn CC)) : Xm g 7 (.ref 215) (sHued CC) := by
  refine Xm.mono (Y2 (r := 6) (ps := ["self", "number", "left", "right", "many"]) (hK 215 _ rfl) rfl (CodeRec.mk' (hK 214 _ rfl) rfl rfl) rfl (by intro vs h; obtain ⟨a0, a1, a2, a3, a4, rfl⟩ := len5 h; rfl) rfl rfl rfl (by decide +kernel)
    (Ze (sndS_setItem (Xq hK hC CF.a_rows rfl rfl (Za (.head _) rfl)) (Za (at_ (i := 1) rfl) rfl) (Xo (Zb (Za (at_ (i := 2) rfl) rfl) (Zb (Za (at_ (i := 3) rfl) rfl) (Zb sndE_none Zg)))) (fun _ => rfl))
  (Ze (sndS_assignComp (at_ (i := 6) rfl) rfl (by decide +kernel) (Xb (Yu hK hC M_open_hues (Za (.head _) rfl) (Zb (Y6 (at_ (i := 10) rfl) (N.n_LEFT) (fun _ => Xp.mpr ⟨fitsS (by decide), _, rfl⟩)) (Zb (Za (at_ (i := 2) rfl) rfl) (Zb (Za (at_ (i := 4) rfl) rfl) Zg))) rfl rfl rfl rfl)) (.name (at_ (i := 1) rfl) rfl) (by decide +kernel) (sndT_one (Y3 (Za (at_ (i := 1) rfl) rfl) (Yu hK hC M_open_hues (Za (at_ (i := 5) rfl) rfl) (Zb (Y6 (at_ (i := 2) rfl) (N.n_RIGHT) (fun _ => Xp.mpr ⟨fitsS (by decide), _, rfl⟩)) (Zb (Za (at_ (i := 4) rfl) rfl) (Zb (Za (at_ (i := 3) rfl) rfl) Zg))) rfl rfl rfl rfl) rfl)) (Za (at_ (i := 1) rfl) rfl) (fun _ _ => rfl))
  (Ze (Wo (Y3 (Za (at_ (i := 6) rfl) rfl) (Xo Zg) rfl) (Ze (sndS_setItem (Zr (Xq hK hC CF.a_rows rfl rfl (Za (.head _) rfl)) (Za (at_ (i := 1) rfl) rfl) (fun _ _ => rfl)) Zh (Zr (Za (at_ (i := 6) rfl) rfl) Zh (fun _ _ => rfl)) (fun _ => rfl))
  (Ze (Zw (Yo (Zb (Za (at_ (i := 1) rfl) rfl) (Zb (Zr (Za (at_ (i := 6) rfl) rfl) Zh (fun _ _ => rfl)) (Zb sndE_none (Zb (Xo Zg) Zg))))))
  Zl)) Zl)
  (Ze (sndS_assignT (.cons (at_ (i := 7) rfl) rfl (.cons (at_ (i := 5) rfl) rfl (.cons (at_ (i := 8) rfl) rfl (.cons (at_ (i := 9) rfl) rfl .nil)))) (Z7 (at_ (i := 11) rfl) (Xc N.n_min sndF_minT) (Zb (Yu hK hC M_ways (Za (.head _) rfl) (Zb (Za (at_ (i := 2) rfl) rfl) (Zb (Za (at_ (i := 3) rfl) rfl) (Zb (Za (at_ (i := 4) rfl) rfl) Zg))) rfl rfl rfl rfl) Zg) rfl) (fun _ => rfl) (fun _ => rfl))
  (Ze (Wl (Yu hK hC M_turn (Za (.head _) rfl) (Zb (Za (at_ (i := 9) rfl) rfl) (Zb (Za (at_ (i := 5) rfl) rfl) (Zb (Za (at_ (i := 8) rfl) rfl) Zg))) rfl rfl rfl rfl) (fun _ => rfl))
  (Ze (sndS_setItem (Zr (Xq hK hC CF.a_rows rfl rfl (Za (.head _) rfl)) (Za (at_ (i := 1) rfl) rfl) (fun _ _ => rfl)) Zh (Za (at_ (i := 5) rfl) rfl) (fun _ => rfl))
  (Ze (Zw (Yo (Zb (Za (at_ (i := 1) rfl) rfl) (Zb (Za (at_ (i := 5) rfl) rfl) (Zb (Za (at_ (i := 8) rfl) rfl) (Zb (Z7 (at_ (i := 12) rfl) (fn_type N.n_list sndF_list) (Zb (Za (at_ (i := 9) rfl) rfl) Zg) rfl) Zg))))))
  Zl)))))))) ?_
  rintro xs σ Q E ⟨x, D, t, m, rfl, ht, H, hi, h64, hm, hp0, hdl, hdr, h⟩
  refine Xv rfl fun K KE kret kend _ => ?_
  simp only [Loc.setAll]
  refine X8 fun K1 k1 r1 => ?_
  dsimp only [Z3, Z8, tDo, Xa, W7, Zk, Zy, Zx, Zs, Ys, Yi, Yc, Z6, Z4, Zq, Zi, Zo, Zf, Z1, Yh, Zu, Loc.setAll, Loc.set, Loc.bare, Zj, String.reduceBEq, cond_true, cond_false, List.length_cons, List.length_nil, Xh, Ye, Xk, Zc, Zd, Z5, Zp, Z2]
  refine ⟨by simp [Ym], fun p hp => ?_⟩
  have H0 := H.sub (Sub.refl.new (o := .list [V.int t.1.l, V.int t.1.r, V.none]) hp)
  simp only [H0.rowsA]
  obtain ⟨e0, er0⟩ := H0.rows
  simp only [setItemV, er0]
  refine ⟨_, rfl, by simp [Ym]; omega, fun ep => k1 _ _ ?_⟩
  have H1 := H.renew hi ht hp ep
  generalize hσ1 : (σ.set p (.list [V.int t.1.l, V.int t.1.r, V.none])).set D.rd (.dictI (putD (D.T.map fun t => (t.1.n, V.ref t.2)) t.1.n (.ref p)) ep) = σ1 at H1
  generalize hD1 : D.renew t.1.n p = D1 at H1
  have hS1 : D1.S = D.S.map (Wz t.1.n none) := by rw [← hD1]; exact HD.renew_S
  rw [← hS1] at hp0 h
  have hi1 : Inc D1.S := by rw [hS1]; exact inc_map (fun _ => putH_n) hi
  have h641 : D1.T.length < 64 := by rw [← hD1]; simpa [HD.renew] using h64
  have ht1 : (Wz t.1.n none t.1, p) ∈ D1.T := by rw [← hD1]; exact renew_mem ht rfl
  have prow : (Wz t.1.n none t.1).n = t.1.n ∧ (Wz t.1.n none t.1).l = t.1.l ∧ (Wz t.1.n none t.1).r = t.1.r ∧ (Wz t.1.n none t.1).h = none := by unfold Wz; rw [if_pos rfl]; exact ⟨rfl, rfl, rfl, rfl⟩
  have hxS : Wz t.1.n none t.1 ∈ D1.S := List.mem_map.2 ⟨_, ht1, rfl⟩
  have sm1 : D1.a = D.a ∧ D1.b = D.b ∧ D1.nx = D.nx ∧ D1.d = D.d ∧ D1.rd = D.rd := by rw [← hD1]; exact ⟨rfl, rfl, rfl, rfl, rfl⟩
  have keep1 : ∀ y o, σ y = some o → ¬ D.foot y → σ1 y = some o := fun y o q nf => by
    rw [← hσ1, AH.set_other fun z => nf (.inr (.inl z))]
    exact Zt q hp
  have addr1 : ∀ y, y ∈ D1.T.map (·.2) → y = p ∨ y ∈ D.T.map (·.2) := fun y q => renew_addr (by rw [hD1]; exact q)
  have fr1 : ∀ {T' : List (Rw × Addr)}, T'.map (·.2) = D1.T.map (·.2) → ∀ y, HD.foot { D1 with T := T' } y → D.foot y ∨ σ y = none := fun {T'} hT y q => by
    rcases q with q | q | q
    · exact .inl (.inl (q.trans sm1.2.2.2.1))
    · exact .inl (.inr (.inl (q.trans sm1.2.2.2.2)))
    · have q : y ∈ T'.map (·.2) := q
      rw [hT] at q
      rcases addr1 y q with w | w
      · exact .inr (by rw [w]; exact hp)
      · exact .inl (.inr (.inr w))
  have some1 : ∀ y, σ y ≠ none → σ1 y ≠ none := fun y q => by
    cases e : σ y with
    | none => exact absurd e q
    | some o =>
      rw [← hσ1]
      by_cases z : y = D.rd
      · rw [z, AH.set_same]; simp
      · rw [AH.set_other z, Zt e hp]; simp
  have none1 : ∀ y, σ1 y = none → σ y = none := fun y q => by
    cases e : σ y with
    | none => rfl
    | some o => exact absurd q (some1 y (by rw [e]; simp))
  have hdeg : ∀ s, deg D1.S s (endS t.1.l t.1.r s) ≤ m := fun s => by
    rw [hS1, deg_map fun _ _ => putH_e]
    cases s with
    | false => exact hdl
    | true => exact hdr
  have hopen : ∀ s, ∃ hu, hu ∈ Yv D1.S s (endS t.1.l t.1.r s) m := fun s => by
    obtain ⟨hu, a, b, c⟩ := exists_free (hdeg s) ⟨_, hxS, by cases s <;> simp [Rw.e, endS, prow], prow.2.2.2⟩
    exact ⟨hu, mem_openL.2 ⟨⟨a, b⟩, c⟩⟩
  refine X8 fun K1 k1 r1 => ?_
  dsimp only [Z3, Z8, tDo, Xa, W7, Zk, Zy, Zx, Zs, Ys, Yi, Yc, Z6, Z4, Zq, Zi, Zo, Zf, Z1, Yh, Zu, Loc.setAll, Loc.set, Loc.bare, Zj, String.reduceBEq, cond_true, cond_false, List.length_cons, List.length_nil, Xh, Ye, Xk, Zc, Zd, Z5, Zp, Z2]
  refine ⟨H1.instOf (by decide +kernel), x, D1, false, t.1.l, m, rfl, H1, hi1, h641, by omega, fun o1 ho1 => ?_⟩
  simp only [AH.set_same]
  have s2 : Sub σ1 (σ1.set o1 (.list ((Yv D1.S false t.1.l m).map V.int))) := Sub.refl.new ho1
  refine ⟨nofun, compT_growS V.int (fun hu => decide (hu ∈ Yv D1.S true t.1.r m)) V.int (Yv D1.S false t.1.l m) (fun σ' hs => hs _ _ AH.set_same) (fun hu _ σ3 s3 => ⟨_, fun P h => h, fun Qb hQ => ?_, fun _ σ4 s4 Qv hQ => ?_⟩) fun σ3 s3 d hd => ?_⟩
  · dsimp only [Z3, Z8, tDo, Xa, W7, Zk, Zy, Zx, Zs, Ys, Yi, Yc, Z6, Z4, Zq, Zi, Zo, Zf, Z1, Yh, Zu, Loc.setAll, Loc.set, Loc.bare, Zj, String.reduceBEq, cond_true, cond_false, List.length_cons, List.length_nil, Xh, Ye, Xk, Zc, Zd, Z5, Zp, Z2]
    have H3 := H1.sub (s2.trans s3)
    refine ⟨H3.instOf (by decide +kernel), x, D1, true, t.1.r, m, rfl, H3, hi1, h641, by omega, fun o2 ho2 => ?_⟩
    exact inD_ints AH.set_same (hQ _ (Sub.refl.new ho2))
  · dsimp only [Z3, Z8, tDo, Xa, W7, Zk, Zy, Zx, Zs, Ys, Yi, Yc, Z6, Z4, Zq, Zi, Zo, Zf, Z1, Yh, Zu, Loc.setAll, Loc.set, Loc.bare, Zj, String.reduceBEq, cond_true, cond_false, List.length_cons, List.length_nil, Xh, Ye, Xk, Zc, Zd, Z5, Zp, Z2]
    exact hQ _ Sub.refl
  generalize hboth : (Yv D1.S false t.1.l m).filter (fun hu => decide (hu ∈ Yv D1.S true t.1.r m)) = both at hd ⊢
  have s4 : Sub σ1 (σ3.set d (.list (both.map V.int))) := (s2.trans s3).new hd
  have hd1 : σ1 d = none := (s2.trans s3).none hd
  refine k1 _ _ ?_
  refine X8 fun K1 k1 r1 => ?_
  dsimp only [Z3, Z8, tDo, Xa, W7, Zk, Zy, Zx, Zs, Ys, Yi, Yc, Z6, Z4, Zq, Zi, Zo, Zf, Z1, Yh, Zu, Loc.setAll, Loc.set, Loc.bare, Zj, String.reduceBEq, cond_true, cond_false, List.length_cons, List.length_nil, Xh, Ye, Xk, Zc, Zd, Z5, Zp, Z2]
  refine ⟨by simp [Ym], fun e he => ?_⟩
  have s5 : Sub σ1 ((σ3.set d (.list (both.map V.int))).set e (.list [])) := s4.new he
  have hbe : ((σ3.set d (.list (both.map V.int))).set e (.list [])) d = some (.list (both.map V.int)) := Zt AH.set_same he
  refine eqD_ints (ns := both) (ms := []) hbe AH.set_same ?_
  generalize hσ5 : (σ3.set d (.list (both.map V.int))).set e (.list []) = σ5 at s5 hbe
  have H5 := H1.sub s5
  cases both with
  | cons hu both =>
    have hbn : ((hu :: both) == ([] : List Int)) = false := rfl
    simp only [hbn, Bool.not_false]
    have hmem : hu ∈ Yv D1.S false t.1.l m ∧ hu ∈ Yv D1.S true t.1.r m := by
      have : hu ∈ (Yv D1.S false t.1.l m).filter (fun hu => decide (hu ∈ Yv D1.S true t.1.r m)) := by rw [hboth]; simp
      simpa using List.mem_filter.1 this
    refine X8 fun K2 k2 r2 => ?_
    dsimp only [Z3, Z8, tDo, Xa, W7, Zk, Zy, Zx, Zs, Ys, Yi, Yc, Z6, Z4, Zq, Zi, Zo, Zf, Z1, Yh, Zu, Loc.setAll, Loc.set, Loc.bare, Zj, String.reduceBEq, cond_true, cond_false, List.length_cons, List.length_nil, Xh, Ye, Xk, Zc, Zd, Z5, Zp, Z2]
    have hit : ∀ (Q : V → Prop), Q (.ref p) → itemV (.ref D1.rd) (.int t.1.n) σ5 Q := fun Q hQ => by
      have := H5.item hi1 ht1 (Q := Q) hQ
      rw [prow.1] at this; exact this
    refine itemL hbe (Xx (by decide) rfl) ?_
    simp only [H5.rowsA]
    refine hit _ ?_
    simp only [setItemV, H5.row _ ht1]
    refine ⟨2, rfl, by simp [rowL], k2 _ _ ?_⟩
    have H6 := H5.setHue hi1 ht1 (some hu)
    have hrow : ((rowL (Wz t.1.n none t.1)).set 2 (V.int hu)) = rowL { Wz t.1.n none t.1 with h := some hu } := by simp [rowL, hueV]
    rw [hrow]
    rw [prow.1] at H6
    have dp : d ≠ p := fun z => by have := H1.row _ ht1; rw [← z, hd1] at this; cases this
    have hbd : (σ5.set p (.list (rowL { Wz t.1.n none t.1 with h := some hu }))) d = some (.list ((hu :: both).map V.int)) := by rw [AH.set_other dp]; exact hbe
    generalize hσ6 : σ5.set p (.list (rowL { Wz t.1.n none t.1 with h := some hu })) = σ6 at H6 hbd
    refine Xl fun K2 r2 => ?_
    dsimp only [Z3, Z8, tDo, Xa, W7, Zk, Zy, Zx, Zs, Ys, Yi, Yc, Z6, Z4, Zq, Zi, Zo, Zf, Z1, Yh, Zu, Loc.setAll, Loc.set, Loc.bare, Zj, String.reduceBEq, cond_true, cond_false, List.length_cons, List.length_nil, Xh, Ye, Xk, Zc, Zd, Z5, Zp, Z2]
    refine itemL hbd (Xx (by decide) rfl) ?_
    refine ⟨by simp [Ym], fun c hc => ⟨by simp [Ym], r2 _ _ _ (r1 _ _ _ (kret _ _ _ _ Sub.refl ?_))⟩⟩
    have keep6 : ∀ y o, σ y = some o → ¬ D.foot y → σ6 y = some o := fun y o q nf => by
      rw [← hσ6, AH.set_other fun z => by rw [z, hp] at q; cases q]
      exact s5 _ _ (keep1 y o q nf)
    have none6 : ∀ y, σ6 y = none → σ1 y = none := fun y q => by
      rw [← hσ6] at q
      by_cases z : y = p
      · rw [z, AH.set_same] at q; cases q
      · rw [AH.set_other z] at q; exact s5.none q
    refine h (σ6.set c (.list [])) (D1.put t.1.n (some hu)) hu none [] c (H6.sub (Sub.refl.new hc)) ⟨fun y o q nf => Zt (keep6 y o q nf) hc, fr1 HD.put_addr, ⟨sm1.1, sm1.2.1, sm1.2.2.1⟩, fun y q => none1 y (none6 y ((Sub.refl.new hc).none q))⟩ (.inl rfl rfl hmem.1 hmem.2 HD.put_S (by rw [hboth]; rfl)) (none1 c (none6 c hc)) (fun q => ?_) AH.set_same
    rcases q with q | q | q
    · have := H6.attrs; rw [← q, hc] at this; cases this
    · obtain ⟨_, this⟩ := H6.rows; rw [← q, hc] at this; cases this
    · obtain ⟨u, hu', rfl⟩ := List.mem_map.1 q
      have := H6.row u hu'; rw [hc] at this; cases this
  | nil =>
    have hdis : ∀ hu ∈ Yv D1.S false t.1.l m, hu ∉ Yv D1.S true t.1.r m := fun hu h1 h2 => by
      have : hu ∈ (Yv D1.S false t.1.l m).filter (fun hu => decide (hu ∈ Yv D1.S true t.1.r m)) := List.mem_filter.2 ⟨h1, by simpa using h2⟩
      rw [hboth] at this; cases this
    simp only [BEq.rfl, Bool.not_true]
    refine k1 _ _ ?_
    refine X8 fun K1 k1 r1 => ?_
    dsimp only [Z3, Z8, tDo, Xa, W7, Zk, Zy, Zx, Zs, Ys, Yi, Yc, Z6, Z4, Zq, Zi, Zo, Zf, Z1, Yh, Zu, Loc.setAll, Loc.set, Loc.bare, Zj, String.reduceBEq, cond_true, cond_false, List.length_cons, List.length_nil, Xh, Ye, Xk, Zc, Zd, Z5, Zp, Z2]
    refine ⟨H5.instOf (by decide +kernel), x, D1, t.1.l, t.1.r, m, rfl, H5, hi1, h641, hp0, hm, hdis, fun σ6 w es s6 hw5 hw6 hways hgot => ?_⟩
    have hes : es ≠ [] := by
      obtain ⟨a, ha⟩ := hopen false
      obtain ⟨b, hb⟩ := hopen true
      obtain ⟨⟨q, hq, _⟩, _⟩ := hgot a ha b hb
      intro z; rw [z] at hq; cases hq
    have uniq : ∀ q ∈ es, ∀ q' ∈ es, q.2.1 = q'.2.1 → q.2.2.1 = q'.2.2.1 → ∀ {s s' c c'}, q.2.1 ∈ Yv D1.S (!s) (endS t.1.l t.1.r (!s)) m → q.2.2.1 ∈ Yv D1.S s (endS t.1.l t.1.r s) m → W0 D1.S s (endS t.1.l t.1.r s) q.2.2.1 q.2.1 c → PDone D1.S s (endS t.1.l t.1.r s) q.2.2.1 q.2.1 c →
        q'.2.1 ∈ Yv D1.S (!s') (endS t.1.l t.1.r (!s')) m → q'.2.2.1 ∈ Yv D1.S s' (endS t.1.l t.1.r s') m → W0 D1.S s' (endS t.1.l t.1.r s') q'.2.2.1 q'.2.1 c' → PDone D1.S s' (endS t.1.l t.1.r s') q'.2.2.1 q'.2.1 c' → c = c' := by
      intro q _ q' _ z1 z2 s s' c c' a1 a2 a3 a4 b1 b2 b3 b4
      rw [← z1, ← z2] at b3 b4
      rw [← z1] at b1
      rw [← z2] at b2
      have hs : s = s' := by
        cases s <;> cases s'
        · rfl
        · exact absurd a1 (hdis _ b1)
        · exact absurd b1 (hdis _ a1)
        · rfl
      subst hs
      exact a3.unique hp0 hi1 a4 b3 b4
    refine ⟨w, es, rfl, hw6, hes, fun q hq => ?_, fun q hq hmin => ?_⟩
    · obtain ⟨⟨s, c, z1, z2, z3, z4, z5, z6⟩, _⟩ := hways q hq
      refine ⟨c.map Rw.n, by rw [z2, List.map_map]; rfl, fun q' hq' htri => ?_⟩
      obtain ⟨⟨s', c', y1, y2, y3, y4, y5, y6⟩, _⟩ := hways q' hq'
      simp only [tri, Prod.mk.injEq] at htri
      have := uniq q hq q' hq' htri.2.1 htri.2.2 z3 z4 z5 z6 y3 y4 y5 y6
      subst this
      rw [y2, List.map_map]; rfl
    · obtain ⟨⟨s, ch, z1, z2, z3, z4, z5, z6⟩, zc⟩ := hways q hq
      obtain ⟨ql, qh, qo, qc⟩ := q
      simp only at z1 z2 z3 z4 z5 z6 zc
      simp only [quad, partsV]
      refine ⟨rfl, ?_⟩
      simp only [Loc.setAll]
      refine k1 _ _ ?_
      have H6 := H5.sub s6
      have hne := open_ne hdis z3 z4
      have hfr := (mem_openL.1 z4).2
      have z2' : σ6 qc = some (.list ((ch.map Rw.n).map V.int)) := by rw [z2, List.map_map]; rfl
      have knot : t.1.n ∉ ch.map Rw.n := fun q => by
        obtain ⟨i, e⟩ := z5.at hi1 hxS (by rw [prow.1]; exact q)
        have := z5.hue i _ e
        rw [prow.2.2.2] at this; cases this
      have qcT : qc ∉ D1.T.map (·.2) := fun q => by
        obtain ⟨u, hu, z⟩ := List.mem_map.1 q
        have := H5.row u hu
        rw [z, zc] at this; cases this
      refine X8 fun K1 k1 r1 => ?_
      dsimp only [Z3, Z8, tDo, Xa, W7, Zk, Zy, Zx, Zs, Ys, Yi, Yc, Z6, Z4, Zq, Zi, Zo, Zf, Z1, Yh, Zu, Loc.setAll, Loc.set, Loc.bare, Zj, String.reduceBEq, cond_true, cond_false, List.length_cons, List.length_nil, Xh, Ye, Xk, Zc, Zd, Z5, Zp, Z2]
      refine ⟨H6.instOf (by decide +kernel), x, D1, qc, ch.map Rw.n, qh, qo, rfl, H6, hi1, z2', qcT, z5.nodup hp0 hi1 hne hfr, fun k hk => ?_, fun σ7 H7 same7 => k1 _ _ ?_⟩
      · obtain ⟨y, hy, rfl⟩ := List.mem_map.1 hk
        obtain ⟨u, hu, rfl⟩ := mem_S (z5.mem y hy)
        obtain ⟨i, hil, ei⟩ := List.getElem_of_mem hy
        exact ⟨u, hu, rfl, _, z5.hue i u.1 (by rw [List.getElem?_eq_getElem hil, ei])⟩
      · have hi7 : Inc (D1.flip (ch.map Rw.n) qh qo).S := inc_flip hi1
        have ht7 : (Wz t.1.n none t.1, p) ∈ (D1.flip (ch.map Rw.n) qh qo).T := List.mem_map.2 ⟨_, ht1, by rw [Wm (by rw [prow.1]; exact knot)]⟩
        refine X8 fun K1 k1 r1 => ?_
        dsimp only [Z3, Z8, tDo, Xa, W7, Zk, Zy, Zx, Zs, Ys, Yi, Yc, Z6, Z4, Zq, Zi, Zo, Zf, Z1, Yh, Zu, Loc.setAll, Loc.set, Loc.bare, Zj, String.reduceBEq, cond_true, cond_false, List.length_cons, List.length_nil, Xh, Ye, Xk, Zc, Zd, Z5, Zp, Z2]
        simp only [H7.rowsA]
        have hit : ∀ (Q : V → Prop), Q (.ref p) → itemV (.ref (D1.flip (ch.map Rw.n) qh qo).rd) (.int t.1.n) σ7 Q := fun Q hQ => by
          have := H7.item hi7 ht7 (Q := Q) hQ
          rw [prow.1] at this; exact this
        refine hit _ ?_
        simp only [setItemV, H7.row _ ht7]
        refine ⟨2, rfl, by simp [rowL], k1 _ _ ?_⟩
        have H8 := H7.setHue hi7 ht7 (some qh)
        have hrow : ((rowL (Wz t.1.n none t.1)).set 2 (V.int qh)) = rowL { Wz t.1.n none t.1 with h := some qh } := by simp [rowL, hueV]
        rw [hrow]
        rw [prow.1] at H8
        have qcp : qc ≠ p := fun z => qcT (List.mem_map.2 ⟨_, ht1, z.symm⟩)
        have g8 : (σ7.set p (.list (rowL { Wz t.1.n none t.1 with h := some qh }))) qc = some (.list ((ch.map Rw.n).map V.int)) := by rw [AH.set_other qcp, same7 qc qcT]; exact z2'
        generalize hσ8 : σ7.set p (.list (rowL { Wz t.1.n none t.1 with h := some qh })) = σ8 at H8 g8
        refine Xl fun K1 r1 => ?_
        dsimp only [Z3, Z8, tDo, Xa, W7, Zk, Zy, Zx, Zs, Ys, Yi, Yc, Z6, Z4, Zq, Zi, Zo, Zf, Z1, Yh, Zu, Loc.setAll, Loc.set, Loc.bare, Zj, String.reduceBEq, cond_true, cond_false, List.length_cons, List.length_nil, Xh, Ye, Xk, Zc, Zd, Z5, Zp, Z2]
        simp only [partsV, g8]
        refine fun c hc => ⟨by simp [Ym], r1 _ _ _ (kret _ _ _ _ Sub.refl ?_)⟩
        have keep8 : ∀ y o, σ y = some o → ¬ D.foot y → σ8 y = some o := fun y o q nf => by
          have yT : y ∉ D1.T.map (·.2) := fun z => by
            rcases addr1 y z with w | w
            · rw [w, hp] at q; cases q
            · exact nf (.inr (.inr w))
          rw [← hσ8, AH.set_other (fun z => by rw [z, hp] at q; cases q), same7 y yT]
          exact s6 _ _ (s5 _ _ (keep1 y o q nf))
        have none8 : ∀ y, σ8 y = none → σ1 y = none := fun y q => by
          rw [← hσ8] at q
          by_cases z : y = p
          · rw [z, AH.set_same] at q; cases q
          · rw [AH.set_other z] at q
            by_cases yT : y ∈ D1.T.map (·.2)
            · obtain ⟨u, hu, rfl⟩ := List.mem_map.1 yT
              have : (flipH (ch.map Rw.n) qh qo u.1, u.2) ∈ (D1.flip (ch.map Rw.n) qh qo).T := List.mem_map.2 ⟨u, hu, rfl⟩
              have := H7.row _ this
              rw [q] at this; cases this
            · rw [same7 y yT] at q; exact s5.none (s6.none q)
        refine h (σ8.set c (.list ((ch.map Rw.n).map V.int))) ((D1.flip (ch.map Rw.n) qh qo).put t.1.n (some qh)) qh (some qo) (ch.map Rw.n) c (H8.sub (Sub.refl.new hc)) ⟨fun y o q nf => Zt (keep8 y o q nf) hc, fr1 (HD.put_addr.trans HD.flip_addr), ⟨sm1.1, sm1.2.1, sm1.2.2.1⟩, fun y q => none1 y (none8 y ((Sub.refl.new hc).none q))⟩ (.inr hdis qo s ch rfl rfl z3 z4 z5 z6 ?_ ?_) (none1 c (none8 c hc)) (fun q => ?_) AH.set_same
        · rw [HD.put_S, HD.flip_S]; rfl
        · intro s' hue' o' ch' y3 y4 y5 y6
          have hg : GotW es hue' o' := by
            cases s' with
            | false => exact (hgot o' y4 hue' y3).2
            | true => exact (hgot hue' y3 o' y4).1
          obtain ⟨q', hq', rfl, rfl⟩ := hg
          obtain ⟨⟨s'', c'', x1, x2, x3, x4, x5, x6⟩, _⟩ := hways q' hq'
          have := uniq q' hq' q' hq' rfl rfl x3 x4 x5 x6 y3 y4 y5 y6
          subst this
          have := hmin q' hq'
          simp only [tri, x1, z1] at this
          exact this
        · rcases q with q | q | q
          · have := H8.attrs; rw [← q, hc] at this; cases this
          · obtain ⟨_, this⟩ := H8.rows; rw [← q, hc] at this; cases this
          · obtain ⟨u, hu', rfl⟩ := List.mem_map.1 q
            have := H8.row u hu'; rw [hc] at this; cases this
end
section
open PySem PySem.W PyProof.Rows
variable {g : Gr} {P : Params}
noncomputable abbrev CB : Addr := 68
noncomputable abbrev CT : Addr := 80
theorem f_need_end (hK : (KK P).In g.b0) (N : NN g) (hX_BadEnd : ExcC g CB) (F_is_number : FnG g "is_number" 2 Z2) : Xm g 3 (.ref 153) (sNeedEnd9 CC CB) := by
  refine Xm.mono (Y2 (r := 2) (ps := ["self", "side", "end"]) (hK 153 _ rfl) rfl (CodeRec.mk' (hK 152 _ rfl) rfl rfl) rfl (by intro vs h; obtain ⟨a0, a1, a2, rfl⟩ := len3 h; rfl) rfl rfl rfl (by decide +kernel)
    (Ze (Wo (Wg (Wi (sndB_not (sndB_value (Z7 (at_ (i := 3) rfl) F_is_number (Zb (Za (at_ (i := 2) rfl) rfl) Zg) rfl) (fun _ _ => rfl))) (Wi (sndB_not (sndB_cmp2 Zh (Za (at_ (i := 2) rfl) rfl) (Zr (Xq hK hC CF.a_sizes rfl rfl (Za (.head _) rfl)) (Za (at_ (i := 1) rfl) rfl) (fun _ _ => rfl)) rfl)) W6))) (Ze (sndS_raise (at_ (i := 4) rfl) (N.n_BadEnd) hX_BadEnd (Zb (sndE_str (fitsS (by decide))) Zg) rfl)
  Zl) Zl)
  Zl)) ?_
  rintro xs σ Q E ⟨x, D, s, v, b, rfl, H, hn, hq, he⟩
  refine Xv rfl fun K KE kret kend kexc => ?_
  simp only [Loc.setAll]
  refine Yj fun K1 k1 => ?_
  have bad : okE (szOf D.a D.b s) v = false → ∀ ℓ' : Loc, KE CB ℓ' σ := fun h ℓ' => kexc _ _ _ _ Sub.refl (he h)
  have fine : okE (szOf D.a D.b s) v = true → ∀ ℓ' : Loc, K1 .next ℓ' σ := fun h ℓ' => k1 _ _ (by dsimp only [Z3, Xa, Zs, Z4, Zq, Zi, Zo, Y9, Yn, Xr, Wh, Zf, tCmp2B, Yh, Zu, Loc.setAll, Loc.set, Loc.bare, Zj, String.reduceBEq, cond_true, cond_false, List.length_cons, List.length_nil, Xh, Zz, tRaise, Zc, Zd, Z5, Zp, Z2]; exact kend _ _ _ Sub.refl (hq h))
  dsimp only [Z3, Xa, Zs, Z4, Zq, Zi, Zo, Y9, Yn, Xr, Wh, Zf, tCmp2B, Yh, Zu, Loc.setAll, Loc.set, Loc.bare, Zj, String.reduceBEq, cond_true, cond_false, List.length_cons, List.length_nil, Xh, Zz, tRaise, Zc, Zd, Z5, Zp, Z2]
  refine ⟨v, b, rfl, hn, ?_⟩
  cases v <;> cases hn
  · exact ⟨by simp, bad rfl _⟩
  · exact ⟨by simp, bad rfl _⟩
  · rename_i e
    simp only [Bool.not_true]
    by_cases h0 : 0 ≤ e
    · simp only [decide_eq_true h0, H.sizesA]
      refine H.size s ?_
      by_cases h1 : e < szOf D.a D.b s
      · simp only [decide_eq_true h1, Bool.not_true]
        exact fine (by simp [okE, h0, h1]) _
      · simp only [decide_eq_false h1, Bool.not_false]
        exact ⟨by simp, bad (by simp [okE, h1]) _⟩
    · simp only [decide_eq_false h0, Bool.not_false]
      exact ⟨by simp, bad (by simp [okE, h0]) _⟩
  · exact ⟨by simp, bad rfl _⟩
theorem f_init (hK : (KK P).In g.b0) (N : NN g) (F_is_number : FnG g "is_number" 2 Zz) : Xm g 3 (.ref 146) (sInit CC) := by
  refine Xm.mono (Y2 (r := 2) (ps := ["self", "lefts", "rights"]) (hK 146 _ rfl) rfl (CodeRec.mk' (hK 145 _ rfl) rfl rfl) rfl (by intro vs h; obtain ⟨a0, a1, a2, rfl⟩ := len3 h; rfl) rfl rfl rfl (by decide +kernel)
    (Ze (Wv (Xb (Yo (Zb (Za (at_ (i := 1) rfl) rfl) (Zb (Za (at_ (i := 2) rfl) rfl) Zg)))) (.name (at_ (i := 3) rfl) rfl) (Ze (Wo (Wg (Wi (sndB_not (sndB_value (Z7 (at_ (i := 4) rfl) F_is_number (Zb (Za (at_ (i := 3) rfl) rfl) Zg) rfl) (fun _ _ => rfl))) (Wi (sndB_not (sndB_cmp2 Zh (Za (at_ (i := 3) rfl) rfl) (Y6 (at_ (i := 5) rfl) (N.n_MOST_ENDS) (fun _ => Yl.mpr ⟨_, rfl⟩)) rfl)) W6))) (Ze sndS_dead
  Zl) Zl)
  Zl) (fun _ _ => rfl))
  (Ze (sndS_setAttr hK hC CF.t_sizes (Za (.head _) rfl) (sndE_dict2 unmoved_const unmoved_name unmoved_const unmoved_name (Y6 (at_ (i := 7) rfl) (N.n_LEFT) (fun _ => Xp.mpr ⟨fitsS (by decide), _, rfl⟩)) (Za (at_ (i := 1) rfl) rfl) (Y6 (at_ (i := 8) rfl) (N.n_RIGHT) (fun _ => Xp.mpr ⟨fitsS (by decide), _, rfl⟩)) (Za (at_ (i := 2) rfl) rfl)) (fun _ => rfl))
  (Ze (sndS_setAttr hK hC CF.t_rows (Za (.head _) rfl) sndE_dict0 (fun _ => rfl))
  (Ze (sndS_setAttr hK hC CF.t_next_number (Za (.head _) rfl) Zh (fun _ => rfl))
  Zl))))) ?_
  rintro xs σ Q E ⟨x, d, a, b, rfl, ha1, ha2, hb1, hb2, hx, hd, h⟩
  refine Xv rfl fun K KE kret kend _ => ?_
  simp only [Loc.setAll]
  refine Yj fun K1 k1 => ?_
  dsimp only [Z3, Xa, Yy, Zy, Zx, Zs, Z6, Z4, Zq, Zi, Zo, Y9, Yn, Xr, Wh, Zf, tCmp2B, Yh, Loc.setAll, Loc.set, Loc.bare, Zj, String.reduceBEq, cond_true, cond_false, List.length_cons, List.length_nil, Wn, tDict0, tDict2, Zz, Zc, Zd, Z5, Zp, Z2]
  refine ⟨by simp [Ym], nofun, ?_⟩
  refine loopT_k (fun xs ℓ σ' => ∀ P0 : Prop, (∀ ns : List Int, (xs = ns.map V.int) → ((∀ n ∈ ns, 1 ≤ n ∧ n ≤ 8)) → (σ' = σ) → (ℓ "self" = some (.ref x)) → (ℓ "lefts" = some (.int a)) → (ℓ "rights" = some (.int b)) → P0) → P0) ?_ ?_
    (fun _ kI => kI ([a, b]) (rfl) (by simp; omega) (rfl) (rfl) (rfl) (rfl))
  · intro ℓ σ' hI0
    refine hI0 _ fun ns _ _ hrf3 e1 e2 e3 => ?_
    obtain rfl := hrf3
    refine ⟨trivial, k1 _ _ ?_⟩
    refine Yj fun K1 k1 => ?_
    dsimp only [Z3, Xa, Yy, Zy, Zx, Zs, Z6, Z4, Zq, Zi, Zo, Y9, Yn, Xr, Wh, Zf, tCmp2B, Yh, Loc.setAll, Loc.set, Loc.bare, Zj, String.reduceBEq, cond_true, cond_false, List.length_cons, List.length_nil, Wn, tDict0, tDict2, Zz, Zc, Zd, Z5, Zp, Z2]
    simp only [e1, e2, e3]
    refine ⟨_, _, rfl, rfl, left_ne_right, fun sd ep hsd => ?_⟩
    have hdsd : d ≠ sd := fun z => by rw [← z, hd] at hsd; cases hsd
    have hxsd : x ≠ sd := fun z => by rw [← z, hx] at hsd; cases hsd
    have hxd : x ≠ d := fun z => by rw [z, hd] at hx; cases hx
    refine ⟨x, d, [], rfl, Zt hx hsd, Zt hd hsd, by simp [Ym], k1 _ _ ?_⟩
    generalize hσ1 : ((σ'.set sd (.dictS [(Str.ofString "left", .int a), (Str.ofString "right", .int b)] ep)).set d (.attrs [(Str.ofString "sizes", .ref sd)])) = σ1
    have x1 : σ1 x = some (.inst CC d) := by rw [← hσ1, AH.set_other hxd]; exact Zt hx hsd
    have d1 : σ1 d = some (.attrs [(Str.ofString "sizes", .ref sd)]) := by rw [← hσ1]; exact AH.set_same
    have sd1 : σ1 sd = some (.dictS [(Str.ofString "left", .int a), (Str.ofString "right", .int b)] ep) := by rw [← hσ1, AH.set_other (Ne.symm hdsd)]; exact AH.set_same
    have kp1 : ∀ y o, σ' y = some o → y ≠ d → σ1 y = some o := fun y o q n => by rw [← hσ1, AH.set_other n]; exact Zt q hsd
    refine Yj fun K1 k1 => ?_
    dsimp only [Z3, Xa, Yy, Zy, Zx, Zs, Z6, Z4, Zq, Zi, Zo, Y9, Yn, Xr, Wh, Zf, tCmp2B, Yh, Loc.setAll, Loc.set, Loc.bare, Zj, String.reduceBEq, cond_true, cond_false, List.length_cons, List.length_nil, Wn, tDict0, tDict2, Zz, Zc, Zd, Z5, Zp, Z2]
    simp only [e1]
    refine fun rd ep2 hrd => ⟨x, d, _, rfl, Zt x1 hrd, Zt d1 hrd, by simp [Ym], k1 _ _ ?_⟩
    have hdrd : d ≠ rd := fun z => by rw [← z, d1] at hrd; cases hrd
    have hsrd : sd ≠ rd := fun z => by rw [← z, sd1] at hrd; cases hrd
    generalize hσ2 : ((σ1.set rd (.dictI [] ep2)).set d (.attrs [(Str.ofString "rows", .ref rd), (Str.ofString "sizes", .ref sd)])) = σ2
    have x2 : σ2 x = some (.inst CC d) := by rw [← hσ2, AH.set_other hxd]; exact Zt x1 hrd
    have d2 : σ2 d = some (.attrs [(Str.ofString "rows", .ref rd), (Str.ofString "sizes", .ref sd)]) := by rw [← hσ2]; exact AH.set_same
    have sd2 : σ2 sd = some (.dictS [(Str.ofString "left", .int a), (Str.ofString "right", .int b)] ep) := by rw [← hσ2, AH.set_other (Ne.symm hdsd)]; exact Zt sd1 hrd
    have rd2 : σ2 rd = some (.dictI [] ep2) := by rw [← hσ2, AH.set_other (Ne.symm hdrd)]; exact AH.set_same
    have kp2 : ∀ y o, σ1 y = some o → y ≠ d → σ2 y = some o := fun y o q n => by rw [← hσ2, AH.set_other n]; exact Zt q hrd
    refine Yj fun K1 k1 => ?_
    dsimp only [Z3, Xa, Yy, Zy, Zx, Zs, Z6, Z4, Zq, Zi, Zo, Y9, Yn, Xr, Wh, Zf, tCmp2B, Yh, Loc.setAll, Loc.set, Loc.bare, Zj, String.reduceBEq, cond_true, cond_false, List.length_cons, List.length_nil, Wn, tDict0, tDict2, Zz, Zc, Zd, Z5, Zp, Z2]
    simp only [e1]
    refine ⟨x, d, _, rfl, x2, d2, by simp [Ym], k1 _ _ ?_⟩
    dsimp only [Z3, Xa, Yy, Zy, Zx, Zs, Z6, Z4, Zq, Zi, Zo, Y9, Yn, Xr, Wh, Zf, tCmp2B, Yh, Loc.setAll, Loc.set, Loc.bare, Zj, String.reduceBEq, cond_true, cond_false, List.length_cons, List.length_nil, Wn, tDict0, tDict2, Zz, Zc, Zd, Z5, Zp, Z2]
    refine kend _ _ _ Sub.refl (h _ ⟨[], a, b, 0, d, rd, sd, [(Str.ofString "next_number", .int 0), (Str.ofString "rows", .ref rd), (Str.ofString "sizes", .ref sd)]⟩ ⟨(AH.set_other hxd).trans x2, AH.set_same, ?_, ?_, ?_, ?_, by simp, ⟨ep2, (AH.set_other (Ne.symm hdrd)).trans rd2⟩, fun t ht => absurd ht (by simp), by simp, ⟨ep, (AH.set_other (Ne.symm hdsd)).trans sd2⟩⟩ rfl rfl rfl rfl rfl ?_ fun y o q n => by rw [AH.set_other n]; exact kp2 y o (kp1 y o q n) n)
    · kernel_rfl
    · kernel_rfl
    · kernel_rfl
    · intro p hp
      simp at hp
      rcases hp with rfl | rfl | rfl <;> simp
    · show σ' rd = none
      cases q : σ' rd with
      | none => rfl
      | some o => rw [kp1 rd o q (Ne.symm hdrd)] at hrd; cases hrd
  · intro v xs ℓ σ' K2 k2 r2 hI0
    refine hI0 _ fun ns h1 h2 hrf3 e1 e2 e3 => ?_
    obtain rfl := hrf3
    obtain ⟨n, ns, rfl, rfl, rfl⟩ := map_cons_inv h1
    have hn := h2 n (.head _)
    refine ⟨trivial, ?_⟩
    simp only [Zj]
    refine Yj fun K3 k3 => ?_
    dsimp only [Z3, Xa, Yy, Zy, Zx, Zs, Z6, Z4, Zq, Zi, Zo, Y9, Yn, Xr, Wh, Zf, tCmp2B, Yh, Loc.setAll, Loc.set, Loc.bare, Zj, String.reduceBEq, cond_true, cond_false, List.length_cons, List.length_nil, Wn, tDict0, tDict2, Zz, Zc, Zd, Z5, Zp, Z2]
    refine ⟨n, rfl, ?_⟩
    simp only [Bool.not_true, decide_eq_true hn.1, decide_eq_true hn.2]
    exact k3 _ _ (k2 _ _ (fun _ kI => kI (ns) (rfl) (fun n' h' => h2 n' (.tail _ h')) (rfl) (e1) (e2) (e3)))
theorem f_come (hK : (KK P).In g.b0) (N : NN g) (hX_TooMany : ExcC g CT) (M_need_end : FnM g (KK P) CC "need_end" 7 (sNeedEnd9 CC CB)) (M_count : FnM g (KK P) CC "count" 7 (sCount CC)) (M_hued : FnM g (KK P) CC "hued" 7 (sHued CC)) : Xm g 8 (.ref 222) (sCome9 CC CB CT) := by
  refine Xm.mono (Y2 (r := 7) (ps := ["self", "left", "right"]) (hK 222 _ rfl) rfl (CodeRec.mk' (hK 221 _ rfl) rfl rfl) rfl (by intro vs h; obtain ⟨a0, a1, a2, rfl⟩ := len3 h; rfl) rfl rfl rfl (by decide +kernel)
    (Ze (Wl (Yu hK hC M_need_end (Za (.head _) rfl) (Zb (Y6 (at_ (i := 4) rfl) (N.n_LEFT) (fun _ => Xp.mpr ⟨fitsS (by decide), _, rfl⟩)) (Zb (Za (at_ (i := 1) rfl) rfl) Zg)) rfl rfl rfl rfl) (fun _ => rfl))
  (Ze (Wl (Yu hK hC M_need_end (Za (.head _) rfl) (Zb (Y6 (at_ (i := 5) rfl) (N.n_RIGHT) (fun _ => Xp.mpr ⟨fitsS (by decide), _, rfl⟩)) (Zb (Za (at_ (i := 2) rfl) rfl) Zg)) rfl rfl rfl rfl) (fun _ => rfl))
  (Ze (Wo (Y3 (Z7 (at_ (i := 6) rfl) (Xc N.n_len Wp) (Zb (Xq hK hC CF.a_rows rfl rfl (Za (.head _) rfl)) Zg) rfl) (Y6 (at_ (i := 7) rfl) (N.n_MOST_PAIRS) (fun _ => Yl.mpr ⟨_, rfl⟩)) rfl) (Ze (sndS_raise (at_ (i := 8) rfl) (N.n_TooMany) hX_TooMany (Zb (sndE_str (fitsS (by decide))) Zg) rfl)
  Zl) Zl)
  (Ze (Z9 (at_ (i := 3) rfl) rfl (Xq hK hC CF.a_next_number rfl rfl (Za (.head _) rfl)) (fun _ => rfl))
  (Ze (sndS_setAttr hK hC CF.t_next_number (Za (.head _) rfl) (Yk (Za (at_ (i := 3) rfl) rfl) Zh) (fun _ => rfl))
  (Ze (sndS_setItem (Xq hK hC CF.a_rows rfl rfl (Za (.head _) rfl)) (Za (at_ (i := 3) rfl) rfl) (Xo (Zb (Za (at_ (i := 1) rfl) rfl) (Zb (Za (at_ (i := 2) rfl) rfl) (Zb sndE_none Zg)))) (fun _ => rfl))
  (Ze (Zw (Yu hK hC M_hued (Za (.head _) rfl) (Zb (Za (at_ (i := 3) rfl) rfl) (Zb (Za (at_ (i := 1) rfl) rfl) (Zb (Za (at_ (i := 2) rfl) rfl) (Zb (Yu hK hC M_count (Za (.head _) rfl) Zg rfl rfl rfl rfl) Zg)))) rfl rfl rfl rfl))
  Zl)))))))) ?_
  rintro xs σ Q E ⟨x, D, u, v, m, b1, b2, rfl, H, W, hnx, hlen, n1, n2, he, ht, h⟩
  refine Xv rfl fun K KE kret kend kexc => ?_
  simp only [Loc.setAll]
  refine X8 fun K1 k1 r1 => ?_
  dsimp only [Z3, Z8, tDo, Xa, Zm, Zs, Xf, Xg, Yc, Z4, Zq, Zi, Zo, Zf, Z1, Yh, Xj, Xd, Loc.setAll, Loc.set, Loc.bare, Zj, String.reduceBEq, cond_true, cond_false, List.length_cons, List.length_nil, Xh, Ye, Xk, Wn, tRaise, Zc, Zd, Z5, Zp, Z2]
  refine ⟨H.instOf (by decide +kernel), x, D, false, u, b1, rfl, H, n1, fun o1 => k1 _ _ ?_, fun o1 => kexc _ _ _ _ Sub.refl (he (by have o1 : okE D.a u = false := o1; rw [o1]; rfl))⟩
  have o1 : okE D.a u = true := o1
  refine X8 fun K1 k1 r1 => ?_
  dsimp only [Z3, Z8, tDo, Xa, Zm, Zs, Xf, Xg, Yc, Z4, Zq, Zi, Zo, Zf, Z1, Yh, Xj, Xd, Loc.setAll, Loc.set, Loc.bare, Zj, String.reduceBEq, cond_true, cond_false, List.length_cons, List.length_nil, Xh, Ye, Xk, Wn, tRaise, Zc, Zd, Z5, Zp, Z2]
  refine ⟨H.instOf (by decide +kernel), x, D, true, v, b2, rfl, H, n2, fun o2 => k1 _ _ ?_, fun o2 => kexc _ _ _ _ Sub.refl (he (by have o2 : okE D.b v = false := o2; rw [o2, Bool.and_false]))⟩
  have o2 : okE D.b v = true := o2
  obtain ⟨l, rfl, hl⟩ := okE_int o1
  obtain ⟨r, rfl, hr⟩ := okE_int o2
  refine X8 fun K1 k1 r1 => ?_
  obtain ⟨ep, er⟩ := H.rows
  dsimp only [Z3, Z8, tDo, Xa, Zm, Zs, Xf, Xg, Yc, Z4, Zq, Zi, Zo, Zf, Z1, Yh, Xj, Xd, Loc.setAll, Loc.set, Loc.bare, Zj, String.reduceBEq, cond_true, cond_false, List.length_cons, List.length_nil, Xh, Ye, Xk, Wn, tRaise, Zc, Zd, Z5, Zp, Z2]
  simp only [H.rowsA, er, List.length_map]
  by_cases h40' : (40 : Int) ≤ (D.T.length : Int)
  · simp only [decide_eq_true h40']
    exact ⟨by simp, kexc _ _ _ _ Sub.refl (ht (by rw [o1, o2]; rfl) (by omega))⟩
  have hlen : D.T.length < 40 := by omega
  replace h := h l r rfl rfl hl hr hlen
  simp only [decide_eq_false h40']
  refine k1 _ _ ?_
  refine X8 fun K1 k1 r1 => ?_
  dsimp only [Z3, Z8, tDo, Xa, Zm, Zs, Xf, Xg, Yc, Z4, Zq, Zi, Zo, Zf, Z1, Yh, Xj, Xd, Loc.setAll, Loc.set, Loc.bare, Zj, String.reduceBEq, cond_true, cond_false, List.length_cons, List.length_nil, Xh, Ye, Xk, Wn, tRaise, Zc, Zd, Z5, Zp, Z2]
  simp only [H.nextA]
  refine k1 _ _ ?_
  refine X8 fun K1 k1 r1 => ?_
  dsimp only [Z3, Z8, tDo, Xa, Zm, Zs, Xf, Xg, Yc, Z4, Zq, Zi, Zo, Zf, Z1, Yh, Xj, Xd, Loc.setAll, Loc.set, Loc.bare, Zj, String.reduceBEq, cond_true, cond_false, List.length_cons, List.length_nil, Xh, Ye, Xk, Wn, tRaise, Zc, Zd, Z5, Zp, Z2]
  have hnx0 := W.nx
  refine ⟨x, D.d, D.kvs, rfl, H.inst, H.attrs, by have := H.few; unfold Ym; omega, k1 _ _ ?_⟩
  have H1 := H.setNext hnx0.1
  generalize hσ1 : σ.set D.d (.attrs ((Str.ofString "next_number", .int (D.nx + 1)) :: D.kvs)) = σ1 at H1
  generalize hD1 : ({ D with nx := D.nx + 1, kvs := (Str.ofString "next_number", .int (D.nx + 1)) :: D.kvs } : HD) = D1 at H1
  have hT1 : D1.T = D.T ∧ D1.a = D.a ∧ D1.b = D.b ∧ D1.nx = D.nx + 1 ∧ D1.d = D.d ∧ D1.rd = D.rd := by rw [← hD1]; exact ⟨rfl, rfl, rfl, rfl, rfl, rfl⟩
  have hS1 : D1.S = D.S := by unfold HD.S; rw [hT1.1]
  refine X8 fun K1 k1 r1 => ?_
  dsimp only [Z3, Z8, tDo, Xa, Zm, Zs, Xf, Xg, Yc, Z4, Zq, Zi, Zo, Zf, Z1, Yh, Xj, Xd, Loc.setAll, Loc.set, Loc.bare, Zj, String.reduceBEq, cond_true, cond_false, List.length_cons, List.length_nil, Xh, Ye, Xk, Wn, tRaise, Zc, Zd, Z5, Zp, Z2]
  refine ⟨by simp [Ym], fun p hp => ?_⟩
  have H2 := H1.sub (Sub.refl.new (o := .list [V.int l, V.int r, V.none]) hp)
  simp only [H2.rowsA]
  obtain ⟨e0, er0⟩ := H2.rows
  simp only [setItemV, er0]
  refine ⟨_, rfl, by rw [hT1.1]; simp [Ym]; omega, fun ep2 => k1 _ _ ?_⟩
  have hbel : ∀ t ∈ D1.T, t.1.n ≠ D.nx := fun t ht => by
    have := W.below t.1 (List.mem_map.2 ⟨t, by rw [← hT1.1]; exact ht, rfl⟩); omega
  have H3 := H1.addRow (w := ⟨D.nx, l, r, none⟩) hbel hp ep2
  have hrl : rowL ⟨D.nx, l, r, none⟩ = [V.int l, V.int r, V.none] := rfl
  rw [hrl] at H3
  simp only at H3
  generalize hσ3 : (σ1.set p (.list [V.int l, V.int r, V.none])).set D1.rd (.dictI (putD (D1.T.map fun t => (t.1.n, V.ref t.2)) D.nx (.ref p)) ep2) = σ3 at H3
  have hS3 : (D1.add ⟨D.nx, l, r, none⟩ p).S = D.S ++ [⟨D.nx, l, r, none⟩] := by rw [HD.add_S, hS1]
  obtain ⟨hinc, hprop⟩ := W.good.comeInc (x := ⟨D.nx, l, r, none⟩) W.below rfl
  have hinr : InR (D.S ++ [⟨D.nx, l, r, none⟩]) D.a D.b := fun y hy s => by
    rcases List.mem_append.1 hy with q | q
    · exact W.good.inr y q s
    · rw [List.mem_singleton.1 q]; cases s
      · exact hl
      · exact hr
  have h64 : (D1.add ⟨D.nx, l, r, none⟩ p).T.length < 64 := by simp [HD.add, hT1.1]; omega
  have hai : (D1.add ⟨D.nx, l, r, none⟩ p).a = D.a ∧ (D1.add ⟨D.nx, l, r, none⟩ p).b = D.b := ⟨hT1.2.1, hT1.2.2.1⟩
  refine Xl fun K1 r1 => ?_
  dsimp only [Z3, Z8, tDo, Xa, Zm, Zs, Xf, Xg, Yc, Z4, Zq, Zi, Zo, Zf, Z1, Yh, Xj, Xd, Loc.setAll, Loc.set, Loc.bare, Zj, String.reduceBEq, cond_true, cond_false, List.length_cons, List.length_nil, Xh, Ye, Xk, Wn, tRaise, Zc, Zd, Z5, Zp, Z2]
  have ha8 := W.a8
  have hb8 := W.b8
  refine ⟨H3.instOf (by decide +kernel), H3.instOf (by decide +kernel), x, D1.add ⟨D.nx, l, r, none⟩ p, rfl, H3, by rw [hS3]; exact hinc, h64, by rw [hai.1]; omega, by rw [hai.1]; omega, by rw [hai.2]; omega, by rw [hai.2]; omega, fun m' hm' => ?_⟩
  rw [hS3, hai.1, hai.2] at hm'
  have hput : (D.S ++ [(⟨D.nx, l, r, none⟩ : Rw)]).map (Wz D.nx none) = D.S ++ [⟨D.nx, l, r, none⟩] := by
    conv => rhs; rw [← List.map_id (D.S ++ [(⟨D.nx, l, r, none⟩ : Rw)])]
    refine List.map_congr_left fun y hy => ?_
    rcases List.mem_append.1 hy with q | q
    · rw [putH_out (by have := W.below y q; omega)]; rfl
    · rw [List.mem_singleton.1 q]; unfold Wz; rw [if_pos rfl]; rfl
  have hm100 : m' ≤ 100 := by have := cnt_le_length hm'; simp [HD.S] at this; omega
  refine ⟨x, D1.add ⟨D.nx, l, r, none⟩ p, (⟨D.nx, l, r, none⟩, p), m', rfl, by simp [HD.add], H3, by rw [hS3]; exact hinc, h64, hm100, by rw [hS3, hput]; exact hprop, by rw [hS3]; exact hm'.all hinr _ _, by rw [hS3]; exact hm'.all hinr _ _, fun σ' D' hue other nums c H' F' hto hc1 hc2 hc3 => r1 _ _ _ (kret _ _ _ _ Sub.refl ?_)⟩
  simp only at hto
  rw [hS3, hput] at hto
  have hH := hto.hued hprop hinc (x := ⟨D.nx, l, r, none⟩) (by simp) rfl rfl rfl rfl
  have hG : Good D'.S D.a D.b m' := W.good.come W.below (fun s => by cases s; exact hl; exact hr) rfl hm' hH
  have sz := F'.sz
  have hka : ∀ y o, σ y = some o → ¬ D.foot y → σ3 y = some o := fun y o q nf => by
    have y1 : y ≠ D.d := fun z => nf (.inl z)
    have y2 : y ≠ D1.rd := fun z => nf (.inr (.inl (z.trans hT1.2.2.2.2.2)))
    have q1 : σ1 y = some o := by rw [← hσ1, AH.set_other y1]; exact q
    rw [← hσ3, AH.set_other y2]; exact Zt q1 hp
  have hp0 : σ p = none := by
    cases e : σ p with
    | none => rfl
    | some o =>
      by_cases z : p = D.d
      · rw [← hσ1, z, AH.set_same] at hp; cases hp
      · rw [← hσ1, AH.set_other z, e] at hp; cases hp
  have hnone : ∀ y, σ3 y = none → σ y = none := fun y q => by
    cases e : σ y with
    | none => rfl
    | some o =>
      rw [← hσ3] at q
      by_cases z : y = D1.rd
      · rw [z, AH.set_same] at q; cases q
      · rw [AH.set_other z] at q
        by_cases z2 : y = D.d
        · have : σ1 y = some (.attrs ((Str.ofString "next_number", .int (D.nx + 1)) :: D.kvs)) := by rw [← hσ1, z2]; exact AH.set_same
          rw [Zt this hp] at q; cases q
        · have : σ1 y = some o := by rw [← hσ1, AH.set_other z2]; exact e
          rw [Zt this hp] at q; cases q
  have hfoot : ∀ y, (D1.add ⟨D.nx, l, r, none⟩ p).foot y → D.foot y ∨ σ y = none := fun y q => by
    rcases q with q | q | q
    · exact .inl (.inl (q.trans hT1.2.2.2.2.1))
    · exact .inl (.inr (.inl (q.trans hT1.2.2.2.2.2)))
    · simp only [HD.add, List.map_append, List.map_cons, List.map_nil, List.mem_append, List.mem_singleton, hT1.1] at q
      rcases q with q | q
      · exact .inl (.inr (.inr q))
      · exact .inr (by rw [q]; exact hp0)
  have ha' : D'.a = D.a := sz.1.trans hai.1
  have hb' : D'.b = D.b := sz.2.1.trans hai.2
  have hn' : D'.nx = D.nx + 1 := sz.2.2.trans hT1.2.2.2.1
  have hsk : D'.S.map sk = D.S.map sk ++ [(D.nx, l, r)] := by rw [hH.sk, List.map_append]; rfl
  refine h σ' D' m' hue other nums c H' ⟨by rw [ha', hb']; exact hG, by rw [ha']; exact W.a8, by rw [hb']; exact W.b8, by rw [hn']; omega, fun y hy => ?_⟩ hn' ha' hb' (fun y o q nf => F'.keep y o (hka y o q nf) fun w => ?_) (fun y q => ?_) (fun y q => hnone y (F'.dom y q)) hsk hto (hnone c hc1) hc2 hc3
  · have : sk y ∈ D.S.map sk ++ [(D.nx, l, r)] := by rw [← hsk]; exact List.mem_map.2 ⟨y, hy, rfl⟩
    rcases List.mem_append.1 this with q | q
    · obtain ⟨z, hz, e⟩ := List.mem_map.1 q
      have e1 : z.n = y.n := by unfold sk at e; simp only [Prod.mk.injEq] at e; exact e.1
      have := W.below z hz
      omega
    · have e := List.mem_singleton.1 q
      unfold sk at e; simp only [Prod.mk.injEq] at e
      omega
  · rcases hfoot y w with v | v
    · exact nf v
    · rw [v] at q; cases q
  · rcases F'.new y q with v | v
    · exact hfoot y v
    · exact .inr (hnone y v)
theorem f_need_pair (hK : (KK P).In g.b0) (N : NN g) (F_is_number : FnG g "is_number" 2 Zz) : Xm g 3 (.ref 229) (sNeedPair CC) := by
  refine Xm.mono (Y2 (r := 2) (ps := ["self", "number"]) (hK 229 _ rfl) rfl (CodeRec.mk' (hK 228 _ rfl) rfl rfl) rfl (by intro vs h; obtain ⟨a0, a1, rfl⟩ := len2 h; rfl) rfl rfl rfl (by decide +kernel)
    (Ze (Wo (Wg (Wi (sndB_not (sndB_value (Z7 (at_ (i := 2) rfl) F_is_number (Zb (Za (at_ (i := 1) rfl) rfl) Zg) rfl) (fun _ _ => rfl))) (Wi (Y3 (Za (at_ (i := 1) rfl) rfl) (Xq hK hC CF.a_rows rfl rfl (Za (.head _) rfl)) rfl) W6))) (Ze sndS_dead
  Zl) Zl)
  Zl)) ?_
  rintro xs σ Q E ⟨x, D, t, rfl, ht, H, h⟩
  refine Xv rfl fun K KE kret kend _ => ?_
  simp only [Loc.setAll]
  refine Yj fun K1 k1 => ?_
  dsimp only [Z3, Xa, Zs, Z4, Zq, Zi, Zo, Y9, Yn, Xr, Wh, Zf, Z1, Yh, Loc.setAll, Loc.set, Loc.bare, Zj, String.reduceBEq, cond_true, cond_false, List.length_cons, List.length_nil, Xh, Zz, Zc, Zd, Z5, Zp, Z2]
  refine ⟨_, rfl, ?_⟩
  obtain ⟨ep, er⟩ := H.rows
  simp only [Bool.not_true, H.rowsA, inD, er]
  have : ((D.T.map fun t => (t.1.n, V.ref t.2)).any fun kv => kv.1 == t.1.n) = true := by
    rw [List.any_eq_true]; exact ⟨_, List.mem_map.2 ⟨t, ht, rfl⟩, by simp⟩
  rw [this]
  simp only [Bool.not_true]
  refine k1 _ _ ?_
  dsimp only [Z3, Xa, Zs, Z4, Zq, Zi, Zo, Y9, Yn, Xr, Wh, Zf, Z1, Yh, Loc.setAll, Loc.set, Loc.bare, Zj, String.reduceBEq, cond_true, cond_false, List.length_cons, List.length_nil, Xh, Zz, Zc, Zd, Z5, Zp, Z2]
  exact kend _ _ _ Sub.refl h
end
section
open PySem PySem.W PyProof.Rows
variable {g : Gr} {P : Params}
theorem f_hue_of (hK : (KK P).In g.b0) (N : NN g) (M_need_pair : FnM g (KK P) CC "need_pair" 3 (sNeedPair CC)) : Xm g 4 (.ref 250) (sHueOf CC) := by
  refine Xm.mono (Y2 (r := 3) (ps := ["self", "number"]) (hK 250 _ rfl) rfl (CodeRec.mk' (hK 249 _ rfl) rfl rfl) rfl (by intro vs h; obtain ⟨a0, a1, rfl⟩ := len2 h; rfl) rfl rfl rfl (by decide +kernel)
    (Ze (Wl (Yu hK hC M_need_pair (Za (.head _) rfl) (Zb (Za (at_ (i := 1) rfl) rfl) Zg) rfl rfl rfl rfl) (fun _ => rfl))
  (Ze (Zw (Zr (Zr (Xq hK hC CF.a_rows rfl rfl (Za (.head _) rfl)) (Za (at_ (i := 1) rfl) rfl) (fun _ _ => rfl)) Zh (fun _ _ => rfl)))
  Zl))) ?_
  rintro xs σ Q E ⟨x, D, t, rfl, ht, H, hi, h⟩
  refine Xv rfl fun K KE kret kend _ => ?_
  simp only [Loc.setAll]
  refine X8 fun K1 k1 r1 => ?_
  dsimp only [Z3, Z8, tDo, Z4, Zq, Zi, Zo, Zf, Zu, Loc.setAll, Loc.set, Loc.bare, Zj, String.reduceBEq, cond_true, cond_false, List.length_cons, List.length_nil, Xh, Ye, Zc, Zd, Z5, Zp, Z2]
  refine ⟨H.instOf (by decide +kernel), x, D, t, rfl, ht, H, k1 _ _ ?_⟩
  refine Xl fun K1 r1 => ?_
  dsimp only [Z3, Z8, tDo, Z4, Zq, Zi, Zo, Zf, Zu, Loc.setAll, Loc.set, Loc.bare, Zj, String.reduceBEq, cond_true, cond_false, List.length_cons, List.length_nil, Xh, Ye, Zc, Zd, Z5, Zp, Z2]
  simp only [H.rowsA]
  exact H.item hi ht (H.item2 ht (r1 _ _ _ (kret _ _ _ _ Sub.refl h)))
theorem f_whole (hK : (KK P).In g.b0) (N : NN g) : Xm g 2 (.ref 328) Zz := by
  refine Xm.mono (Y2 (r := 1) (ps := ["_law_found"]) (hK 328 _ rfl) rfl (CodeRec.mk' (hK 327 _ rfl) rfl rfl) rfl (by intro vs h; obtain ⟨a0, rfl⟩ := len1 h; rfl) rfl rfl rfl (by decide +kernel)
    (Ze (Zw (sndE_boolop (sndV_and (W8 (k := .int) (at_ (i := 1) rfl) (N.n_isinstance) (at_ (i := 2) rfl) (N.n_int) (Za (.head _) rfl) rfl) (sndV_one (sndE_not (W8 (k := .bool) (at_ (i := 1) rfl) (N.n_isinstance) (at_ (i := 3) rfl) (N.n_bool) (Za (.head _) rfl) rfl))))))
  Zl)) ?_
  rintro xs σ Q E ⟨i, rfl, h⟩
  refine Xv rfl fun K KE kret _ _ => ?_
  simp only [Loc.setAll]
  refine Xl fun K1 r1 => ?_
  dsimp only [Z3, Z8, tIsI, isiV, Z4, Zq, Zi, Zo, Yn, Zf, tNot, tAnd, Loc.setAll, Loc.set, Loc.bare, Zj, String.reduceBEq, cond_true, cond_false, List.length_cons, List.length_nil, Zc, Zd, Z5, Zp, Z2]
  exact r1 _ _ _ (kret _ _ _ _ Sub.refl h)
end
section
open PySem PySem.W PyProof.Rows
variable {g : Gr} {P : Params}
theorem f_cell_at (hK : (KK P).In g.b0) (N : NN g) : Xm g 2 (.ref 314) sCellAt := by
  refine Xm.mono (Y2 (r := 1) (ps := ["_law_script", "_law_k"]) (hK 314 _ rfl) rfl (CodeRec.mk' (hK 313 _ rfl) rfl rfl) rfl (by intro vs h; obtain ⟨a0, a1, rfl⟩ := len2 h; rfl) rfl rfl rfl (by decide +kernel)
    (Ze (Wo (Y3 (Za (at_ (i := 1) rfl) rfl) (Z7 (at_ (i := 2) rfl) (Xc N.n_len Wp) (Zb (Za (.head _) rfl) Zg) rfl) rfl) (Ze (Zw (Zr (Za (.head _) rfl) (Za (at_ (i := 1) rfl) rfl) (fun _ _ => rfl)))
  Zl) Zl)
  (Ze (Zw Zh)
  Zl))) ?_
  rintro xs σ Q E ⟨ns, k, rfl, h⟩
  refine Xv rfl fun K KE kret _ _ => ?_
  simp only [Loc.setAll]
  refine X8 fun K1 k1 r1 => ?_
  dsimp only [Z3, Z8, Xa, Zs, Xf, Xg, Z4, Zq, Zi, Zo, Zf, Z1, Yh, Zu, Loc.setAll, Loc.set, Loc.bare, Zj, String.reduceBEq, cond_true, cond_false, List.length_cons, List.length_nil, Zc, Zd, Z5, Zp, Z2]
  simp only [List.length_map]
  by_cases hk : (k : Int) < (ns.length : Int)
  · simp only [decide_eq_true hk]
    refine Xl fun K2 r2 => ?_
    dsimp only [Z3, Z8, Xa, Zs, Xf, Xg, Z4, Zq, Zi, Zo, Zf, Z1, Yh, Zu, Loc.setAll, Loc.set, Loc.bare, Zj, String.reduceBEq, cond_true, cond_false, List.length_cons, List.length_nil, Zc, Zd, Z5, Zp, Z2]
    simp only [itemV, row_at (r := ns) (show k < ns.length by omega)]
    exact r2 _ _ _ (r1 _ _ _ (kret _ _ _ _ Sub.refl (h _)))
  · simp only [decide_eq_false hk]
    refine k1 _ _ ?_
    refine Xl fun K2 r2 => ?_
    dsimp only [Z3, Z8, Xa, Zs, Xf, Xg, Z4, Zq, Zi, Zo, Zf, Z1, Yh, Zu, Loc.setAll, Loc.set, Loc.bare, Zj, String.reduceBEq, cond_true, cond_false, List.length_cons, List.length_nil, Zc, Zd, Z5, Zp, Z2]
    exact r2 _ _ _ (kret _ _ _ _ Sub.refl (h _))
theorem f_mixed (hK : (KK P).In g.b0) (N : NN g) : Xm g 2 (.ref 321) sMixed := by
  refine Xm.mono (Y2 (r := 1) (ps := ["_law_cell", "_law_k"]) (hK 321 _ rfl) rfl (CodeRec.mk' (hK 320 _ rfl) rfl rfl) rfl (by intro vs h; obtain ⟨a0, a1, rfl⟩ := len2 h; rfl) rfl rfl rfl (by decide +kernel)
    (Ze (Zw (Yk (Yk (Yk (Yk (Yk (Za (.head _) rfl) Zh) (Yk (Yk Zh (Za (at_ (i := 1) rfl) rfl)) (Za (at_ (i := 1) rfl) rfl))) (Yk Zh (Za (at_ (i := 1) rfl) rfl))) Zh) Zh))
  Zl)) ?_
  rintro xs σ Q E ⟨c, k, rfl, h0, h1, h⟩
  refine Xv rfl fun K KE kret _ _ => ?_
  simp only [Loc.setAll]
  refine Xl fun K1 r1 => ?_
  dsimp only [Z3, Z8, Z4, Zq, Zi, Zo, Zf, Xj, Xd, Loc.setAll, Loc.set, Loc.bare, Zj, String.reduceBEq, cond_true, cond_false, List.length_cons, List.length_nil, Zc, Zd, Z5, Zp, Z2]
  have hb : Builtin.Int.intBits k ≤ 64 := intBits_le_64 (by omega) (by omega)
  refine ⟨.of_right (by decide), .of_right hb, .of_right hb, .of_right hb, by decide, by decide, r1 _ _ _ (kret _ _ _ _ Sub.refl (h _ ?_))⟩
  exact Int.fdiv_nonneg (Int.fmod_nonneg_of_pos _ (by decide)) (by decide)
theorem f_sizes_by (hK : (KK P).In g.b0) (N : NN g) : Xm g 2 (.ref 335) sSizesBy := by
  refine Xm.mono (Y2 (r := 1) (ps := ["_law_cell"]) (hK 335 _ rfl) rfl (CodeRec.mk' (hK 334 _ rfl) rfl rfl) rfl (by intro vs h; obtain ⟨a0, rfl⟩ := len1 h; rfl) rfl rfl rfl (by decide +kernel)
    (Ze (Z9 (at_ (i := 1) rfl) rfl (Xo (Zb (Yo (Zb Zh (Zb Zh (Zb Zh Zg)))) (Zb (Yo (Zb Zh (Zb Zh (Zb Zh Zg)))) (Zb (Yo (Zb Zh (Zb Zh (Zb Zh Zg)))) (Zb (Yo (Zb Zh (Zb Zh (Zb Zh Zg)))) (Zb (Yo (Zb Zh (Zb Zh (Zb Zh Zg)))) (Zb (Yo (Zb Zh (Zb Zh (Zb Zh Zg)))) (Zb (Yo (Zb Zh (Zb Zh (Zb Zh Zg)))) (Zb (Yo (Zb Zh (Zb Zh (Zb Zh Zg)))) Zg))))))))) (fun _ => rfl))
  (Ze (Zw (Zr (Yk (Za (at_ (i := 1) rfl) rfl) (Xo (Zb (Yo (Zb (Yk Zh (Yk (Yk (Za (.head _) rfl) Zh) Zh)) (Zb (Yk Zh (Yk (Yk (Za (.head _) rfl) Zh) Zh)) (Zb (Yk Zh (Yk (Yk (Za (.head _) rfl) Zh) Zh)) Zg)))) (Zb (Yo (Zb Zh (Zb Zh (Zb Zh Zg)))) Zg)))) (Yk (Za (.head _) rfl) Zh) (fun _ _ => rfl)))
  Zl))) ?_
  rintro xs σ Q E ⟨c, rfl, h⟩
  refine Xv rfl fun K KE kret _ _ => ?_
  simp only [Loc.setAll]
  refine X8 fun K1 k1 r1 => ?_
  dsimp only [Z3, Z8, Zm, Yc, Z6, Z4, Zq, Zi, Zo, Zf, Xj, Xd, Zu, Loc.setAll, Loc.set, Loc.bare, Zj, String.reduceBEq, cond_true, cond_false, List.length_cons, List.length_nil, Zc, Zd, Z5, Zp, Z2]
  have fits3 : Ym (0 + 1 + 1 + 1) := by simp [Ym]
  refine ⟨fits3, fits3, fits3, fits3, fits3, fits3, fits3, fits3, by simp [Ym], fun a ha => k1 _ _ ?_⟩
  refine Xl fun K1 r1 => ?_
  dsimp only [Z3, Z8, Zm, Yc, Z6, Z4, Zq, Zi, Zo, Zf, Xj, Xd, Zu, Loc.setAll, Loc.set, Loc.bare, Zj, String.reduceBEq, cond_true, cond_false, List.length_cons, List.length_nil, Zc, Zd, Z5, Zp, Z2]
  refine ⟨by decide, by decide, by decide, by decide, by decide, by decide, fits3, fits3, by simp [Ym], fun b hb => ⟨_, _, Zt AH.set_same hb, AH.set_same, by simp [Ym], fun d hd => ⟨by decide, ?_⟩⟩⟩
  have h10 := Int.fmod_nonneg_of_pos c (show (0 : Int) < 10 by decide)
  have h11 := Int.fmod_lt_of_pos c (show (0 : Int) < 10 by decide)
  have hq : ∀ z : Int, 1 ≤ 1 + z.fmod 8 ∧ 1 + z.fmod 8 ≤ 8 := fun z => by
    have a := Int.fmod_nonneg_of_pos z (show (0 : Int) < 8 by decide)
    have b := Int.fmod_lt_of_pos z (show (0 : Int) < 8 by decide)
    omega
  obtain ⟨v, hv, hm⟩ := atV_mem (xs := [V.tup [V.int 8, V.int 8, V.int 2], V.tup [V.int 7, V.int 8, V.int 2], V.tup [V.int 6, V.int 6, V.int 3], V.tup [V.int 8, V.int 8, V.int 3], V.tup [V.int 4, V.int 4, V.int 3], V.tup [V.int 3, V.int 3, V.int 40], V.tup [V.int 2, V.int 5, V.int 40], V.tup [V.int 5, V.int 5, V.int 2]] ++
    [V.tup [V.int (1 + (c.fdiv 10).fmod 8), V.int (1 + (c.fdiv 80).fmod 8), V.int (2 + (c.fdiv 640).fmod 7)], V.tup [V.int 8, V.int 8, V.int 40]]) h10 (by simpa using h11)
  refine itemL AH.set_same hv (r1 _ _ _ (kret _ _ _ _ (((Sub.refl.new ha).new hb).new hd) ?_))
  have q1 := hq (c.fdiv 10)
  have q2 := hq (c.fdiv 80)
  simp only [List.cons_append, List.nil_append, List.mem_cons, List.not_mem_nil, or_false] at hm
  rcases hm with rfl | rfl | rfl | rfl | rfl | rfl | rfl | rfl | rfl | rfl <;> exact h _ _ _ (by omega) (by omega) (by omega) (by omega)
end
section
open PySem PySem.W PyProof.Rows
variable {g : Gr} {P : Params}
theorem f_ends (hK : (KK P).In g.b0) (N : NN g) : Xm g 3 (.ref 340) sEnds2 := by
  refine Xm.mono (Y2 (r := 2) (ps := ["_law_cell", "_law_sizes", "_law_rows"]) (hK 340 _ rfl) rfl (CodeRec.mk' (hK 339 _ rfl) rfl rfl) rfl (by intro vs h; obtain ⟨a0, a1, a2, rfl⟩ := len3 h; rfl) rfl rfl rfl (by decide +kernel)
    (Ze (Z9 (at_ (i := 3) rfl) rfl (Xo Zg) (fun _ => rfl))
  (Ze (Wv (sndI_range1 (at_ (i := 8) rfl) (N.n_range) Zh rfl) (.name (at_ (i := 4) rfl) rfl) (Ze (sndS_assignComp (at_ (i := 5) rfl) rfl (by decide +kernel) (sndI_values (Za (at_ (i := 2) rfl) rfl) rfl rfl) (.name (at_ (i := 1) rfl) rfl) (by decide +kernel) sndT_nil (Zr (Za (at_ (i := 1) rfl) rfl) (Za (at_ (i := 2) rfl) rfl) (fun _ _ => rfl)) (fun _ _ => rfl))
  (Ze (Z9 (at_ (i := 6) rfl) rfl (sndE_listRange (at_ (i := 9) rfl) (N.n_list) (at_ (i := 8) rfl) (N.n_range) (Zr (Za (at_ (i := 1) rfl) rfl) (Za (at_ (i := 4) rfl) rfl) (fun _ _ => rfl)) rfl) (fun _ => rfl))
  (Ze (Z9 (at_ (i := 7) rfl) rfl (sndE_boolop (sndV_or (sndE_comp (by decide +kernel) (Xb (Za (at_ (i := 6) rfl) rfl)) (.name (at_ (i := 1) rfl) rfl) (by decide +kernel) (sndT_one (Y3 (mCount (Za (at_ (i := 3) rfl) rfl) (Zb (Za (at_ (i := 1) rfl) rfl) Zg) rfl rfl rfl rfl) (Zr (Za (at_ (i := 2) rfl) rfl) Zh (fun _ _ => rfl)) rfl)) (Za (at_ (i := 1) rfl) rfl) (fun _ _ => rfl)) (sndV_one (Za (at_ (i := 6) rfl) rfl)))) (fun _ => rfl))
  (Ze (Wl (mAppend (Za (at_ (i := 3) rfl) rfl) (Zb (Zr (Za (at_ (i := 7) rfl) rfl) (Yk (Yk (Za (.head _) rfl) (Zr (Xo (Zb Zh (Zb Zh Zg))) (Za (at_ (i := 4) rfl) rfl) (fun _ _ => rfl))) (Z7 (at_ (i := 10) rfl) (Xc N.n_len Wp) (Zb (Za (at_ (i := 7) rfl) rfl) Zg) rfl)) (fun _ _ => rfl)) Zg) rfl rfl rfl rfl) (fun _ => rfl))
  Zl)))) (fun _ _ => rfl))
  (Ze (Zw (Yo (Zb (Zr (Za (at_ (i := 3) rfl) rfl) Zh (fun _ _ => rfl)) (Zb (Zr (Za (at_ (i := 3) rfl) rfl) Zh (fun _ _ => rfl)) Zg))))
  Zl)))) ?_
  rintro xs σ Q E ⟨c, a, b, k, ed, kvs, L, tl, ep, rfl, hed, hvals, ha1, ha2, hb1, hb2, h⟩
  refine Xv rfl fun K KE kret _ _ => ?_
  simp only [Loc.setAll]
  refine Yj fun K1 k1 => ?_
  dsimp only [Z3, Z8, tDo, Zm, Zk, Yy, Zy, Zx, Yd, Yp, Ws, Yq, tCount, Zs, Xf, Xg, Zn, Yi, Yc, Z6, Z4, Zq, Zi, Zo, Yn, Zf, Z1, Yh, Xj, Xd, tOr, Zu, Loc.setAll, Loc.set, Loc.bare, Zj, String.reduceBEq, cond_true, cond_false, List.length_cons, List.length_nil, Z0, tValues, Zc, Zd, Z5, Zp, Z2]
  refine ⟨by simp [Ym], fun f hf => k1 _ _ ?_⟩
  refine Yj fun K1 k1 => ?_
  dsimp only [Z3, Z8, tDo, Zm, Zk, Yy, Zy, Zx, Yd, Yp, Ws, Yq, tCount, Zs, Xf, Xg, Zn, Yi, Yc, Z6, Z4, Zq, Zi, Zo, Yn, Zf, Z1, Yh, Xj, Xd, tOr, Zu, Loc.setAll, Loc.set, Loc.bare, Zj, String.reduceBEq, cond_true, cond_false, List.length_cons, List.length_nil, Z0, tValues, Zc, Zd, Z5, Zp, Z2]
  refine ⟨by decide, by simp [Ym], nofun, ?_⟩
  have hsz : ∀ i : Nat, i < 2 → ∃ n : Int, atV [V.int a, V.int b, V.int k] (i : Int) = some (.int n) ∧ n = (if i = 0 then a else b) ∧ 1 ≤ n ∧ n ≤ 8 := fun i hi => by
    rcases (show i = 0 ∨ i = 1 by omega) with rfl | rfl
    · exact ⟨a, atV_nat rfl, rfl, ha1, ha2⟩
    · exact ⟨b, atV_nat rfl, rfl, hb1, hb2⟩
  refine loopT_rangeK (fun i ℓ σ' => ∀ P0 : Prop, (∀ fs : List Int, (fs.length = i) → ((∀ (j : Nat) v, fs[j]? = some v → 0 ≤ v ∧ v < if j = 0 then a else b)) → (Sub σ σ') → (σ' f = some (.list (fs.map V.int))) → (ℓ "_law_found" = some (.ref f)) → (ℓ "_law_cell" = some (.int c)) → (ℓ "_law_sizes" = some (.tup [.int a, .int b, .int k])) → (ℓ "_law_rows" = some (.ref ed)) → P0) → P0) ?_ ?_
    (fun _ kI => kI ([]) (rfl) (fun j v e => absurd e (by simp)) (Sub.refl.new hf) (AH.set_same) (rfl) (rfl) (rfl) (rfl))
  · intro ℓ σ' hI0
    refine hI0 _ fun fs h1 h2 h3 h4 e1 e2 e3 e4 => ?_
    refine ⟨trivial, k1 _ _ ?_⟩
    obtain ⟨l, r, rfl⟩ : ∃ l r, fs = [l, r] := by
      match fs, h1 with
      | [l, r], _ => exact ⟨l, r, rfl⟩
    have hl := h2 0 l rfl
    have hr := h2 1 r rfl
    refine Xl fun K2 r2 => ?_
    dsimp only [Z3, Z8, tDo, Zm, Zk, Yy, Zy, Zx, Yd, Yp, Ws, Yq, tCount, Zs, Xf, Xg, Zn, Yi, Yc, Z6, Z4, Zq, Zi, Zo, Yn, Zf, Z1, Yh, Xj, Xd, tOr, Zu, Loc.setAll, Loc.set, Loc.bare, Zj, String.reduceBEq, cond_true, cond_false, List.length_cons, List.length_nil, Z0, tValues, Zc, Zd, Z5, Zp, Z2]
    simp only [e1]
    exact itemL h4 (Xx (by decide) rfl) (itemL h4 (Xx (by decide) rfl) ⟨by simp [Ym], r2 _ _ _ (kret _ _ _ _ h3 (h l r hl.1 (by simpa using hl.2) hr.1 (by simpa using hr.2)))⟩)
  · intro i ℓ σ' K2 hi k2 r2 hI0
    refine hI0 _ fun fs h1 h2 h3 h4 e1 e2 e3 e4 => ?_
    have hi2 : i < 2 := hi
    refine ⟨trivial, ?_⟩
    simp only [Zj]
    obtain ⟨n, hn1, hn2, hn3, hn4⟩ := hsz i hi2
    refine Yj fun K3 k3 => ?_
    dsimp only [Z3, Z8, tDo, Zm, Zk, Yy, Zy, Zx, Yd, Yp, Ws, Yq, tCount, Zs, Xf, Xg, Zn, Yi, Yc, Z6, Z4, Zq, Zi, Zo, Yn, Zf, Z1, Yh, Xj, Xd, tOr, Zu, Loc.setAll, Loc.set, Loc.bare, Zj, String.reduceBEq, cond_true, cond_false, List.length_cons, List.length_nil, Z0, tValues, Zc, Zd, Z5, Zp, Z2]
    simp only [e4, h3 _ _ hed]
    refine ⟨nofun, ?_⟩
    rw [hvals]
    refine compT_growE (cntV tl) (fun p => V.int (if i = 0 then p.l else p.r)) L (fun σ2 s2 => s2 _ _ (h3 _ _ hed)) (fun p _ => ⟨_, fun _ _ P h => h, fun σ2 s2 Qv hQ => ?_⟩) fun σ2 s2 tk htk => ?_
    · dsimp only [Z3, Z8, tDo, Zm, Zk, Yy, Zy, Zx, Yd, Yp, Ws, Yq, tCount, Zs, Xf, Xg, Zn, Yi, Yc, Z6, Z4, Zq, Zi, Zo, Yn, Zf, Z1, Yh, Xj, Xd, tOr, Zu, Loc.setAll, Loc.set, Loc.bare, Zj, String.reduceBEq, cond_true, cond_false, List.length_cons, List.length_nil, Z0, tValues, Zc, Zd, Z5, Zp, Z2]
      refine W1 (xs := V.int p.l :: V.int p.r :: tl p) (x := V.int (if i = 0 then p.l else p.r)) ?_ (hQ _ Sub.refl)
      rcases (show i = 0 ∨ i = 1 by omega) with rfl | rfl
      · exact atV_nat rfl
      · exact atV_nat rfl
    have hmap : (L.map fun p => V.int (if i = 0 then p.l else p.r)) = (L.map fun p => if i = 0 then p.l else p.r).map V.int := by rw [List.map_map]; rfl
    rw [hmap]
    generalize htn : (L.map fun p => if i = 0 then p.l else p.r) = tn
    refine k3 _ _ ?_
    have s3 : Sub σ' (σ2.set tk (.list (tn.map V.int))) := s2.new htk
    have ht3 : (σ2.set tk (.list (tn.map V.int))) tk = some (.list (tn.map V.int)) := AH.set_same
    generalize σ2.set tk (.list (tn.map V.int)) = σ3 at s3 ht3
    refine Yj fun K3 k3 => ?_
    dsimp only [Z3, Z8, tDo, Zm, Zk, Yy, Zy, Zx, Yd, Yp, Ws, Yq, tCount, Zs, Xf, Xg, Zn, Yi, Yc, Z6, Z4, Zq, Zi, Zo, Yn, Zf, Z1, Yh, Xj, Xd, tOr, Zu, Loc.setAll, Loc.set, Loc.bare, Zj, String.reduceBEq, cond_true, cond_false, List.length_cons, List.length_nil, Z0, tValues, Zc, Zd, Z5, Zp, Z2]
    simp only [e3]
    refine W1 hn1 ⟨by omega, by unfold Ym; omega, fun ev hev => k3 _ _ ?_⟩
    rw [rangeV_rng]
    have s4 : Sub σ' (σ3.set ev (.list ((Wx n.toNat).map V.int))) := s3.new hev
    have ht4 : (σ3.set ev (.list ((Wx n.toNat).map V.int))) tk = some (.list (tn.map V.int)) := Zt ht3 hev
    have hev4 : (σ3.set ev (.list ((Wx n.toNat).map V.int))) ev = some (.list ((Wx n.toNat).map V.int)) := AH.set_same
    generalize σ3.set ev (.list ((Wx n.toNat).map V.int)) = σ4 at s4 ht4 hev4
    refine Yj fun K3 k3 => ?_
    dsimp only [Z3, Z8, tDo, Zm, Zk, Yy, Zy, Zx, Yd, Yp, Ws, Yq, tCount, Zs, Xf, Xg, Zn, Yi, Yc, Z6, Z4, Zq, Zi, Zo, Yn, Zf, Z1, Yh, Xj, Xd, tOr, Zu, Loc.setAll, Loc.set, Loc.bare, Zj, String.reduceBEq, cond_true, cond_false, List.length_cons, List.length_nil, Z0, tValues, Zc, Zd, Z5, Zp, Z2]
    simp only [hev4]
    refine ⟨nofun, compT_growS V.int (fun e => decide (((tn.count e : Nat) : Int) < k)) V.int (Wx n.toNat) (fun σ5 s5 => s5 _ _ hev4) (fun e _ σ5 s5 => ⟨_, fun P h => h, fun Qb hQ => ?_, fun _ σ6 s6 Qv hQ => ?_⟩) fun σ5 s5 so hso => ?_⟩
    · dsimp only [Z3, Z8, tDo, Zm, Zk, Yy, Zy, Zx, Yd, Yp, Ws, Yq, tCount, Zs, Xf, Xg, Zn, Yi, Yc, Z6, Z4, Zq, Zi, Zo, Yn, Zf, Z1, Yh, Xj, Xd, tOr, Zu, Loc.setAll, Loc.set, Loc.bare, Zj, String.reduceBEq, cond_true, cond_false, List.length_cons, List.length_nil, Z0, tValues, Zc, Zd, Z5, Zp, Z2]
      simp only [s5 _ _ ht4, listInts, intsV_map, e3]
      exact ⟨trivial, W1 (Xx (by decide) rfl) (hQ _ Sub.refl)⟩
    · dsimp only [Z3, Z8, tDo, Zm, Zk, Yy, Zy, Zx, Yd, Yp, Ws, Yq, tCount, Zs, Xf, Xg, Zn, Yi, Yc, Z6, Z4, Zq, Zi, Zo, Yn, Zf, Z1, Yh, Xj, Xd, tOr, Zu, Loc.setAll, Loc.set, Loc.bare, Zj, String.reduceBEq, cond_true, cond_false, List.length_cons, List.length_nil, Z0, tValues, Zc, Zd, Z5, Zp, Z2]
      exact hQ _ Sub.refl
    have fin : ∀ (so : Addr) (Z : List Int) (σ6 : AH) (ℓ6 : Loc), Sub σ4 σ6 → σ6 so = some (.list (Z.map V.int)) → Z ≠ [] → (∀ e ∈ Z, 0 ≤ e ∧ e < n) → ℓ6 "_law_some" = some (.ref so) → (∀ z, z ≠ "_law_some" → ℓ6 z = (((ℓ.set "_law_side" (V.int (i : Int))).set "_law_taken" (V.ref tk)).set "_law_every" (V.ref ev)) z) → K3 .next ℓ6 σ6 := by
      intro so Z σ6 ℓ6 s6 hso6 hL hLn l1 l2
      refine k3 _ _ ?_
      have g1 : ℓ6 "_law_found" = some (.ref f) := by rw [l2 _ (by decide)]; simp [Loc.set, e1]
      have g2 : ℓ6 "_law_cell" = some (.int c) := by rw [l2 _ (by decide)]; simp [Loc.set, e2]
      have g3 : ℓ6 "_law_sizes" = some (.tup [.int a, .int b, .int k]) := by rw [l2 _ (by decide)]; simp [Loc.set, e3]
      have g4 : ℓ6 "_law_rows" = some (.ref ed) := by rw [l2 _ (by decide)]; simp [Loc.set, e4]
      have g5 : ℓ6 "_law_side" = some (.int (i : Int)) := by rw [l2 _ (by decide)]; simp [Loc.set]
      have f6 : σ6 f = some (.list (fs.map V.int)) := s6 _ _ (s4 _ _ h4)
      have hpos : (0 : Int) < (Z.length : Int) := by have := List.length_pos_iff.mpr hL; omega
      refine Yj fun K4 k4 => ?_
      dsimp only [Z3, Z8, tDo, Zm, Zk, Yy, Zy, Zx, Yd, Yp, Ws, Yq, tCount, Zs, Xf, Xg, Zn, Yi, Yc, Z6, Z4, Zq, Zi, Zo, Yn, Zf, Z1, Yh, Xj, Xd, tOr, Zu, Loc.setAll, Loc.set, Loc.bare, Zj, String.reduceBEq, cond_true, cond_false, List.length_cons, List.length_nil, Z0, tValues, Zc, Zd, Z5, Zp, Z2]
      simp only [g1, g2, g5, l1, f6]
      refine ⟨trivial, by simp [Ym], fun d hd => ?_⟩
      obtain ⟨q, hq1, hq2⟩ : ∃ q : Int, atV [V.int 1, V.int 40] (i : Int) = some (.int q) ∧ q ≠ 0 := by
        rcases (show i = 0 ∨ i = 1 by omega) with rfl | rfl
        · exact ⟨1, atV_nat rfl, by decide⟩
        · exact ⟨40, atV_nat rfl, by decide⟩
      refine itemL AH.set_same hq1 ⟨hq2, ?_⟩
      simp only [Zt hso6 hd, List.length_map]
      refine ⟨by omega, ?_⟩
      obtain ⟨v, hv, hm⟩ := atV_mem (xs := Z.map V.int) (Int.fmod_nonneg_of_pos (c.fdiv q) hpos) (by rw [List.length_map]; exact Int.fmod_lt_of_pos (c.fdiv q) hpos)
      obtain ⟨e, he, rfl⟩ := List.mem_map.1 hm
      refine itemL (Zt hso6 hd) hv ?_
      simp only [Zt f6 hd]
      refine ⟨by simp [Ym]; omega, k4 _ _ (k2 _ _ (fun _ kI => kI (fs ++ [e]) (by simp [h1]) (fun j v hj => ?_) (((h3.trans (s4.trans s6)).new hd).upd (by exact hf)) (by rw [AH.set_same]; simp) (g1) (g2) (g3) (g4)))⟩
      rcases Nat.lt_trichotomy j fs.length with w | w | w
      · rw [List.getElem?_append_left w] at hj; exact h2 j v hj
      · subst w
        simp at hj; subst hj
        rw [h1, ← hn2]; exact hLn e he
      · rw [List.getElem?_append_right (by omega), List.getElem?_eq_none (by simp; omega)] at hj; cases hj
    simp only [AH.set_same, List.isEmpty_map]
    generalize hL : (Wx n.toNat).filter (fun e => decide (((tn.count e : Nat) : Int) < k)) = Z at hso ⊢
    have hLn : ∀ e ∈ Z, 0 ≤ e ∧ e < n := fun e he => by
      rw [← hL] at he
      have := rngI_mem.1 (List.mem_filter.1 he).1
      omega
    cases Z with
    | nil =>
      simp only [List.isEmpty_nil, Bool.not_true]
      refine fin ev (Wx n.toNat) _ _ (s5.new hso) (Zt (s5 _ _ hev4) hso) (fun z => ?_) (fun e he => by have := rngI_mem.1 he; omega) rfl (fun z hz => Loc.get_ne hz)
      have := congrArg List.length z
      rw [rngI_length] at this; simp at this; omega
    | cons e Z =>
      simp only [List.isEmpty_cons, Bool.not_false]
      exact fin so (e :: Z) _ _ (s5.new hso) AH.set_same (by simp) hLn rfl (fun z hz => Loc.get_ne hz)
end
section
open PySem PySem.W PyProof.Rows
variable {g : Gr} {P : Params}
theorem pairs_cnt (ps : List (Int × Int)) : (enumKV ((ps.map prI).map prV)).map (·.2) = (ps.map fun p => (⟨0, p.1, p.2, none⟩ : Rw)).map (cntV fun _ => []) := by
  rw [enumKV_vals]; simp [prV, prI, cntV, Function.comp_def]
theorem f_pairs9 (hK : (KK P).In g.b0) (N : NN g) (F_law_cell_at : FnG g "_law_cell_at" 3 sCellAt) (F_law_mixed : FnG g "_law_mixed" 3 sMixed) (F_law_ends : FnG g "_law_ends" 3 sEnds2) : Xm g 4 (.ref 347) sPairs9 := by
  refine Xm.mono (Y2 (r := 3) (ps := ["_law_script", "_law_sizes"]) (hK 347 _ rfl) rfl (CodeRec.mk' (hK 346 _ rfl) rfl rfl) rfl (by intro vs h; obtain ⟨a0, a1, rfl⟩ := len2 h; rfl) rfl rfl rfl (by decide +kernel)
    (Ze (Z9 (at_ (i := 2) rfl) rfl (Zr (Xo (Zb Zh (Zb Zh Zg))) (Z7 (at_ (i := 6) rfl) (fn_type N.n_int sndF_intB) (Zb (sndE_cmp (Yk (Yk (Z7 (at_ (i := 7) rfl) F_law_cell_at (Zb (Za (.head _) rfl) (Zb Zh Zg)) rfl) Zh) Zh) Zh rfl) Zg) rfl) (fun _ _ => rfl)) (fun _ => rfl))
  (Ze (Z9 (at_ (i := 3) rfl) rfl (Xo Zg) (fun _ => rfl))
  (Ze (Wv (sndI_enum (at_ (i := 8) rfl) (N.n_enumerate) (sndE_slice (Za (.head _) rfl) (sndO_some Zh) (sndO_some (Yk Zh (Za (at_ (i := 2) rfl) rfl)))) rfl) (.tup (.cons (at_ (i := 4) rfl) rfl (.cons (at_ (i := 5) rfl) rfl .nil))) (Ze (Wl (mAppend (Za (at_ (i := 3) rfl) rfl) (Zb (Z7 (at_ (i := 9) rfl) F_law_ends (Zb (Z7 (at_ (i := 10) rfl) F_law_mixed (Zb (Za (at_ (i := 5) rfl) rfl) (Zb (Za (at_ (i := 4) rfl) rfl) Zg)) rfl) (Zb (Za (at_ (i := 1) rfl) rfl) (Zb (sndE_dictEnum (at_ (i := 11) rfl) (N.n_dict) (at_ (i := 8) rfl) (N.n_enumerate) (Za (at_ (i := 3) rfl) rfl) rfl) Zg))) rfl) Zg) rfl rfl rfl rfl) (fun _ => rfl))
  Zl) (fun _ _ => rfl))
  (Ze (Zw (Za (at_ (i := 3) rfl) rfl))
  Zl))))) ?_
  rintro xs σ Q E ⟨ns, a, b, k, rfl, ha, hb, hn, h⟩
  refine Xv rfl fun K KE kret _ _ => ?_
  simp only [Loc.setAll]
  refine Yj fun K1 k1 => ?_
  dsimp only [Z3, Z8, tDo, Zm, Yy, tEnum, Yp, Ws, Yq, Zs, Yc, Z4, Zq, Zi, Zo, Zf, tCmp, Yh, Xj, Xd, Zu, Y1, Y0, Yz, Loc.setAll, Loc.set, Loc.bare, Zj, String.reduceBEq, cond_true, cond_false, List.length_cons, List.length_nil, Zc, Zd, Z5, Zp, Z2]
  refine ⟨by simp [Ym], fun la hla => ⟨ns, 0, rfl, fun c0 => ⟨by decide, by decide, eqD_int ⟨_, rfl, ?_⟩⟩⟩⟩
  have go : ∀ most : Int, 0 ≤ most → most ≤ 43 → K1 .next (((Loc.empty.set "_law_script" (V.frz (ns.map V.int))).set "_law_sizes" (V.tup [V.int a, V.int b, V.int k])).set "_law_most" (.int most)) (σ.set la (AO.list [V.int 30, V.int 43])) := by
    intro most hm0 hm1
    refine k1 _ _ ?_
    have s1 : Sub σ (σ.set la (AO.list [V.int 30, V.int 43])) := Sub.refl.new hla
    generalize σ.set la (AO.list [V.int 30, V.int 43]) = σ1 at s1 ⊢
    refine Yj fun K1 k1 => ?_
    dsimp only [Z3, Z8, tDo, Zm, Yy, tEnum, Yp, Ws, Yq, Zs, Yc, Z4, Zq, Zi, Zo, Zf, tCmp, Yh, Xj, Xd, Zu, Y1, Y0, Yz, Loc.setAll, Loc.set, Loc.bare, Zj, String.reduceBEq, cond_true, cond_false, List.length_cons, List.length_nil, Zc, Zd, Z5, Zp, Z2]
    refine ⟨by simp [Ym], fun f hf => k1 _ _ ?_⟩
    have s2 : Sub σ (σ1.set f (.list [])) := s1.new hf
    have hf2 : (σ1.set f (.list [])) f = some (.list ((([] : List (Int × Int)).map prI).map prV)) := AH.set_same
    have hf0 : σ f = none := s1.none hf
    generalize σ1.set f (.list []) = σ2 at s2 hf2 ⊢
    refine Yj fun K1 k1 => ?_
    dsimp only [Z3, Z8, tDo, Zm, Yy, tEnum, Yp, Ws, Yq, Zs, Yc, Z4, Zq, Zi, Zo, Zf, tCmp, Yh, Xj, Xd, Zu, Y1, Y0, Yz, Loc.setAll, Loc.set, Loc.bare, Zj, String.reduceBEq, cond_true, cond_false, List.length_cons, List.length_nil, Zc, Zd, Z5, Zp, Z2]
    refine ⟨by simp [Nonneg], by simp [Nonneg]; omega, fun sl hsl => ?_⟩
    simp only [AH.set_same]
    have hcut : ∃ cells : List Int, cutV (some 2) (some (2 + most)) (ns.map V.int) = cells.map V.int ∧ cells.length ≤ 43 := ⟨(ns.take (2 + most).toNat).drop 2, by simp [cutV, takeV, loN, List.map_take, List.map_drop], by simp; omega⟩
    obtain ⟨cells, hcells, hclen⟩ := hcut
    rw [hcells]
    have hfsl : f ≠ sl := fun z => by rw [← z, hf2] at hsl; cases hsl
    refine ⟨fun _ => rfl, loopT_k (fun xs ℓ σ' => ∀ P0 : Prop, (∀ (i : Nat) (rest : List Int) (ps : List (Int × Int)), (xs = enumV i (rest.map V.int)) → (i + rest.length ≤ 43) → (ps.length = i) → (AllIn a b ps) → (Sub σ σ') → (σ' f = some (.list ((ps.map prI).map prV))) → (σ' sl = some (.list (cells.map V.int))) → (ℓ "_law_sizes" = some (.tup [.int a, .int b, .int k])) → (ℓ "_law_found" = some (.ref f)) → P0) → P0) ?_ ?_
      (fun _ kI => kI (0) (cells) ([]) (rfl) (by omega) (rfl) (⟨fun _ h => absurd h (by simp)⟩) (s2.new hsl) (Zt hf2 hsl) (AH.set_same) (rfl) (rfl))⟩
    · intro ℓ σ' hI0
      refine hI0 _ fun i rest ps h1 h2 h3 h4 h5 h6 h7 e1 e2 => ?_
      refine ⟨h7, k1 _ _ ?_⟩
      refine Xl fun K2 r2 => ?_
      dsimp only [Z3, Z8, tDo, Zm, Yy, tEnum, Yp, Ws, Yq, Zs, Yc, Z4, Zq, Zi, Zo, Zf, tCmp, Yh, Xj, Xd, Zu, Y1, Y0, Yz, Loc.setAll, Loc.set, Loc.bare, Zj, String.reduceBEq, cond_true, cond_false, List.length_cons, List.length_nil, Zc, Zd, Z5, Zp, Z2]
      simp only [e2]
      exact r2 _ _ _ (kret _ _ _ _ (sub_at h5 h6) (h ps f (by omega) h4 hf0))
    · intro v xs ℓ σ' K2 k2 r2 hI0
      refine hI0 _ fun i rest ps h1 h2 h3 h4 h5 h6 h7 e1 e2 => ?_
      obtain ⟨cell, rest, rfl⟩ : ∃ s r, rest = s :: r := by cases rest with | nil => simp [enumV] at h1 | cons s r => exact ⟨s, r, rfl⟩
      simp only [List.map_cons, enumV, List.cons.injEq] at h1
      obtain ⟨rfl, rfl⟩ := h1
      simp only [List.length_cons] at h2
      refine ⟨h7, ?_⟩
      simp only [Zj, partsV, List.length_cons, List.length_nil, true_and, Loc.setAll]
      refine Yj fun K3 k3 => ?_
      dsimp only [Z3, Z8, tDo, Zm, Yy, tEnum, Yp, Ws, Yq, Zs, Yc, Z4, Zq, Zi, Zo, Zf, tCmp, Yh, Xj, Xd, Zu, Y1, Y0, Yz, Loc.setAll, Loc.set, Loc.bare, Zj, String.reduceBEq, cond_true, cond_false, List.length_cons, List.length_nil, Zc, Zd, Z5, Zp, Z2]
      simp only [e1, e2, h6]
      refine ⟨trivial, cell, _, rfl, by omega, by omega, fun n hn => ⟨f, _, rfl, h6, fun d ep hd => ?_⟩⟩
      refine ⟨n, a, b, k, d, _, _, _, ep, rfl, AH.set_same, pairs_cnt ps, ha.1, ha.2, hb.1, hb.2, fun l r hl1 hl2 hr1 hr2 => ?_⟩
      simp only [Zt h6 hd]
      refine ⟨by simp [Ym]; omega, k3 _ _ ?_⟩
      dsimp only [Z3, Z8, tDo, Zm, Yy, tEnum, Yp, Ws, Yq, Zs, Yc, Z4, Zq, Zi, Zo, Zf, tCmp, Yh, Xj, Xd, Zu, Y1, Y0, Yz, Loc.setAll, Loc.set, Loc.bare, Zj, String.reduceBEq, cond_true, cond_false, List.length_cons, List.length_nil, Zc, Zd, Z5, Zp, Z2]
      refine k2 _ _ (fun _ kI => kI (i + 1) (rest) (ps ++ [(l, r)]) (rfl) (by omega) (by simp [h3]) (⟨fun p hp => ?_⟩) ((h5.new hd).upd hf0) (by rw [AH.set_same]; simp [prV, prI]) (?_) (e1) (e2))
      · rcases List.mem_append.1 hp with q | q
        · obtain ⟨h4⟩ := h4; exact h4 p q
        · rw [List.mem_singleton.1 q]; exact ⟨⟨hl1, hl2⟩, ⟨hr1, hr2⟩⟩
      · rw [AH.set_other (Ne.symm hfsl)]; exact Zt h7 hd
  cases ((c0.fdiv 5120).fmod 8 == 1) with
  | false => exact itemL AH.set_same (Xx (by decide) rfl) (go 30 (by decide) (by decide))
  | true => exact itemL AH.set_same (Xx (by decide) rfl) (go 43 (by decide) (by decide))
end
section
open PySem PySem.W PyProof.Rows
variable {g : Gr} {P : Params}
theorem f_hued9 (hK : (KK P).In g.b0) (N : NN g) (F_Hall : SndF g 9 (.ref CC) (tNew CC (sInit CC))) (M_come : FnM g (KK P) CC "come" 9 (sCome9 CC CB CT)) (M_hue_of : FnM g (KK P) CC "hue_of" 9 (sHueOf CC)) : Xm g 10 (.ref 295) (sHued9 CB CT) := by
  refine Xm.mono (Y2 (r := 9) (ps := ["lefts", "rights", "pairs"]) (hK 295 _ rfl) rfl (CodeRec.mk' (hK 294 _ rfl) rfl rfl) rfl (by intro vs h; obtain ⟨a0, a1, a2, rfl⟩ := len3 h; rfl) rfl rfl rfl (by decide +kernel)
    (Ze (Z9 (at_ (i := 3) rfl) rfl (sndE_callC hK (at_ (i := 5) rfl) (N.n_Hall) kp_Hall F_Hall (Zb (Za (.head _) rfl) (Zb (Za (at_ (i := 1) rfl) rfl) Zg)) rfl) (fun _ => rfl))
  (Ze (sndS_assignComp (at_ (i := 4) rfl) rfl (by decide +kernel) (Xb (Za (at_ (i := 2) rfl) rfl)) (.name (at_ (i := 1) rfl) rfl) (by decide +kernel) sndT_nil (Zr (Yu hK hC M_come (Za (at_ (i := 2) rfl) rfl) (Zb (Zr (Za (at_ (i := 1) rfl) rfl) Zh (fun _ _ => rfl)) (Zb (Zr (Za (at_ (i := 1) rfl) rfl) Zh (fun _ _ => rfl)) Zg)) rfl rfl rfl rfl) Zh (fun _ _ => rfl)) (fun _ _ => rfl))
  (Ze (Zw (sndE_comp (by decide +kernel) (Xb (Za (at_ (i := 4) rfl) rfl)) (.name (at_ (i := 1) rfl) rfl) (by decide +kernel) sndT_nil (Yu hK hC M_hue_of (Za (at_ (i := 2) rfl) rfl) (Zb (Za (at_ (i := 1) rfl) rfl) Zg) rfl rfl rfl rfl) (fun _ _ => rfl)))
  Zl)))) ?_
  rintro xs σ Q E ⟨a, b, pa, ps, rest, rfl, hpa, ⟨ha, hb, h40, hr, ⟨hin⟩, hq, he⟩⟩
  refine Xv rfl fun K KE kret kend kexc => ?_
  simp only [Loc.setAll]
  refine Yj fun K1 k1 => ?_
  dsimp only [Z3, Z8, Zm, Zk, Zy, Zx, Zs, Zn, Yi, Z4, Zq, Zi, Zo, Zf, Zu, Loc.setAll, Loc.set, Loc.bare, Zj, String.reduceBEq, cond_true, cond_false, List.length_cons, List.length_nil, Ye, tNew, Zc, Zd, Z5, Zp, Z2]
  refine fun x d hx hd hxd => ⟨x, d, a, b, rfl, ha.1, ha.2, hb.1, hb.2, AH.set_same, by rw [AH.set_other (Ne.symm hxd)]; exact AH.set_same, fun σ1 D0 H0 hT hDa hDb hDn hDd hrd kp => ⟨rfl, k1 _ _ ?_⟩⟩
  have R0 := Run9.start hx hd hxd ha hb H0 hT hDa hDb hDn hDd hrd kp
  refine Yj fun K1 k1 => ?_
  dsimp only [Z3, Z8, Zm, Zk, Zy, Zx, Zs, Zn, Yi, Z4, Zq, Zi, Zo, Zf, Zu, Loc.setAll, Loc.set, Loc.bare, Zj, String.reduceBEq, cond_true, cond_false, List.length_cons, List.length_nil, Ye, tNew, Zc, Zd, Z5, Zp, Z2]
  simp only [R0.sub _ _ hpa]
  refine ⟨nofun, ?_⟩
  refine compT_inv (fun rem acc σ' => ∃ (dn td : List (Int × Int)) (D : HD) (m : Nat), ps = dn ++ td ∧ rem = (td.map prI ++ rest).map prV ∧ acc = (Wx dn.length).map V.int ∧ Run9 CC x σ σ' a b dn D m) ?_ ?_ _ _ _ ⟨[], ps, D0, 0, rfl, rfl, rfl, R0⟩
  · rintro acc σ' ⟨dn, td, D, m, hps, hrem, rfl, R⟩
    refine ⟨R.sub _ _ hpa, fun nb hnb => k1 _ _ ?_⟩
    have hnil : td = [] ∧ rest = [] := by
      have := congrArg List.length hrem
      simp at this
      exact ⟨List.length_eq_zero_iff.mp (by omega), List.length_eq_zero_iff.mp (by omega)⟩
    obtain ⟨rfl, hrest⟩ := hnil
    rw [List.append_nil] at hps
    subst hps
    rw [R.nums]
    have H2 := R.hall.sub (Sub.refl.new (o := .list (D.T.map fun t => V.int t.1.n)) hnb)
    refine Xl fun K2 r2 => ?_
    dsimp only [Z3, Z8, Zm, Zk, Zy, Zx, Zs, Zn, Yi, Z4, Zq, Zi, Zo, Zf, Zu, Loc.setAll, Loc.set, Loc.bare, Zj, String.reduceBEq, cond_true, cond_false, List.length_cons, List.length_nil, Ye, tNew, Zc, Zd, Z5, Zp, Z2]
    simp only [AH.set_same]
    refine ⟨nofun, compT_each (fun t : Rw × Addr => V.int t.1.n) (fun t => V.int (hueN t.1)) AH.set_same D.T (fun t ht => ⟨_, fun P h => h, fun Qv hQ => ?_⟩) fun y hy => r2 _ _ _ ?_⟩
    · dsimp only [Z3, Z8, Zm, Zk, Zy, Zx, Zs, Zn, Yi, Z4, Zq, Zi, Zo, Zf, Zu, Loc.setAll, Loc.set, Loc.bare, Zj, String.reduceBEq, cond_true, cond_false, List.length_cons, List.length_nil, Ye, tNew, Zc, Zd, Z5, Zp, Z2]
      refine ⟨H2.instOf (by decide +kernel), x, D, t, rfl, ht, H2, R.well.good.inc, ?_⟩
      rw [R.hues t ht]
      exact hQ
    · rw [huesS_T]
      have s2 : Sub σ (σ'.set nb (.list (D.T.map fun t => V.int t.1.n))) := R.sub.new hnb
      exact kret _ _ _ _ s2.both (hq hrest D.S y R.runs (s2.none hy))
  · rintro v rem acc σ' K2 ⟨dn, td, D, m, hps, hrem, rfl, R⟩ k2
    refine ⟨R.sub _ _ hpa, ?_⟩
    obtain ⟨q, hqv, b1, b2, n1, n2, heB, heT, hgo⟩ : ∃ q : V × V, v = prV q ∧ ∃ b1 b2, nrV q.1 = some b1 ∧ nrV q.2 = some b2 ∧ ((okE a q.1 && okE b q.2) = false → E CB σ) ∧ ((okE a q.1 && okE b q.2) = true → dn.length = 40 → E CT σ) ∧ ∀ l r, q = (.int l, .int r) → dn.length < 40 → (0 ≤ l ∧ l < a) → (0 ≤ r ∧ r < b) → ∃ td', ps = (dn ++ [(l, r)]) ++ td' ∧ rem = (td'.map prI ++ rest).map prV := by
      cases td with
      | cons p td =>
        simp only [List.map_cons, List.cons_append, List.cons.injEq] at hrem
        obtain ⟨rfl, rfl⟩ := hrem
        have hp := hin p (by rw [hps]; simp)
        have hlen : dn.length < 40 := by rw [hps] at h40; simp at h40; omega
        have hok : (okE a (prI p).1 && okE b (prI p).2) = true := by simp [okE, prI, hp]
        refine ⟨prI p, rfl, true, true, rfl, rfl, fun z => ?_, fun _ z => by omega, fun l r e _ _ _ => ?_⟩
        · rw [hok] at z; cases z
        · unfold prI at e
          cases e
          exact ⟨td, by rw [hps]; simp, rfl⟩
      | nil =>
        cases hrs : rest with
        | nil => rw [hrs] at hrem; cases hrem
        | cons q tl =>
          rw [hrs] at hrem
          simp only [List.map_nil, List.nil_append, List.map_cons, List.cons.injEq] at hrem
          obtain ⟨rfl, rfl⟩ := hrem
          obtain ⟨b1, b2, n1, n2, g1, g2⟩ := he q tl hrs
          rw [List.append_nil] at hps
          subst hps
          refine ⟨q, rfl, b1, b2, n1, n2, g1, fun z _ => (g2 z).2, fun l r e hl hl1 hr1 => ?_⟩
          subst e
          have := (g2 (by simp [okE, hl1, hr1])).1
          omega
    subst hqv
    have hdl : dn.length ≤ 40 := by rw [hps] at h40; simp at h40; omega
    have hTl := R.len
    simp only [Zj]
    dsimp only [Z3, Z8, Zm, Zk, Zy, Zx, Zs, Zn, Yi, Z4, Zq, Zi, Zo, Zf, Zu, Loc.setAll, Loc.set, Loc.bare, Zj, String.reduceBEq, cond_true, cond_false, List.length_cons, List.length_nil, Ye, tNew, Zc, Zd, Z5, Zp, Z2]
    refine ⟨R.hall.instOf (by decide +kernel), W1 (xs := [q.1, q.2]) (Xx (by decide) rfl) (W1 (xs := [q.1, q.2]) (Xx (by decide) rfl) ⟨x, D, q.1, q.2, m, b1, b2, rfl, R.hall, R.well, by rw [R.nx]; omega, by omega, n1, n2, fun z => kexc _ _ _ _ R.sub (heB (by rw [R.ea, R.eb] at z; exact z)), fun z z2 => kexc _ _ _ _ R.sub (heT (by rw [R.ea, R.eb] at z; exact z) (by omega)), fun l r e1 e2 hl hr' hlt σ5 D5 m5 hue other nums c H5 W5 hn5 ha5 hb5 keep5 new5 dom5 hsk5 hHT hc0 nfc hc5 => ?_⟩)⟩
    rw [R.ea] at hl
    rw [R.eb] at hr'
    obtain ⟨td', h1, h2⟩ := hgo l r (Prod.ext e1 e2) (by omega) hl hr'
    refine W1 (Xx (by decide) rfl) (k2 _ _ ⟨dn ++ [(l, r)], td', D5, m5, h1, h2, ?_, R.next H5 W5 hn5 ha5 hb5 keep5 new5 hsk5 hHT⟩)
    rw [List.length_append, List.length_singleton, rng_snoc, R.nx]; simp
noncomputable def isBE (C : Addr) : Option Bool := if C = CB then some true else if C = CT then some false else none
noncomputable def isTM (C : Addr) : Option Bool := if C = CB then some false else if C = CT then some true else none
theorem hI_BadEnd : ∀ C b, isBE C = some b → ExcK (KK P) C ∧ kitOne (KK P) (.ref C) (.ref CB) = some b := fun C b e => by
  unfold isBE at e
  split at e
  · rename_i z; subst z; cases e; exact ⟨⟨by kernel_rfl, by kernel_rfl, by kernel_rfl, by kernel_rfl, by kernel_rfl, by kernel_rfl⟩, by kernel_rfl⟩
  · split at e
    · rename_i z; subst z; cases e; exact ⟨⟨by kernel_rfl, by kernel_rfl, by kernel_rfl, by kernel_rfl, by kernel_rfl, by kernel_rfl⟩, by kernel_rfl⟩
    · cases e
theorem hI_TooMany : ∀ C b, isTM C = some b → ExcK (KK P) C ∧ kitOne (KK P) (.ref C) (.ref CT) = some b := fun C b e => by
  unfold isTM at e
  split at e
  · rename_i z; subst z; cases e; exact ⟨⟨by kernel_rfl, by kernel_rfl, by kernel_rfl, by kernel_rfl, by kernel_rfl, by kernel_rfl⟩, by kernel_rfl⟩
  · split at e
    · rename_i z; subst z; cases e; exact ⟨⟨by kernel_rfl, by kernel_rfl, by kernel_rfl, by kernel_rfl, by kernel_rfl, by kernel_rfl⟩, by kernel_rfl⟩
    · cases e
theorem hP : ∀ C, (C = CB ∨ C = CT) → exmOne (KK P) (.ref C) (.ref 31) = some true := fun C h => by
  rcases h with rfl | rfl
  · kernel_rfl
  · kernel_rfl
theorem f_told9 (hK : (KK P).In g.b0) (N : NN g) (F_hued : FnG g "hued" 10 (sHued9 CB CT)) : Xm g 11 (.ref 354) (sTold9 CB CT) := by
  refine Xm.mono (Y2 (r := 10) (ps := ["_law_sizes", "_law_pairs_here"]) (hK 354 _ rfl) rfl (CodeRec.mk' (hK 353 _ rfl) rfl rfl) rfl (by intro vs h; obtain ⟨a0, a1, rfl⟩ := len2 h; rfl) rfl rfl rfl (by decide +kernel)
    (Ze (sndS_tryAs hK (at_ (i := 4) rfl) (N.n_PairError) hP (at_ (i := 2) rfl) (Ze (Zw (Z7 (at_ (i := 3) rfl) F_hued (Zb (Zr (Za (.head _) rfl) Zh (fun _ _ => rfl)) (Zb (Zr (Za (.head _) rfl) Zh (fun _ _ => rfl)) (Zb (Za (at_ (i := 1) rfl) rfl) Zg))) rfl))
  Zl)
  (Ze (Zw (Yo (Zb (sndE_isCF hK hI_BadEnd (at_ (i := 5) rfl) (N.n_isinstance) (at_ (i := 6) rfl) (N.n_BadEnd) (Za (at_ (i := 2) rfl) rfl) rfl) (Zb (sndE_isCF hK hI_TooMany (at_ (i := 5) rfl) (N.n_isinstance) (at_ (i := 7) rfl) (N.n_TooMany) (Za (at_ (i := 2) rfl) rfl) rfl) Zg))))
  Zl))
  Zl)) ?_
  rintro xs σ Q E ⟨a, b, k, pa, ps, rest, rfl, hpa, ⟨ha, hb, h40, hr, hin, hq, he⟩⟩
  refine Xv rfl fun K KE kret kend kexc => ?_
  simp only [Loc.setAll]
  refine Xl fun K1 r1 => ?_
  dsimp only [Z3, Z8, Zs, Z6, Z4, Zq, Zi, Zo, Zf, Zu, Loc.setAll, Loc.set, Loc.bare, Zj, String.reduceBEq, cond_true, cond_false, List.length_cons, List.length_nil, Zc, Zd, Z5, tTryAs, Zp, Z2]
  have bad : ∀ (ℓ' : Loc) (C : Addr) (b1 b2 : Bool), isBE C = some b1 → isTM C = some b2 → Q (.tup [.bool b1, .bool b2]) σ → ∀ ea, σ ea = none →
      tSeq (Z8 (Z6 (Zq (Zp isBE (Zo "error")) (Zq (Zp isTM (Zo "error")) Z4)))) Z3 (ℓ'.set "error" (V.ref ea)) (σ.set ea (AO.exc C)) (fun f x σ'' => K1 f Loc.empty σ'') (fun x x_1 x_2 => False) := by
    intro ℓ' C b1 b2 e1 e2 h ea hea
    refine Xl fun K2 r2 => ?_
    dsimp only [Z3, Z8, Zs, Z6, Z4, Zq, Zi, Zo, Zf, Zu, Loc.setAll, Loc.set, Loc.bare, Zj, String.reduceBEq, cond_true, cond_false, List.length_cons, List.length_nil, Zc, Zd, Z5, tTryAs, Zp, Z2]
    exact ⟨ea, C, b1, rfl, AH.set_same, e1, ea, C, b2, rfl, AH.set_same, e2, by simp [Ym], r2 _ _ _ (r1 _ _ _ (kret _ _ _ _ (Sub.refl.new hea) h))⟩
  refine Xl fun K2 r2 => ?_
  dsimp only [Z3, Z8, Zs, Z6, Z4, Zq, Zi, Zo, Zf, Zu, Loc.setAll, Loc.set, Loc.bare, Zj, String.reduceBEq, cond_true, cond_false, List.length_cons, List.length_nil, Zc, Zd, Z5, tTryAs, Zp, Z2]
  refine W1 (Xx (by decide) rfl) (W1 (Xx (by decide) rfl) ⟨a, b, pa, ps, rest, rfl, hpa, ⟨ha, hb, h40, hr, hin, fun hrest S y R hy => r2 _ _ _ (r1 _ _ _ (kret _ _ _ _ Sub.refl (hq hrest S y R hy))), fun q tl e => ?_⟩⟩)
  obtain ⟨b1, b2, n1, n2, g1, g2⟩ := he q tl e
  exact ⟨b1, b2, n1, n2, fun z => ⟨.inl rfl, bad _ CB true false (by decide +kernel) (by decide +kernel) (g1 z).2⟩, fun z => ⟨(g2 z).1, .inr rfl, bad _ CT false true (by decide +kernel) (by decide +kernel) (g2 z).2.2⟩⟩
theorem f_hall9 (hK : (KK P).In g.b0) (N : NN g) (F_Hall : SndF g 9 (.ref CC) (tNew CC (sInit CC))) (M_come : FnM g (KK P) CC "come" 9 (sCome9 CC CB CT)) (M_hue_of : FnM g (KK P) CC "hue_of" 9 (sHueOf CC)) : Xm g 10 (.ref 359) sHall9 := by
  refine Xm.mono (Y2 (r := 9) (ps := ["_law_sizes", "_law_pairs_here"]) (hK 359 _ rfl) rfl (CodeRec.mk' (hK 358 _ rfl) rfl rfl) rfl (by intro vs h; obtain ⟨a0, a1, rfl⟩ := len2 h; rfl) rfl rfl rfl (by decide +kernel)
    (Ze (Z9 (at_ (i := 2) rfl) rfl (sndE_callC hK (at_ (i := 5) rfl) (N.n_Hall) kp_Hall F_Hall (Zb (Zr (Za (.head _) rfl) Zh (fun _ _ => rfl)) (Zb (Zr (Za (.head _) rfl) Zh (fun _ _ => rfl)) Zg)) rfl) (fun _ => rfl))
  (Ze (Wv (Xb (Za (at_ (i := 1) rfl) rfl)) (.tup (.cons (at_ (i := 3) rfl) rfl (.cons (at_ (i := 4) rfl) rfl .nil))) (Ze (Wl (Yu hK hC M_come (Za (at_ (i := 2) rfl) rfl) (Zb (Za (at_ (i := 3) rfl) rfl) (Zb (Za (at_ (i := 4) rfl) rfl) Zg)) rfl rfl rfl rfl) (fun _ => rfl))
  Zl) (fun _ _ => rfl))
  (Ze (Zw (sndE_comp (by decide +kernel) (sndI_range1 (at_ (i := 6) rfl) (N.n_range) (Z7 (at_ (i := 7) rfl) (Xc N.n_len Wp) (Zb (Za (at_ (i := 1) rfl) rfl) Zg) rfl) rfl) (.name (at_ (i := 1) rfl) rfl) (by decide +kernel) sndT_nil (Yu hK hC M_hue_of (Za (at_ (i := 2) rfl) rfl) (Zb (Za (at_ (i := 1) rfl) rfl) Zg) rfl rfl rfl rfl) (fun _ _ => rfl)))
  Zl)))) ?_
  rintro xs σ Q E ⟨a, b, k, pa, ps, rfl, ha, hb, h40, ⟨hin⟩, hpa, hq⟩
  refine Xv rfl fun K KE kret kend kexc => ?_
  simp only [Loc.setAll]
  refine Yj fun K1 k1 => ?_
  dsimp only [Z3, Z8, tDo, Zm, Yy, Zy, Zx, Yd, Zs, Xf, Xg, Zn, Yi, Z4, Zq, Zi, Zo, Zf, Zu, Loc.setAll, Loc.set, Loc.bare, Zj, String.reduceBEq, cond_true, cond_false, List.length_cons, List.length_nil, Ye, tNew, Zc, Zd, Z5, Zp, Z2]
  refine W1 (Xx (by decide) rfl) (W1 (Xx (by decide) rfl) fun x d hx hd hxd => ⟨x, d, a, b, rfl, ha.1, ha.2, hb.1, hb.2, AH.set_same, by rw [AH.set_other (Ne.symm hxd)]; exact AH.set_same, fun σ1 D0 H0 hT hDa hDb hDn hDd hrd kp => ⟨rfl, k1 _ _ ?_⟩⟩)
  have R0 := Run9.start hx hd hxd ha hb H0 hT hDa hDb hDn hDd hrd kp
  refine Yj fun K1 k1 => ?_
  dsimp only [Z3, Z8, tDo, Zm, Yy, Zy, Zx, Yd, Zs, Xf, Xg, Zn, Yi, Z4, Zq, Zi, Zo, Zf, Zu, Loc.setAll, Loc.set, Loc.bare, Zj, String.reduceBEq, cond_true, cond_false, List.length_cons, List.length_nil, Ye, tNew, Zc, Zd, Z5, Zp, Z2]
  simp only [R0.sub _ _ hpa]
  refine ⟨nofun, loopT_k (fun rem ℓ σ' => ∀ P0 : Prop, (∀ (dn td : List (Int × Int)) (D : HD) (m : Nat), (ps = dn ++ td) → (rem = (td.map prI).map prV) → (Run9 CC x σ σ' a b dn D m) → (ℓ "_law_hall_here" = some (.ref x)) → (ℓ "_law_pairs_here" = some (.ref pa)) → P0) → P0) ?_ ?_ (fun _ kI => kI ([]) (ps) (D0) (0) (rfl) (rfl) (R0) (rfl) (rfl))⟩
  · intro ℓ σ' hI0
    refine hI0 _ fun dn td D m hps hrem R e1 e2 => ?_
    refine ⟨R.sub _ _ hpa, k1 _ _ ?_⟩
    have hnil : td = [] := by
      have := congrArg List.length hrem
      simp at this
      exact List.length_eq_zero_iff.mp this.symm
    subst hnil
    rw [List.append_nil] at hps
    subst hps
    refine Xl fun K2 r2 => ?_
    dsimp only [Z3, Z8, tDo, Zm, Yy, Zy, Zx, Yd, Zs, Xf, Xg, Zn, Yi, Z4, Zq, Zi, Zo, Zf, Zu, Loc.setAll, Loc.set, Loc.bare, Zj, String.reduceBEq, cond_true, cond_false, List.length_cons, List.length_nil, Ye, tNew, Zc, Zd, Z5, Zp, Z2]
    simp only [e2, R.sub _ _ hpa, List.length_map]
    have hz : Int.toNat ((ps.length : Nat) : Int) = ps.length := by simp
    rw [hz, rangeV_rng, R.nums]
    refine ⟨by omega, by unfold Ym; omega, nofun, compT_each (fun t : Rw × Addr => V.int t.1.n) (fun t => V.int (hueN t.1)) trivial D.T (fun t ht => ⟨_, fun P h => h, fun Qv hQ => ?_⟩) fun y hy => r2 _ _ _ ?_⟩
    · dsimp only [Z3, Z8, tDo, Zm, Yy, Zy, Zx, Yd, Zs, Xf, Xg, Zn, Yi, Z4, Zq, Zi, Zo, Zf, Zu, Loc.setAll, Loc.set, Loc.bare, Zj, String.reduceBEq, cond_true, cond_false, List.length_cons, List.length_nil, Ye, tNew, Zc, Zd, Z5, Zp, Z2]
      simp only [e1]
      refine ⟨R.hall.instOf (by decide +kernel), x, D, t, rfl, ht, R.hall, R.well.good.inc, ?_⟩
      rw [R.hues t ht]
      exact hQ
    · rw [huesS_T]
      exact kret _ _ _ _ R.sub.both (hq D.S y R.runs (R.sub.none hy))
  · intro v rem ℓ σ' K2 k2 r2 hI0
    refine hI0 _ fun dn td D m hps hrem R e1 e2 => ?_
    refine ⟨R.sub _ _ hpa, ?_⟩
    obtain ⟨p, td2, etd⟩ : ∃ (s : Int × Int) (r : List (Int × Int)), td = s :: r := by cases td with | nil => simp at hrem | cons s r => exact ⟨s, r, rfl⟩
    subst etd
    simp only [List.map_cons, List.cons.injEq] at hrem
    obtain ⟨rfl, rfl⟩ := hrem
    have hp := hin p (by rw [hps]; simp)
    have hdl : dn.length < 40 := by rw [hps] at h40; simp at h40; omega
    have hTl := R.len
    simp only [Zj, prV, prI, partsV, List.length_cons, List.length_nil, true_and, Loc.setAll]
    refine Yj fun K3 k3 => ?_
    dsimp only [Z3, Z8, tDo, Zm, Yy, Zy, Zx, Yd, Zs, Xf, Xg, Zn, Yi, Z4, Zq, Zi, Zo, Zf, Zu, Loc.setAll, Loc.set, Loc.bare, Zj, String.reduceBEq, cond_true, cond_false, List.length_cons, List.length_nil, Ye, tNew, Zc, Zd, Z5, Zp, Z2]
    simp only [e1]
    have hok : (okE D.a (.int p.1) && okE D.b (.int p.2)) = true := by rw [R.ea, R.eb]; simp [okE, hp]
    refine ⟨R.hall.instOf (by decide +kernel), x, D, .int p.1, .int p.2, m, true, true, rfl, R.hall, R.well, by rw [R.nx]; omega, by omega, rfl, rfl, fun z => ?_, fun _ z => by omega, fun l r e1' e2' hl hr' hlt σ5 D5 m5 hue other nums c H5 W5 hn5 ha5 hb5 keep5 new5 dom5 hsk5 hHT hc0 nfc hc5 => k3 _ _ ?_⟩
    · rw [hok] at z; cases z
    · cases e1'; cases e2'
      dsimp only [Z3, Z8, tDo, Zm, Yy, Zy, Zx, Yd, Zs, Xf, Xg, Zn, Yi, Z4, Zq, Zi, Zo, Zf, Zu, Loc.setAll, Loc.set, Loc.bare, Zj, String.reduceBEq, cond_true, cond_false, List.length_cons, List.length_nil, Ye, tNew, Zc, Zd, Z5, Zp, Z2]
      exact k2 _ _ (fun _ kI => kI (dn ++ [(p.1, p.2)]) (td2) (D5) (m5) (by rw [hps]; simp) (rfl) (R.next H5 W5 hn5 ha5 hb5 keep5 new5 hsk5 hHT) (e1) (e2))
end
section
open PySem PySem.W PyProof.Rows
variable {g : Gr} {P : Params}
theorem rowH_at (x : Rw) : atV ((Wt x).map V.int) 0 = some (.int x.l) ∧ atV ((Wt x).map V.int) 1 = some (.int x.r) ∧ atV ((Wt x).map V.int) 2 = some (.int (hueN x)) := ⟨Xx (by decide) rfl, Xx (by decide) rfl, Xx (by decide) rfl⟩
theorem rows_V (S : List Rw) : (S.map Wt).map rowV = S.map fun x => rowV (Wt x) := by rw [List.map_map]; rfl
theorem f_count_of (hK : (KK P).In g.b0) (N : NN g) : Xm g 2 (.ref 300) sCountOf := by
  refine Xm.mono (Y2 (r := 1) (ps := ["rows"]) (hK 300 _ rfl) rfl (CodeRec.mk' (hK 299 _ rfl) rfl rfl) rfl (by intro vs h; obtain ⟨a0, rfl⟩ := len1 h; rfl) rfl rfl rfl (by decide +kernel)
    (Ze (Z9 (at_ (i := 1) rfl) rfl (Xo (Zb Zh Zg)) (fun _ => rfl))
  (Ze (Wv (Xb (Za (.head _) rfl)) (.name (at_ (i := 2) rfl) rfl) (Ze (Wl (mAppend (Za (at_ (i := 1) rfl) rfl) (Zb (Z7 (at_ (i := 3) rfl) (Xc N.n_len Wp) (Zb (sndE_comp (by decide +kernel) (Xb (Za (.head _) rfl)) (.name (at_ (i := 1) rfl) rfl) (by decide +kernel) (sndT_one (Y3 (Zr (Za (at_ (i := 1) rfl) rfl) Zh (fun _ _ => rfl)) (Zr (Za (at_ (i := 2) rfl) rfl) Zh (fun _ _ => rfl)) rfl)) Zh (fun _ _ => rfl)) Zg) rfl) Zg) rfl rfl rfl rfl) (fun _ => rfl))
  (Ze (Wl (mAppend (Za (at_ (i := 1) rfl) rfl) (Zb (Z7 (at_ (i := 3) rfl) (Xc N.n_len Wp) (Zb (sndE_comp (by decide +kernel) (Xb (Za (.head _) rfl)) (.name (at_ (i := 1) rfl) rfl) (by decide +kernel) (sndT_one (Y3 (Zr (Za (at_ (i := 1) rfl) rfl) Zh (fun _ _ => rfl)) (Zr (Za (at_ (i := 2) rfl) rfl) Zh (fun _ _ => rfl)) rfl)) Zh (fun _ _ => rfl)) Zg) rfl) Zg) rfl rfl rfl rfl) (fun _ => rfl))
  Zl)) (fun _ _ => rfl))
  (Ze (Zw (Z7 (at_ (i := 4) rfl) (Xc N.n_max sndF_max) (Zb (Za (at_ (i := 1) rfl) rfl) Zg) rfl))
  Zl)))) ?_
  rintro xs σ Q E ⟨y, S, a, b, m, rfl, hy, hl, hm, hin, hq⟩
  refine Xv rfl fun K KE kret _ _ => ?_
  simp only [Loc.setAll]
  refine Yj fun K1 k1 => ?_
  dsimp only [Z3, Z8, tDo, Zm, Yy, Zy, Zx, Yp, Ws, Yq, Zs, Xf, Xg, tMax, Zn, Yi, Yc, Z4, Zq, Zi, Zo, Zf, Z1, Yh, Zu, Loc.setAll, Loc.set, Loc.bare, Zj, String.reduceBEq, cond_true, cond_false, List.length_cons, List.length_nil, Zc, Zd, Z5, Zp, Z2]
  refine ⟨by simp [Ym], fun f hf => k1 _ _ ?_⟩
  have hf0 : (σ.set f (.list [V.int 0])) f = some (.list (([0] : List Int).map V.int)) := AH.set_same
  have s0 : Sub σ (σ.set f (.list [V.int 0])) := Sub.refl.new hf
  generalize σ.set f (.list [V.int 0]) = σ0 at hf0 s0 ⊢
  refine Yj fun K1 k1 => ?_
  dsimp only [Z3, Z8, tDo, Zm, Yy, Zy, Zx, Yp, Ws, Yq, Zs, Xf, Xg, tMax, Zn, Yi, Yc, Z4, Zq, Zi, Zo, Zf, Z1, Yh, Zu, Loc.setAll, Loc.set, Loc.bare, Zj, String.reduceBEq, cond_true, cond_false, List.length_cons, List.length_nil, Zc, Zd, Z5, Zp, Z2]
  simp only [s0 _ _ hy, rows_V]
  rw [rows_V] at hy
  refine ⟨nofun, loopT_k (fun rem ℓ σ' => ∀ P0 : Prop, (∀ (dn td : List Rw) (ns : List Int), (S = dn ++ td) → (rem = td.map (fun x => rowV (Wt x))) → (ns.length + 2 * td.length ≤ 300) → (Sub σ σ') → (σ' f = some (.list (ns.map V.int))) → ((∀ n ∈ ns, n ≤ m)) → (0 ∈ ns) → ((∀ x ∈ dn, ∀ s, (deg S s (x.e s) : Int) ∈ ns)) → (ℓ "rows" = some (.ref y)) → (ℓ "sizes" = some (.ref f)) → P0) → P0) ?_ ?_
    (fun _ kI => kI ([]) (S) ([0]) (rfl) (rfl) (by simp; omega) (s0) (hf0) (by simp) (by simp) (fun _ h => absurd h (by simp)) (rfl) (rfl))⟩
  · intro ℓ σ' hI0
    refine hI0 _ fun dn td ns hS hrem hle s' hf' hmax h0 hd e1 e2 => ?_
    refine ⟨s' _ _ hy, k1 _ _ ?_⟩
    have hnil : td = [] := by
      have := congrArg List.length hrem
      simp at this
      exact List.length_eq_zero_iff.mp this.symm
    subst hnil
    rw [List.append_nil] at hS
    subst hS
    refine Xl fun K2 r2 => ?_
    dsimp only [Z3, Z8, tDo, Zm, Yy, Zy, Zx, Yp, Ws, Yq, Zs, Xf, Xg, tMax, Zn, Yi, Yc, Z4, Zq, Zi, Zo, Zf, Z1, Yh, Zu, Loc.setAll, Loc.set, Loc.bare, Zj, String.reduceBEq, cond_true, cond_false, List.length_cons, List.length_nil, Zc, Zd, Z5, Zp, Z2]
    simp only [e2, listInts, hf', intsV_map]
    refine ⟨List.ne_nil_of_mem h0, fun k hk hkx => r2 _ _ _ (kret _ _ _ _ s' ?_)⟩
    have : k = m := by
      refine Int.le_antisymm (hmax k hk) ?_
      rcases hm.got with q | ⟨s, e, _, _, q⟩
      · rw [q]; exact hkx 0 h0
      · rcases Nat.eq_zero_or_pos m with w | w
        · rw [w]; exact hkx 0 h0
        · have hp : 0 < deg S s e := by omega
          unfold deg at hp
          obtain ⟨x, hx⟩ := List.exists_mem_of_length_pos hp
          have := List.mem_filter.1 hx
          have ex : x.e s = e := by simpa using this.2
          have := hkx _ (hd x this.1 s)
          rw [ex, q] at this
          exact this
    rw [this]; exact hq
  · intro v rem ℓ σ' K2 k2 r2 hI0
    refine hI0 _ fun dn td ns hS hrem hle s' hf' hmax h0 hd e1 e2 => ?_
    refine ⟨s' _ _ hy, ?_⟩
    obtain ⟨x, td2, etd⟩ : ∃ (s : Rw) (r : List Rw), td = s :: r := by cases td with | nil => simp at hrem | cons s r => exact ⟨s, r, rfl⟩
    subst etd
    simp only [List.map_cons, List.cons.injEq] at hrem
    obtain ⟨rfl, rfl⟩ := hrem
    simp only [List.length_cons] at hle
    simp only [Zj]
    have cnt : ∀ (s : Bool) (i : Int) (σ₁ : AH) (ℓ₁ : Loc) (Q' : List V → AH → Prop) (E' : Addr → AH → Prop), (∀ z : Rw, atV ((Wt z).map V.int) i = some (.int (z.e s))) → σ₁ y = some (.list (S.map fun x => rowV (Wt x))) → ℓ₁ "row" = some (rowV (Wt x)) → (∀ xs, (xs.length : Int) = deg S s (x.e s) → Q' xs σ₁) →
        compT (Tgt.name "other") (fun σ => σ y = some (AO.list (S.map fun x => rowV (Wt x)))) (Z1 CmpOp.Eq (Zu (Zo "other") (Zi (V.int i))) (Zu (Zo "row") (Zi (V.int i)))) (Zi (V.int 1)) ℓ₁ (S.map fun x => rowV (Wt x)) [] σ₁ Q' E' := by
      intro s i σ₁ ℓ₁ Q' E' hat hy1 hrow h'
      refine compT_some (fun z : Rw => rowV (Wt z)) (fun z => z.e s == x.e s) (fun _ => V.int 1) hy1 S (fun z hz => ⟨_, fun P h => h, fun Qb h => ?_, fun _ Qv h => h⟩) (h' _ (by simp [deg]))
      dsimp only [Z3, Z8, tDo, Zm, Yy, Zy, Zx, Yp, Ws, Yq, Zs, Xf, Xg, tMax, Zn, Yi, Yc, Z4, Zq, Zi, Zo, Zf, Z1, Yh, Zu, Loc.setAll, Loc.set, Loc.bare, Zj, String.reduceBEq, cond_true, cond_false, List.length_cons, List.length_nil, Zc, Zd, Z5, Zp, Z2]
      simp only [Loc.bare_at, hrow]
      refine W1 (xs := (Wt z).map V.int) (hat z) (W1 (xs := (Wt x).map V.int) (hat x) (eqD_int h))
    refine Yj fun K3 k3 => ?_
    dsimp only [Z3, Z8, tDo, Zm, Yy, Zy, Zx, Yp, Ws, Yq, Zs, Xf, Xg, tMax, Zn, Yi, Yc, Z4, Zq, Zi, Zo, Zf, Z1, Yh, Zu, Loc.setAll, Loc.set, Loc.bare, Zj, String.reduceBEq, cond_true, cond_false, List.length_cons, List.length_nil, Zc, Zd, Z5, Zp, Z2]
    simp only [e1, e2, hf', s' _ _ hy]
    refine ⟨trivial, nofun, cnt false 0 _ _ _ _ (fun z => (rowH_at z).1) (s' _ _ hy) rfl fun xs1 hx1 c hc => ?_⟩
    simp only [AH.set_same, Zt hf' hc]
    refine ⟨by simp [Ym]; omega, k3 _ _ ?_⟩
    have s2 : Sub σ ((σ'.set c (.list xs1)).set f (.list (ns.map V.int ++ [V.int (xs1.length : Int)]))) := (s'.new hc).upd hf
    have hf2 : ((σ'.set c (.list xs1)).set f (.list (ns.map V.int ++ [V.int (xs1.length : Int)]))) f = some (.list ((ns ++ [(xs1.length : Int)]).map V.int)) := by rw [AH.set_same]; simp
    generalize ((σ'.set c (.list xs1)).set f (.list (ns.map V.int ++ [V.int (xs1.length : Int)]))) = σ2 at s2 hf2 ⊢
    refine Yj fun K3 k3 => ?_
    dsimp only [Z3, Z8, tDo, Zm, Yy, Zy, Zx, Yp, Ws, Yq, Zs, Xf, Xg, tMax, Zn, Yi, Yc, Z4, Zq, Zi, Zo, Zf, Z1, Yh, Zu, Loc.setAll, Loc.set, Loc.bare, Zj, String.reduceBEq, cond_true, cond_false, List.length_cons, List.length_nil, Zc, Zd, Z5, Zp, Z2]
    simp only [e1, e2, hf2, s2 _ _ hy]
    refine ⟨trivial, nofun, cnt true 1 _ _ _ _ (fun z => (rowH_at z).2.1) (s2 _ _ hy) rfl fun xs2 hx2 d hd' => ?_⟩
    simp only [AH.set_same, Zt hf2 hd']
    refine ⟨by simp [Ym]; omega, k3 _ _ ?_⟩
    dsimp only [Z3, Z8, tDo, Zm, Yy, Zy, Zx, Yp, Ws, Yq, Zs, Xf, Xg, tMax, Zn, Yi, Yc, Z4, Zq, Zi, Zo, Zf, Z1, Yh, Zu, Loc.setAll, Loc.set, Loc.bare, Zj, String.reduceBEq, cond_true, cond_false, List.length_cons, List.length_nil, Zc, Zd, Z5, Zp, Z2]
    refine k2 _ _ (fun _ kI => kI (dn ++ [x]) (td2) (ns ++ [(xs1.length : Int), (xs2.length : Int)]) (by rw [hS]; simp) (rfl) (by simp; omega) ((s2.new hd').upd hf) (by rw [AH.set_same]; simp) (fun n hn => ?_) (List.mem_append_left _ h0) (fun z hz s => ?_) (e1) (e2))
    · have b1 := hm.all hin false (x.e false)
      have b2 := hm.all hin true (x.e true)
      rcases List.mem_append.1 hn with w | w
      · exact hmax n w
      · simp only [List.mem_cons, List.not_mem_nil, or_false] at w
        rcases w with rfl | rfl <;> omega
    · rcases List.mem_append.1 hz with w | w
      · exact List.mem_append_left _ (hd z w s)
      · rw [List.mem_singleton.1 w]
        refine List.mem_append_right _ ?_
        cases s
        · rw [← hx1]; simp
        · rw [← hx2]; simp
theorem f_is_good (hK : (KK P).In g.b0) (N : NN g) (F_count_of : FnG g "count_of" 2 sCountOf) : Xm g 3 (.ref 307) sIsGood := by
  refine Xm.mono (Y2 (r := 2) (ps := ["rows"]) (hK 307 _ rfl) rfl (CodeRec.mk' (hK 306 _ rfl) rfl rfl) rfl (by intro vs h; obtain ⟨a0, rfl⟩ := len1 h; rfl) rfl rfl rfl (by decide +kernel)
    (Ze (Z9 (at_ (i := 1) rfl) rfl (Z7 (at_ (i := 5) rfl) F_count_of (Zb (Za (.head _) rfl) Zg) rfl) (fun _ => rfl))
  (Ze (Wv (sndI_enum (at_ (i := 6) rfl) (N.n_enumerate) (Za (.head _) rfl) rfl) (.tup (.cons (at_ (i := 2) rfl) rfl (.cons (at_ (i := 3) rfl) rfl .nil))) (Ze (Wo (Y3 (Zr (Za (at_ (i := 3) rfl) rfl) Zh (fun _ _ => rfl)) (Za (at_ (i := 1) rfl) rfl) rfl) (Ze (Zw Ww)
  Zl) Zl)
  (Ze (Wv (Xb (sndE_slice (Za (.head _) rfl) sndO_none (sndO_some (Za (at_ (i := 2) rfl) rfl)))) (.name (at_ (i := 4) rfl) rfl) (Ze (Wo (Wg (sndBs_and (Y3 (Zr (Za (at_ (i := 4) rfl) rfl) Zh (fun _ _ => rfl)) (Zr (Za (at_ (i := 3) rfl) rfl) Zh (fun _ _ => rfl)) rfl) (sndBs_and (Wg (Wi (Y3 (Zr (Za (at_ (i := 4) rfl) rfl) Zh (fun _ _ => rfl)) (Zr (Za (at_ (i := 3) rfl) rfl) Zh (fun _ _ => rfl)) rfl) (Wi (Y3 (Zr (Za (at_ (i := 4) rfl) rfl) Zh (fun _ _ => rfl)) (Zr (Za (at_ (i := 3) rfl) rfl) Zh (fun _ _ => rfl)) rfl) W6))) sndBs_and_nil))) (Ze (Zw Ww)
  Zl) Zl)
  Zl) (fun _ _ => rfl))
  Zl)) (fun _ _ => rfl))
  (Ze (Zw Ww)
  Zl)))) ?_
  rintro xs σ Q E ⟨y, S, a, b, m, rfl, hy, hl, G, hq⟩
  refine Xv rfl fun K KE kret _ _ => ?_
  simp only [Loc.setAll]
  refine Yj fun K1 k1 => ?_
  dsimp only [Z3, Z8, Xa, Zm, Yy, Zy, Zx, tEnum, Zs, Z4, Zq, Zi, Zo, Xy, Wh, Zf, Z1, Yh, Zu, Y1, Y0, Yz, Loc.setAll, Loc.set, Loc.bare, Zj, String.reduceBEq, cond_true, cond_false, List.length_cons, List.length_nil, Zc, Zd, Z5, Zp, Z2]
  refine ⟨y, S, a, b, m, rfl, hy, hl, G.cnt, G.inr, k1 _ _ ?_⟩
  refine X8 fun K1 k1 r1 => ?_
  dsimp only [Z3, Z8, Xa, Zm, Yy, Zy, Zx, tEnum, Zs, Z4, Zq, Zi, Zo, Xy, Wh, Zf, Z1, Yh, Zu, Y1, Y0, Yz, Loc.setAll, Loc.set, Loc.bare, Zj, String.reduceBEq, cond_true, cond_false, List.length_cons, List.length_nil, Zc, Zd, Z5, Zp, Z2]
  simp only [hy, rows_V]
  rw [rows_V] at hy
  refine ⟨fun _ => rfl, loopT_k (fun rem ℓ σ' => ∀ P0 : Prop, (∀ (dn td : List Rw), (S = dn ++ td) → (rem = enumV dn.length (td.map fun x => rowV (Wt x))) → (Sub σ σ') → (ℓ "rows" = some (.ref y)) → (ℓ "many" = some (.int m)) → P0) → P0) ?_ ?_ (fun _ kI => kI ([]) (S) (rfl) (rfl) (Sub.refl) (rfl) (rfl))⟩
  · intro ℓ σ' hI0
    refine hI0 _ fun dn td hS hrem s' e1 e2 => ?_
    refine ⟨s' _ _ hy, k1 _ _ ?_⟩
    refine Xl fun K2 r2 => ?_
    dsimp only [Z3, Z8, Xa, Zm, Yy, Zy, Zx, tEnum, Zs, Z4, Zq, Zi, Zo, Xy, Wh, Zf, Z1, Yh, Zu, Y1, Y0, Yz, Loc.setAll, Loc.set, Loc.bare, Zj, String.reduceBEq, cond_true, cond_false, List.length_cons, List.length_nil, Zc, Zd, Z5, Zp, Z2]
    exact r2 _ _ _ (kret _ _ _ _ s' hq)
  · intro v rem ℓ σ' K2 k2 r2 hI0
    refine hI0 _ fun dn td hS hrem s' e1 e2 => ?_
    refine ⟨s' _ _ hy, ?_⟩
    obtain ⟨x, td2, etd⟩ : ∃ (s : Rw) (r : List Rw), td = s :: r := by cases td with | nil => simp [enumV] at hrem | cons s r => exact ⟨s, r, rfl⟩
    subst etd
    simp only [List.map_cons, enumV, List.cons.injEq] at hrem
    obtain ⟨rfl, rfl⟩ := hrem
    simp only [Zj, partsV, List.length_cons, List.length_nil, true_and, Loc.setAll]
    have hxS : x ∈ S := by rw [hS]; simp
    refine Yj fun K3 k3 => ?_
    dsimp only [Z3, Z8, Xa, Zm, Yy, Zy, Zx, tEnum, Zs, Z4, Zq, Zi, Zo, Xy, Wh, Zf, Z1, Yh, Zu, Y1, Y0, Yz, Loc.setAll, Loc.set, Loc.bare, Zj, String.reduceBEq, cond_true, cond_false, List.length_cons, List.length_nil, Zc, Zd, Z5, Zp, Z2]
    simp only [e2]
    refine W1 (xs := (Wt x).map V.int) (rowH_at x).2.2 ?_
    have hlt := hueN_in G hxS
    simp only [decide_eq_false (show ¬ ((m : Int) ≤ hueN x) by omega)]
    refine k3 _ _ ?_
    refine Yj fun K3 k3 => ?_
    dsimp only [Z3, Z8, Xa, Zm, Yy, Zy, Zx, tEnum, Zs, Z4, Zq, Zi, Zo, Xy, Wh, Zf, Z1, Yh, Zu, Y1, Y0, Yz, Loc.setAll, Loc.set, Loc.bare, Zj, String.reduceBEq, cond_true, cond_false, List.length_cons, List.length_nil, Zc, Zd, Z5, Zp, Z2]
    simp only [e1, s' _ _ hy]
    refine ⟨by simp [Nonneg], by simp [Nonneg], fun sl hsl => ?_⟩
    simp only [AH.set_same]
    have hcut : cutV none (some ((dn.length : Nat) : Int)) (S.map fun x => rowV (Wt x)) = dn.map fun x => rowV (Wt x) := by
      rw [hS]; simp [cutV, takeV, loN]
    rw [hcut]
    refine ⟨nofun, loopT_k (fun rem ℓ' σ'' => ∀ P0 : Prop, (∀ (d1 d2 : List Rw), (dn = d1 ++ d2) → (rem = d2.map (fun x => rowV (Wt x))) → (Sub σ σ'') → (σ'' sl = some (.list (dn.map fun x => rowV (Wt x)))) → (ℓ' "rows" = some (.ref y)) → (ℓ' "many" = some (.int m)) → (ℓ' "row" = some (rowV (Wt x))) → P0) → P0) ?_ ?_ (fun _ kI => kI ([]) (dn) (rfl) (rfl) (s'.new hsl) (AH.set_same) (e1) (e2) (rfl))⟩
    · intro ℓ' σ'' hI0
      refine hI0 _ fun d1 d2 hdn hrem s'' hsl'' g1 g2 g3 => ?_
      refine ⟨hsl'', k3 _ _ ?_⟩
      dsimp only [Z3, Z8, Xa, Zm, Yy, Zy, Zx, tEnum, Zs, Z4, Zq, Zi, Zo, Xy, Wh, Zf, Z1, Yh, Zu, Y1, Y0, Yz, Loc.setAll, Loc.set, Loc.bare, Zj, String.reduceBEq, cond_true, cond_false, List.length_cons, List.length_nil, Zc, Zd, Z5, Zp, Z2]
      exact k2 _ _ (fun _ kI => kI (dn ++ [x]) (td2) (by rw [hS]; simp) (by simp) (s'') (g1) (g2))
    · intro v rem ℓ' σ'' K4 k4 r4 hI0
      refine hI0 _ fun d1 d2 hdn hrem s'' hsl'' g1 g2 g3 => ?_
      refine ⟨hsl'', ?_⟩
      obtain ⟨z, d3, ed⟩ : ∃ (s : Rw) (r : List Rw), d2 = s :: r := by cases d2 with | nil => simp at hrem | cons s r => exact ⟨s, r, rfl⟩
      subst ed
      simp only [List.map_cons, List.cons.injEq] at hrem
      obtain ⟨rfl, rfl⟩ := hrem
      simp only [Zj]
      have hz : z ∈ dn := by rw [hdn]; simp
      have hno := G.apart hS hz
      refine Yj fun K5 k5 => ?_
      have done : K5 .next (ℓ'.set "other" (rowV (Wt z))) σ'' := k5 _ _ (by dsimp only [Z3, Z8, Xa, Zm, Yy, Zy, Zx, tEnum, Zs, Z4, Zq, Zi, Zo, Xy, Wh, Zf, Z1, Yh, Zu, Y1, Y0, Yz, Loc.setAll, Loc.set, Loc.bare, Zj, String.reduceBEq, cond_true, cond_false, List.length_cons, List.length_nil, Zc, Zd, Z5, Zp, Z2]; exact k4 _ _ (fun _ kI => kI (d1 ++ [z]) (d3) (by rw [hdn]; simp) (rfl) (s'') (hsl'') (g1) (g2) (g3)))
      dsimp only [Z3, Z8, Xa, Zm, Yy, Zy, Zx, tEnum, Zs, Z4, Zq, Zi, Zo, Xy, Wh, Zf, Z1, Yh, Zu, Y1, Y0, Yz, Loc.setAll, Loc.set, Loc.bare, Zj, String.reduceBEq, cond_true, cond_false, List.length_cons, List.length_nil, Zc, Zd, Z5, Zp, Z2]
      simp only [g3]
      refine W1 (xs := (Wt z).map V.int) (rowH_at z).2.2 (W1 (xs := (Wt x).map V.int) (rowH_at x).2.2 (eqD_int ?_))
      cases eh : (hueN z == hueN x) with
      | false => exact done
      | true =>
        have no := hno (by simpa using eh)
        refine W1 (xs := (Wt z).map V.int) (rowH_at z).1 (W1 (xs := (Wt x).map V.int) (rowH_at x).1 (eqD_int ?_))
        rw [beq_eq_false_iff_ne.mpr (fun w : z.l = x.l => no (.inl w))]
        refine W1 (xs := (Wt z).map V.int) (rowH_at z).2.1 (W1 (xs := (Wt x).map V.int) (rowH_at x).2.1 (eqD_int ?_))
        rw [beq_eq_false_iff_ne.mpr (fun w : z.r = x.r => no (.inr w))]
        exact done
end
section
open PySem PySem.W PyProof.Rows
variable {g : Gr} {P : Params}
theorem eqD_b2 {σ : AH} {a b c d : Bool} {Q : Bool → Prop} (h : Q ((a == c) && (b == d))) : eqD (.tup [.bool a, .bool b]) (.tup [.bool c, .bool d]) σ Q := by
  unfold eqD
  refine ⟨.tuple [.bool a, .bool b], .tuple [.bool c, .bool d], ?_, ?_, ?_, ?_, ?_⟩
  · unfold Xe; exact ⟨_, rfl, by simp [Wc, Xe]⟩
  · unfold Xe; exact ⟨_, rfl, by simp [Wc, Xe]⟩
  · exact ⟨by simp [PyData.canLay0, PyData.canLayAll0], by simp [PyData.depth, PyData.depthAll]⟩
  · exact ⟨by simp [PyData.canLay0, PyData.canLayAll0], by simp [PyData.depth, PyData.depthAll]⟩
  · simpa [PyData.eqv, PyData.eqvAll] using h
noncomputable def prR (p : Int × Int) : List Int := [p.1, p.2]
theorem prs_rows (ps : List (Int × Int)) : (ps.map prI).map prV = (ps.map prR).map rowV := by simp [prV, prI, prR, rowV, Function.comp_def]
inductive Hand (a b : Int) (qs : List (V × V)) : Prop
  | few (ps : List (Int × Int)) (h1 : qs = ps.map prI) (h2 : AllIn a b ps) (h3 : ps.length ≤ 40) : Hand a b qs
  | many (ps : List (Int × Int)) (p : Int × Int) (tl : List (V × V)) (h1 : qs = ps.map prI ++ prI p :: tl) (h2 : AllIn a b ps) (h4 : (0 ≤ p.1 ∧ p.1 < a) ∧ (0 ≤ p.2 ∧ p.2 < b)) (h3 : ps.length = 40) (h5 : qs.length ≤ 43) : Hand a b qs
theorem AllIn.sub {a b : Int} {ps qs : List (Int × Int)} (h : AllIn a b ps) (k : ∀ p ∈ qs, p ∈ ps) : AllIn a b qs := by
  obtain ⟨h⟩ := h; exact ⟨fun p hp => h p (k p hp)⟩
theorem hand_of {a b : Int} {ps : List (Int × Int)} (h : AllIn a b ps) (hl : ps.length ≤ 43) : Hand a b (ps.map prI) := by
  rcases Nat.lt_or_ge 40 ps.length with q | q
  · have e : ps = ps.take 40 ++ ps[40] :: ps.drop 41 := by rw [← List.drop_eq_getElem_cons q, List.take_append_drop]
    refine .many (ps.take 40) ps[40] ((ps.drop 41).map prI) ?_ (h.sub fun p hp => List.mem_of_mem_take hp) ?_ (by simp; omega) (by simpa using hl)
    · rw [← List.map_cons, ← List.map_append, ← e]
    · obtain ⟨h⟩ := h; exact h _ (List.getElem_mem q)
  · exact .few ps rfl h q
theorem hand_odd {a b : Int} {ps : List (Int × Int)} {i : Nat} {q : V × V} (h : AllIn a b ps) (hl : ps.length ≤ 43) (hi : i < ps.length) (h40 : 40 < i) : Hand a b ((ps.take i).map prI ++ q :: (ps.drop (i + 1)).map prI) := by
  have hlt : 40 < (ps.take i).length := by simp; omega
  have e : ps.take i = (ps.take i).take 40 ++ (ps.take i)[40] :: (ps.take i).drop 41 := by rw [← List.drop_eq_getElem_cons hlt, List.take_append_drop]
  refine .many ((ps.take i).take 40) (ps.take i)[40] (((ps.take i).drop 41).map prI ++ q :: (ps.drop (i + 1)).map prI) ?_ (h.sub fun p hp => List.mem_of_mem_take (List.mem_of_mem_take hp)) ?_ (by simp; omega) (by simp; omega)
  · conv => lhs; rw [e]
    simp
  · obtain ⟨h⟩ := h; exact h _ (List.mem_of_mem_take (List.getElem_mem hlt))
theorem zipV_map {α : Type} (f k : α → V) : ∀ xs : List α, zipV (xs.map f) (xs.map k) = xs.map fun x => .tup [f x, k x]
  | [] => rfl
  | x :: xs => by simp [zipV, zipV_map f k xs]
theorem ps_of {S : List Rw} {ps : List (Int × Int)} (hl : S.length = ps.length) (hg : ∀ (i : Nat) x, S[i]? = some x → x.n = i ∧ ps[i]? = some (x.l, x.r)) : ps = S.map fun x => (x.l, x.r) := by
  apply List.ext_getElem?
  intro i
  rw [List.getElem?_map]
  cases e : S[i]? with
  | some x => exact (hg i x e).2
  | none => rw [List.getElem?_eq_none (by rw [← hl]; exact List.getElem?_eq_none_iff.1 e)]; rfl
theorem f_law (hK : (KK P).In g.b0) (N : NN g) (F_law_cell_at : FnG g "_law_cell_at" 11 sCellAt) (F_law_sizes_by : FnG g "_law_sizes_by" 11 sSizesBy) (F_law_pairs : FnG g "_law_pairs" 11 sPairs9) (F_law_told : FnG g "_law_told" 11 (sTold9 CB CT)) (F_law_whole : FnG g "_law_whole" 11 Zz) (F_is_good : FnG g "is_good" 11 sIsGood) (F_count_of : FnG g "count_of" 11 sCountOf) (F_law_hall : FnG g "_law_hall" 11 sHall9) : Xm g 12 (.ref 364) sLawT := by
  refine Xm.mono (Y2 (r := 11) (ps := ["_law_script"]) (hK 364 _ rfl) rfl (CodeRec.mk' (hK 363 _ rfl) rfl rfl) rfl (by intro vs h; obtain ⟨a0, rfl⟩ := len1 h; rfl) rfl rfl rfl (by decide +kernel)
    (Ze (Z9 (at_ (i := 1) rfl) rfl (Z7 (at_ (i := 11) rfl) F_law_sizes_by (Zb (Z7 (at_ (i := 12) rfl) F_law_cell_at (Zb (Za (.head _) rfl) (Zb Zh Zg)) rfl) Zg) rfl) (fun _ => rfl))
  (Ze (Z9 (at_ (i := 2) rfl) rfl (Z7 (at_ (i := 13) rfl) F_law_pairs (Zb (Za (.head _) rfl) (Zb (Za (at_ (i := 1) rfl) rfl) Zg)) rfl) (fun _ => rfl))
  (Ze (Z9 (at_ (i := 3) rfl) rfl (Z7 (at_ (i := 12) rfl) F_law_cell_at (Zb (Za (.head _) rfl) (Zb Zh Zg)) rfl) (fun _ => rfl))
  (Ze (Z9 (at_ (i := 4) rfl) rfl (Yo (Zb Ww (Zb Ww Zg))) (fun _ => rfl))
  (Ze (Wo (Wg (sndBs_and (Y3 (Yk (Za (at_ (i := 3) rfl) rfl) Zh) Zh rfl) (sndBs_and (Y3 (Za (at_ (i := 2) rfl) rfl) (Xo Zg) rfl) sndBs_and_nil))) (Ze (Z9 (at_ (i := 5) rfl) rfl (Yk (Yk (Za (at_ (i := 3) rfl) rfl) Zh) (Z7 (at_ (i := 14) rfl) (Xc N.n_len Wp) (Zb (Za (at_ (i := 2) rfl) rfl) Zg) rfl)) (fun _ => rfl))
  (Ze (Z9 (at_ (i := 6) rfl) rfl (Zr (Xo (Zb (Yo (Zb (Zr (Za (at_ (i := 1) rfl) rfl) Zh (fun _ _ => rfl)) (Zb Zh Zg))) (Zb (Yo (Zb Zh (Zb (Zr (Za (at_ (i := 1) rfl) rfl) Zh (fun _ _ => rfl)) Zg))) (Zb (Yo (Zb (sndE_neg Zh) (Zb Zh Zg))) (Zb (Yo (Zb Zh (Zb sndE_none Zg))) (Zb (Yo (Zb Ww (Zb Zh Zg))) (Zb (Yo (Zb (sndE_str (fitsS (by decide))) (Zb Zh Zg))) Zg))))))) (Yk (Yk (Za (at_ (i := 3) rfl) rfl) Zh) Zh) (fun _ _ => rfl)) (fun _ => rfl))
  (Ze (Z9 (at_ (i := 2) rfl) rfl (Yk (Yk (sndE_slice (Za (at_ (i := 2) rfl) rfl) sndO_none (sndO_some (Za (at_ (i := 5) rfl) rfl))) (Xo (Zb (Za (at_ (i := 6) rfl) rfl) Zg))) (sndE_slice (Za (at_ (i := 2) rfl) rfl) (sndO_some (Yk (Za (at_ (i := 5) rfl) rfl) Zh)) sndO_none)) (fun _ => rfl))
  (Ze (Wo (Y3 (Za (at_ (i := 5) rfl) rfl) Zh rfl) (Ze (Zw (sndE_cmp (Z7 (at_ (i := 15) rfl) F_law_told (Zb (Za (at_ (i := 1) rfl) rfl) (Zb (Za (at_ (i := 2) rfl) rfl) Zg)) rfl) (Yo (Zb Ww (Zb Ww Zg))) rfl))
  Zl) Zl)
  Zl)))) Zl)
  (Ze (Z9 (at_ (i := 7) rfl) rfl (Z7 (at_ (i := 16) rfl) (fn_type N.n_list sndF_list) (Zb (Za (at_ (i := 2) rfl) rfl) Zg) rfl) (fun _ => rfl))
  (Ze (Z9 (at_ (i := 8) rfl) rfl (Z7 (at_ (i := 15) rfl) F_law_told (Zb (Za (at_ (i := 1) rfl) rfl) (Zb (Za (at_ (i := 7) rfl) rfl) Zg)) rfl) (fun _ => rfl))
  (Ze (Wo (Y3 (Z7 (at_ (i := 14) rfl) (Xc N.n_len Wp) (Zb (Za (at_ (i := 2) rfl) rfl) Zg) rfl) Zh rfl) (Ze (Zw (sndE_cmp (Za (at_ (i := 8) rfl) rfl) (Za (at_ (i := 4) rfl) rfl) rfl))
  Zl) Zl)
  (Ze (Wo (Wg (Wi (sndB_not (sndB_value (W8 (k := .list) (at_ (i := 17) rfl) (N.n_isinstance) (at_ (i := 16) rfl) (N.n_list) (Za (at_ (i := 8) rfl) rfl) rfl) (fun _ _ => rfl))) (Wi (Y3 (Z7 (at_ (i := 14) rfl) (Xc N.n_len Wp) (Zb (Za (at_ (i := 8) rfl) rfl) Zg) rfl) (Z7 (at_ (i := 14) rfl) (Xc N.n_len Wp) (Zb (Za (at_ (i := 2) rfl) rfl) Zg) rfl) rfl) (Wi (sndB_not (sndB_value (Z7 (at_ (i := 18) rfl) (Xc N.n_all sndF_all) (Zb (sndE_comp (by decide +kernel) (Xb (Za (at_ (i := 8) rfl) rfl)) (.name (at_ (i := 1) rfl) rfl) (by decide +kernel) sndT_nil (Z7 (at_ (i := 2) rfl) F_law_whole (Zb (Za (at_ (i := 1) rfl) rfl) Zg) rfl) (fun _ _ => rfl)) Zg) rfl) (fun _ _ => rfl))) W6)))) (Ze (Zw Ww)
  Zl) Zl)
  (Ze (sndS_assignCompH (at_ (i := 9) rfl) rfl (by decide +kernel) (sndIH_zip (at_ (i := 19) rfl) (N.n_zip) (Za (at_ (i := 2) rfl) rfl) (Za (at_ (i := 8) rfl) rfl) rfl rfl) (.tup (.cons (at_ (i := 1) rfl) rfl (.cons (at_ (i := 2) rfl) rfl .nil))) (by decide +kernel) (fun _ _ => sndT_nil) (fun _ _ => (Yk (Za (at_ (i := 1) rfl) rfl) (Yo (Zb (Za (at_ (i := 2) rfl) rfl) Zg)))) (fun _ _ => rfl))
  (Ze (Wo (Wg (Wi (sndB_not (sndB_value (Z7 (at_ (i := 20) rfl) F_is_good (Zb (Za (at_ (i := 9) rfl) rfl) Zg) rfl) (fun _ _ => rfl))) (Wi (Y3 (sndE_sortedSet (at_ (i := 21) rfl) (N.n_sorted) (at_ (i := 22) rfl) (N.n_set) (Za (at_ (i := 8) rfl) rfl) rfl) (sndE_listRange (at_ (i := 16) rfl) (N.n_list) (at_ (i := 23) rfl) (N.n_range) (Z7 (at_ (i := 24) rfl) F_count_of (Zb (Za (at_ (i := 9) rfl) rfl) Zg) rfl) rfl) rfl) W6))) (Ze (Zw Ww)
  Zl) Zl)
  (Ze (Wv (sndI_range1 (at_ (i := 23) rfl) (N.n_range) (Z7 (at_ (i := 14) rfl) (Xc N.n_len Wp) (Zb (Za (at_ (i := 9) rfl) rfl) Zg) rfl) rfl) (.name (at_ (i := 10) rfl) rfl) (Ze (Wo (Y3 (sndE_comp (by decide +kernel) (Xb (sndE_slice (Za (at_ (i := 9) rfl) rfl) sndO_none (sndO_some (Za (at_ (i := 10) rfl) rfl)))) (.name (at_ (i := 1) rfl) rfl) (by decide +kernel) (sndT_one (Wg (sndBs_and (Y3 (Zr (Za (at_ (i := 1) rfl) rfl) Zh (fun _ _ => rfl)) (Zr (Za (at_ (i := 2) rfl) rfl) (Za (at_ (i := 3) rfl) rfl) (fun _ _ => rfl)) rfl) (sndBs_and (Wg (Wi (Y3 (Zr (Za (at_ (i := 1) rfl) rfl) Zh (fun _ _ => rfl)) (Zr (Zr (Za (at_ (i := 4) rfl) rfl) (Za (at_ (i := 3) rfl) rfl) (fun _ _ => rfl)) Zh (fun _ _ => rfl)) rfl) (Wi (Y3 (Zr (Za (at_ (i := 1) rfl) rfl) Zh (fun _ _ => rfl)) (Zr (Zr (Za (at_ (i := 4) rfl) rfl) (Za (at_ (i := 3) rfl) rfl) (fun _ _ => rfl)) Zh (fun _ _ => rfl)) rfl) W6))) sndBs_and_nil)))) (Za (at_ (i := 1) rfl) rfl) (fun _ _ => rfl)) (Xo Zg) rfl) (Ze (Zw Ww)
  Zl) Zl)
  Zl) (fun _ _ => rfl))
  (Ze (Zw (sndE_boolop (sndV_and (sndE_cmp (Z7 (at_ (i := 15) rfl) F_law_told (Zb (Za (at_ (i := 1) rfl) rfl) (Zb (Za (at_ (i := 7) rfl) rfl) Zg)) rfl) (Za (at_ (i := 8) rfl) rfl) rfl) (sndV_and (sndE_cmp (Z7 (at_ (i := 25) rfl) F_law_hall (Zb (Za (at_ (i := 1) rfl) rfl) (Zb (Za (at_ (i := 2) rfl) rfl) Zg)) rfl) (Za (at_ (i := 8) rfl) rfl) rfl) (sndV_one (sndE_cmp (Za (at_ (i := 7) rfl) rfl) (Za (at_ (i := 2) rfl) rfl) rfl))))))
  Zl)))))))))))))) ?_
  rintro xs σ Q E ⟨ns, rfl, hns, hq⟩
  refine Xv rfl fun K KE kret _ _ => ?_
  simp only [Loc.setAll]
  refine Yj fun K1 k1 => ?_
  dsimp only [Z3, Z8, Xa, Zm, Zk, Yy, Zy, Zx, Yd, Zs, Xf, Xg, Ys, tIsI, isiV, Zn, Yi, Yc, Z6, Z4, Zq, Zi, Zo, Y9, Yn, Xr, Xy, Wh, Zf, tCmp, Z1, Yh, Xj, Xd, tNeg, tAnd, Zu, Y1, Y0, Yz, Loc.setAll, Loc.set, Loc.bare, Zj, String.reduceBEq, cond_true, cond_false, List.length_cons, List.length_nil, Zz, Z0, Zc, Zd, Z5, Zp, Z2]
  refine ⟨ns, 0, rfl, fun c0 => ⟨c0, rfl, fun a b kk ha1 ha2 hb1 hb2 => k1 _ _ ?_⟩⟩
  refine Yj fun K1 k1 => ?_
  dsimp only [Z3, Z8, Xa, Zm, Zk, Yy, Zy, Zx, Yd, Zs, Xf, Xg, Ys, tIsI, isiV, Zn, Yi, Yc, Z6, Z4, Zq, Zi, Zo, Y9, Yn, Xr, Xy, Wh, Zf, tCmp, Z1, Yh, Xj, Xd, tNeg, tAnd, Zu, Y1, Y0, Yz, Loc.setAll, Loc.set, Loc.bare, Zj, String.reduceBEq, cond_true, cond_false, List.length_cons, List.length_nil, Zz, Z0, Zc, Zd, Z5, Zp, Z2]
  refine ⟨ns, a, b, kk, rfl, ⟨ha1, ha2⟩, ⟨hb1, hb2⟩, hns, fun ps pa hl hin hpa0 => k1 _ _ ?_⟩
  refine Yj fun K1 k1 => ?_
  dsimp only [Z3, Z8, Xa, Zm, Zk, Yy, Zy, Zx, Yd, Zs, Xf, Xg, Ys, tIsI, isiV, Zn, Yi, Yc, Z6, Z4, Zq, Zi, Zo, Y9, Yn, Xr, Xy, Wh, Zf, tCmp, Z1, Yh, Xj, Xd, tNeg, tAnd, Zu, Y1, Y0, Yz, Loc.setAll, Loc.set, Loc.bare, Zj, String.reduceBEq, cond_true, cond_false, List.length_cons, List.length_nil, Zz, Z0, Zc, Zd, Z5, Zp, Z2]
  refine ⟨ns, 1, rfl, fun cell => k1 _ _ ?_⟩
  refine Yj fun K1 k1 => ?_
  dsimp only [Z3, Z8, Xa, Zm, Zk, Yy, Zy, Zx, Yd, Zs, Xf, Xg, Ys, tIsI, isiV, Zn, Yi, Yc, Z6, Z4, Zq, Zi, Zo, Y9, Yn, Xr, Xy, Wh, Zf, tCmp, Z1, Yh, Xj, Xd, tNeg, tAnd, Zu, Y1, Y0, Yz, Loc.setAll, Loc.set, Loc.bare, Zj, String.reduceBEq, cond_true, cond_false, List.length_cons, List.length_nil, Zz, Z0, Zc, Zd, Z5, Zp, Z2]
  refine ⟨by simp [Ym], k1 _ _ ?_⟩
  have hpa : (σ.set pa (.list ((ps.map prI).map prV))) pa = some (.list ((ps.map prI).map prV)) := AH.set_same
  have s1 : Sub σ (σ.set pa (.list ((ps.map prI).map prV))) := Sub.refl.new hpa0
  generalize σ.set pa (.list ((ps.map prI).map prV)) = σ1 at hpa s1 ⊢
  refine X8 fun K1 k1 r1 => ?_
  have cont : ∀ (ℓ1 : Loc) (σ2 : AH) (pb : Addr) (qs : List (V × V)), Sub σ σ2 → σ2 pb = some (.list (qs.map prV)) → Hand a b qs → ℓ1 "_law_sizes" = some (.tup [.int a, .int b, .int kk]) → ℓ1 "_law_pairs_here" = some (.ref pb) → ℓ1 "_law_due" = some (.tup [.bool false, .bool true]) → K1 .next ℓ1 σ2 := by
    intro ℓ1 σ2 pb qs s2 hpb hh e1 e2 e3
    refine k1 _ _ ?_
    refine Yj fun K2 k2 => ?_
    dsimp only [Z3, Z8, Xa, Zm, Zk, Yy, Zy, Zx, Yd, Zs, Xf, Xg, Ys, tIsI, isiV, Zn, Yi, Yc, Z6, Z4, Zq, Zi, Zo, Y9, Yn, Xr, Xy, Wh, Zf, tCmp, Z1, Yh, Xj, Xd, tNeg, tAnd, Zu, Y1, Y0, Yz, Loc.setAll, Loc.set, Loc.bare, Zj, String.reduceBEq, cond_true, cond_false, List.length_cons, List.length_nil, Zz, Z0, Zc, Zd, Z5, Zp, Z2]
    simp only [e2, partsV, hpb]
    refine fun hd hhd => k2 _ _ ?_
    have s3 : Sub σ2 (σ2.set hd (.list (qs.map prV))) := Sub.refl.new hhd
    have hhd3 : (σ2.set hd (.list (qs.map prV))) hd = some (.list (qs.map prV)) := AH.set_same
    generalize σ2.set hd (.list (qs.map prV)) = σ3 at s3 hhd3 ⊢
    have hpb3 := s3 _ _ hpb
    refine Yj fun K2 k2 => ?_
    dsimp only [Z3, Z8, Xa, Zm, Zk, Yy, Zy, Zx, Yd, Zs, Xf, Xg, Ys, tIsI, isiV, Zn, Yi, Yc, Z6, Z4, Zq, Zi, Zo, Y9, Yn, Xr, Xy, Wh, Zf, tCmp, Z1, Yh, Xj, Xd, tNeg, tAnd, Zu, Y1, Y0, Yz, Loc.setAll, Loc.set, Loc.bare, Zj, String.reduceBEq, cond_true, cond_false, List.length_cons, List.length_nil, Zz, Z0, Zc, Zd, Z5, Zp, Z2]
    simp only [e1]
    rcases hh with ⟨ps', hqs, hin', h40⟩ | ⟨ps', p, tl, hqs, hin', hp, h40, h43⟩
    · subst hqs
      refine ⟨a, b, kk, hd, ps', [], rfl, by rw [List.append_nil]; exact hhd3, ⟨⟨ha1, ha2⟩, ⟨hb1, hb2⟩, h40, by simp, hin', fun _ S y R hy => k2 _ _ ?_, nofun⟩⟩
      have s4 : Sub σ3 (σ3.set y (.list ((huesS S).map V.int))) := Sub.refl.new hy
      have hy4 : (σ3.set y (.list ((huesS S).map V.int))) y = some (.list ((huesS S).map V.int)) := AH.set_same
      generalize σ3.set y (.list ((huesS S).map V.int)) = σ4 at s4 hy4 ⊢
      obtain ⟨⟨m, G⟩, hSl, hSg⟩ := R.good
      refine Yj fun K2 k2 => ?_
      dsimp only [Z3, Z8, Xa, Zm, Zk, Yy, Zy, Zx, Yd, Zs, Xf, Xg, Ys, tIsI, isiV, Zn, Yi, Yc, Z6, Z4, Zq, Zi, Zo, Y9, Yn, Xr, Xy, Wh, Zf, tCmp, Z1, Yh, Xj, Xd, tNeg, tAnd, Zu, Y1, Y0, Yz, Loc.setAll, Loc.set, Loc.bare, Zj, String.reduceBEq, cond_true, cond_false, List.length_cons, List.length_nil, Zz, Z0, Zc, Zd, Z5, Zp, Z2]
      simp only [e2, s4 _ _ hpb3, List.length_map]
      simp only [decide_eq_false (show ¬ ((40 : Int) < (ps'.length : Int)) by omega)]
      refine k2 _ _ ?_
      refine Yj fun K2 k2 => ?_
      dsimp only [Z3, Z8, Xa, Zm, Zk, Yy, Zy, Zx, Yd, Zs, Xf, Xg, Ys, tIsI, isiV, Zn, Yi, Yc, Z6, Z4, Zq, Zi, Zo, Y9, Yn, Xr, Xy, Wh, Zf, tCmp, Z1, Yh, Xj, Xd, tNeg, tAnd, Zu, Y1, Y0, Yz, Loc.setAll, Loc.set, Loc.bare, Zj, String.reduceBEq, cond_true, cond_false, List.length_cons, List.length_nil, Zz, Z0, Zc, Zd, Z5, Zp, Z2]
      have hhl : (((huesS S).length : Nat) : Int) = (ps'.length : Nat) := by unfold huesS; rw [List.length_map, hSl]
      simp only [hy4, Bool.not_true, e2, s4 _ _ hpb3, List.length_map]
      refine eqD_int ?_
      rw [hhl, BEq.rfl]
      simp only [Bool.not_true]
      refine ⟨nofun, compT_each V.int (fun _ => V.bool true) hy4 (huesS S) (fun k hk => ⟨_, fun P h => h, fun Qv hQ => ?_⟩) fun ab hab => ?_⟩
      · dsimp only [Z3, Z8, Xa, Zm, Zk, Yy, Zy, Zx, Yd, Zs, Xf, Xg, Ys, tIsI, isiV, Zn, Yi, Yc, Z6, Z4, Zq, Zi, Zo, Y9, Yn, Xr, Xy, Wh, Zf, tCmp, Z1, Yh, Xj, Xd, tNeg, tAnd, Zu, Y1, Y0, Yz, Loc.setAll, Loc.set, Loc.bare, Zj, String.reduceBEq, cond_true, cond_false, List.length_cons, List.length_nil, Zz, Z0, Zc, Zd, Z5, Zp, Z2]
        exact ⟨_, rfl, hQ⟩
      refine ⟨ab, (huesS S).map fun _ => true, rfl, by rw [AH.set_same, List.map_map]; rfl, ?_⟩
      have hall : (((huesS S).map fun _ => true).all id) = true := by simp
      rw [hall]
      refine k2 _ _ ?_
      have s5 : Sub σ4 (σ4.set ab (.list ((huesS S).map fun _ => V.bool true))) := Sub.refl.new hab
      generalize σ4.set ab (.list ((huesS S).map fun _ => V.bool true)) = σ5 at s5 ⊢
      have hy5 := s5 _ _ hy4
      have hpb5 := s5 _ _ (s4 _ _ hpb3)
      have hhd5 := s5 _ _ (s4 _ _ hhd3)
      refine Yj fun K2 k2 => ?_
      dsimp only [Z3, Z8, Xa, Zm, Zk, Yy, Zy, Zx, Yd, Zs, Xf, Xg, Ys, tIsI, isiV, Zn, Yi, Yc, Z6, Z4, Zq, Zi, Zo, Y9, Yn, Xr, Xy, Wh, Zf, tCmp, Z1, Yh, Xj, Xd, tNeg, tAnd, Zu, Y1, Y0, Yz, Loc.setAll, Loc.set, Loc.bare, Zj, String.reduceBEq, cond_true, cond_false, List.length_cons, List.length_nil, Zz, Z0, Zc, Zd, Z5, Zp, Z2]
      simp only [e2]
      have hps' := ps_of hSl hSg
      refine ⟨pb, y, _, _, rfl, rfl, hpb5, hy5, fun _ => rfl, ?_⟩
      have hzip : zipV ((ps'.map prI).map prV) ((huesS S).map V.int) = S.map fun x => V.tup [V.tup [V.int x.l, V.int x.r], V.int (hueN x)] := by
        rw [hps']; unfold huesS
        rw [List.map_map, List.map_map, List.map_map, zipV_map]; rfl
      have hinv : σ5 pb = some (.list ((ps'.map prI).map prV)) ∧ σ5 y = some (.list ((huesS S).map V.int)) := ⟨hpb5, hy5⟩
      rw [hzip]
      refine compT_each (fun x : Rw => V.tup [V.tup [V.int x.l, V.int x.r], V.int (hueN x)]) (fun x => rowV (Wt x)) hinv S (fun x hx => ⟨_, fun P h => ⟨rfl, h⟩, fun Qv hQ => ?_⟩) fun rb hrb => k2 _ _ ?_
      · simp only [Loc.setAll]
        dsimp only [Z3, Z8, Xa, Zm, Zk, Yy, Zy, Zx, Yd, Zs, Xf, Xg, Ys, tIsI, isiV, Zn, Yi, Yc, Z6, Z4, Zq, Zi, Zo, Y9, Yn, Xr, Xy, Wh, Zf, tCmp, Z1, Yh, Xj, Xd, tNeg, tAnd, Zu, Y1, Y0, Yz, Loc.setAll, Loc.set, Loc.bare, Zj, String.reduceBEq, cond_true, cond_false, List.length_cons, List.length_nil, Zz, Z0, Zc, Zd, Z5, Zp, Z2]
        exact ⟨by simp [Ym], by simp [Ym], hQ⟩
      have hrows : (σ5.set rb (.list (S.map fun x => rowV (Wt x)))) rb = some (.list (S.map fun x => rowV (Wt x))) := AH.set_same
      have s6 : Sub σ5 (σ5.set rb (.list (S.map fun x => rowV (Wt x)))) := Sub.refl.new hrb
      generalize σ5.set rb (.list (S.map fun x => rowV (Wt x))) = σ6 at hrows s6 ⊢
      have hS100 : S.length ≤ 100 := by omega
      refine Yj fun K2 k2 => ?_
      dsimp only [Z3, Z8, Xa, Zm, Zk, Yy, Zy, Zx, Yd, Zs, Xf, Xg, Ys, tIsI, isiV, Zn, Yi, Yc, Z6, Z4, Zq, Zi, Zo, Y9, Yn, Xr, Xy, Wh, Zf, tCmp, Z1, Yh, Xj, Xd, tNeg, tAnd, Zu, Y1, Y0, Yz, Loc.setAll, Loc.set, Loc.bare, Zj, String.reduceBEq, cond_true, cond_false, List.length_cons, List.length_nil, Zz, Z0, Zc, Zd, Z5, Zp, Z2]
      refine ⟨rb, S, a, b, m, rfl, by rw [rows_V]; exact hrows, hS100, G, ?_⟩
      simp only [Bool.not_true]
      simp only [listInts, s6 _ _ hy5, intsV_map]
      refine ⟨by omega, fun ns' sb hsrt hmem hsb => ?_⟩
      obtain rfl : ns' = Wx m := same_sorted hsrt (rng_sorted m) fun k => (hmem k).trans (hues_all G k)
      have hmS := cnt_le_length G.cnt
      refine ⟨rb, S, a, b, m, rfl, by rw [rows_V]; exact Zt hrows hsb, hS100, G.cnt, G.inr, by omega, by unfold Ym; omega, fun lb hlb => ?_⟩
      have hzm : Int.toNat ((m : Nat) : Int) = m := by simp
      rw [hzm, rangeV_rng]
      refine eqD_ints (ns := Wx m) (ms := Wx m) (Zt AH.set_same hlb) AH.set_same ?_
      rw [BEq.rfl]
      refine k2 _ _ ?_
      have s7 : Sub σ6 ((σ6.set sb (.list ((Wx m).map V.int))).set lb (.list ((Wx m).map V.int))) := (Sub.refl.new hsb).new hlb
      generalize (σ6.set sb (.list ((Wx m).map V.int))).set lb (.list ((Wx m).map V.int)) = σ7 at s7 ⊢
      have hrows7 := s7 _ _ hrows
      have hy7 := s7 _ _ (s6 _ _ hy5)
      have hpb7 := s7 _ _ (s6 _ _ hpb5)
      have hhd7 := s7 _ _ (s6 _ _ hhd5)
      clear hrows hy5 hpb5 hhd5 hhd3 hpb3 hy4
      refine Yj fun K2 k2 => ?_
      dsimp only [Z3, Z8, Xa, Zm, Zk, Yy, Zy, Zx, Yd, Zs, Xf, Xg, Ys, tIsI, isiV, Zn, Yi, Yc, Z6, Z4, Zq, Zi, Zo, Y9, Yn, Xr, Xy, Wh, Zf, tCmp, Z1, Yh, Xj, Xd, tNeg, tAnd, Zu, Y1, Y0, Yz, Loc.setAll, Loc.set, Loc.bare, Zj, String.reduceBEq, cond_true, cond_false, List.length_cons, List.length_nil, Zz, Z0, Zc, Zd, Z5, Zp, Z2]
      simp only [hrows7, List.length_map]
      have hzS : Int.toNat ((S.length : Nat) : Int) = S.length := by simp
      rw [hzS]
      refine ⟨by omega, by unfold Ym; omega, nofun, loopT_rangeK (fun i ℓ σ' => ∀ P0 : Prop, ((Sub σ7 σ') → (ℓ "_law_sizes" = some (.tup [.int a, .int b, .int kk])) → (ℓ "_law_pairs_here" = some (.ref pb)) → (ℓ "_law_handed" = some (.ref hd)) → (ℓ "_law_found" = some (.ref y)) → (ℓ "_law_rows" = some (.ref rb)) → P0) → P0) ?_ ?_ (fun _ kI => kI (Sub.refl) (e1) (e2) (rfl) (rfl) (rfl))⟩
      · intro ℓ8 σ8 hI0
        refine hI0 _ fun s8 g1 g2 g3 g4 g5 => ?_
        refine ⟨trivial, k2 _ _ ?_⟩
        have hy8 := s8 _ _ hy7
        have hpb8 := s8 _ _ hpb7
        have hhd8 := s8 _ _ hhd7
        refine Xl fun K3 r3 => ?_
        dsimp only [Z3, Z8, Xa, Zm, Zk, Yy, Zy, Zx, Yd, Zs, Xf, Xg, Ys, tIsI, isiV, Zn, Yi, Yc, Z6, Z4, Zq, Zi, Zo, Y9, Yn, Xr, Xy, Wh, Zf, tCmp, Z1, Yh, Xj, Xd, tNeg, tAnd, Zu, Y1, Y0, Yz, Loc.setAll, Loc.set, Loc.bare, Zj, String.reduceBEq, cond_true, cond_false, List.length_cons, List.length_nil, Zz, Z0, Zc, Zd, Z5, Zp, Z2]
        simp only [g1, g2, g3, g4]
        refine ⟨a, b, kk, hd, ps', [], rfl, by rw [List.append_nil]; exact hhd8, ⟨⟨ha1, ha2⟩, ⟨hb1, hb2⟩, h40, by simp, hin', fun _ S2 y2 R2 hy2 => ?_, nofun⟩⟩
        obtain rfl : S = S2 := R.det R2
        refine eqD_ints AH.set_same (Zt hy8 hy2) ?_
        rw [BEq.rfl]
        refine ⟨a, b, kk, pb, ps', rfl, ⟨ha1, ha2⟩, ⟨hb1, hb2⟩, h40, hin', Zt hpb8 hy2, fun S3 y3 R3 hy3 => ?_⟩
        obtain rfl : S = S3 := R.det R3
        refine eqD_ints AH.set_same (Zt (Zt hy8 hy2) hy3) ?_
        rw [BEq.rfl]
        rw [prs_rows] at hhd8 hpb8
        refine eqD_rows (Zt (Zt hhd8 hy2) hy3) (Zt (Zt hpb8 hy2) hy3) ?_
        rw [BEq.rfl]
        exact r3 _ _ _ (kret _ _ _ _ Sub.refl (hq _))
      · intro i ℓ8 σ8 K3 hi k3 r3 hI0
        refine hI0 _ fun s8 g1 g2 g3 g4 g5 => ?_
        refine ⟨trivial, ?_⟩
        simp only [Zj]
        have hi' : i < S.length := hi
        have hsplit : S = S.take i ++ S[i] :: S.drop (i + 1) := by rw [← List.drop_eq_getElem_cons hi', List.take_append_drop]
        have hy8 := s8 _ _ hy7
        have hpb8 := s8 _ _ hpb7
        have hrows8 := s8 _ _ hrows7
        have af : atV ((huesS S).map V.int) (i : Int) = some (.int (hueN S[i])) := atV_nat (by unfold huesS; simp [hi'])
        have ap : atV ((ps'.map prI).map prV) (i : Int) = some (prV (prI (S[i].l, S[i].r))) := atV_nat (by rw [hps']; simp [hi'])
        refine Yj fun K4 k4 => ?_
        refine tIfS_k fun KB2 kt2 kf2 => ?_
        dsimp only [Z3, Z8, Xa, Zm, Zk, Yy, Zy, Zx, Yd, Zs, Xf, Xg, Ys, tIsI, isiV, Zn, Yi, Yc, Z6, Z4, Zq, Zi, Zo, Y9, Yn, Xr, Xy, Wh, Zf, tCmp, Z1, Yh, Xj, Xd, tNeg, tAnd, Zu, Y1, Y0, Yz, Loc.setAll, Loc.set, Loc.bare, Zj, String.reduceBEq, cond_true, cond_false, List.length_cons, List.length_nil, Zz, Z0, Zc, Zd, Z5, Zp, Z2]
        simp only [g5, hrows8]
        refine ⟨trivial, by simp [Nonneg], fun sl hsl => ?_⟩
        have hcut : cutV none (some ((i : Nat) : Int)) (S.map fun x => rowV (Wt x)) = (S.take i).map fun x => rowV (Wt x) := by simp [cutV, takeV, loN]
        rw [hcut]
        simp only [AH.set_same]
        refine ⟨nofun, compT_some (fun x : Rw => rowV (Wt x)) (fun _ => false) (fun x => rowV (Wt x)) AH.set_same (S.take i) (fun z hz => ⟨_, fun P h => h, fun Qb hQ => ?_, fun w => nomatch w⟩) fun fb hfb => ?_⟩
        · have hno := G.apart hsplit hz
          dsimp only [Z3, Z8, Xa, Zm, Zk, Yy, Zy, Zx, Yd, Zs, Xf, Xg, Ys, tIsI, isiV, Zn, Yi, Yc, Z6, Z4, Zq, Zi, Zo, Y9, Yn, Xr, Xy, Wh, Zf, tCmp, Z1, Yh, Xj, Xd, tNeg, tAnd, Zu, Y1, Y0, Yz, Loc.setAll, Loc.set, Loc.bare, Zj, String.reduceBEq, cond_true, cond_false, List.length_cons, List.length_nil, Zz, Z0, Zc, Zd, Z5, Zp, Z2]
          simp only [g2, g4]
          refine W1 (xs := (Wt z).map V.int) (rowH_at z).2.2 (itemL (Zt hy8 hsl) af (eqD_int ?_))
          cases eh : (hueN z == hueN S[i]) with
          | false => exact hQ
          | true =>
            have no := hno (by simpa using eh)
            refine W1 (xs := (Wt z).map V.int) (rowH_at z).1 (itemL (Zt hpb8 hsl) ap (W1 (xs := [V.int S[i].l, V.int S[i].r]) (Xx (by decide) rfl) (eqD_int ?_)))
            rw [beq_eq_false_iff_ne.mpr (fun w : z.l = S[i].l => no (.inl w))]
            refine W1 (xs := (Wt z).map V.int) (rowH_at z).2.1 (itemL (Zt hpb8 hsl) ap (W1 (xs := [V.int S[i].l, V.int S[i].r]) (Xx (by decide) rfl) (eqD_int ?_)))
            rw [beq_eq_false_iff_ne.mpr (fun w : z.r = S[i].r => no (.inr w))]
            exact hQ
        · have hnil : ((S.take i).filter fun _ => false) = [] := by rw [List.filter_eq_nil_iff]; intro _ _; simp
          rw [hnil]
          refine ⟨by simp [Ym], fun zb hzb => eqD_nil (Zt AH.set_same hzb) AH.set_same (kf2 _ ?_)⟩
          dsimp only [Z3, Z8, Xa, Zm, Zk, Yy, Zy, Zx, Yd, Zs, Xf, Xg, Ys, tIsI, isiV, Zn, Yi, Yc, Z6, Z4, Zq, Zi, Zo, Y9, Yn, Xr, Xy, Wh, Zf, tCmp, Z1, Yh, Xj, Xd, tNeg, tAnd, Zu, Y1, Y0, Yz, Loc.setAll, Loc.set, Loc.bare, Zj, String.reduceBEq, cond_true, cond_false, List.length_cons, List.length_nil, Zz, Z0, Zc, Zd, Z5, Zp, Z2]
          refine k4 _ _ ?_
          dsimp only [Z3, Z8, Xa, Zm, Zk, Yy, Zy, Zx, Yd, Zs, Xf, Xg, Ys, tIsI, isiV, Zn, Yi, Yc, Z6, Z4, Zq, Zi, Zo, Y9, Yn, Xr, Xy, Wh, Zf, tCmp, Z1, Yh, Xj, Xd, tNeg, tAnd, Zu, Y1, Y0, Yz, Loc.setAll, Loc.set, Loc.bare, Zj, String.reduceBEq, cond_true, cond_false, List.length_cons, List.length_nil, Zz, Z0, Zc, Zd, Z5, Zp, Z2]
          exact k3 _ _ (fun _ kI => kI (((s8.new hsl).new hfb).new hzb) (g1) (g2) (g3) (g4) (g5))
    · refine ⟨a, b, kk, hd, ps', prI p :: tl, rfl, by rw [← hqs]; exact hhd3, ⟨⟨ha1, ha2⟩, ⟨hb1, hb2⟩, by omega, by rw [hqs] at h43; simp at h43 ⊢; omega, hin', nofun, fun q' tl' e => ?_⟩⟩
      simp only [List.cons.injEq] at e
      obtain ⟨rfl, rfl⟩ := e
      have hok : (okE a (prI p).1 && okE b (prI p).2) = true := by simp [okE, prI, hp]
      refine ⟨true, true, rfl, rfl, fun z => ?_, fun _ => ⟨h40, rfl, k2 _ _ ?_⟩⟩
      · rw [hok] at z; cases z
      · refine Xl fun K3 r3 => ?_
        dsimp only [Z3, Z8, Xa, Zm, Zk, Yy, Zy, Zx, Yd, Zs, Xf, Xg, Ys, tIsI, isiV, Zn, Yi, Yc, Z6, Z4, Zq, Zi, Zo, Y9, Yn, Xr, Xy, Wh, Zf, tCmp, Z1, Yh, Xj, Xd, tNeg, tAnd, Zu, Y1, Y0, Yz, Loc.setAll, Loc.set, Loc.bare, Zj, String.reduceBEq, cond_true, cond_false, List.length_cons, List.length_nil, Zz, Z0, Zc, Zd, Z5, Zp, Z2]
        simp only [e2, hpb3, List.length_map]
        have hbig : (40 : Int) < (qs.length : Int) := by rw [hqs]; simp; omega
        simp only [decide_eq_true hbig]
        refine Xl fun K4 r4 => ?_
        dsimp only [Z3, Z8, Xa, Zm, Zk, Yy, Zy, Zx, Yd, Zs, Xf, Xg, Ys, tIsI, isiV, Zn, Yi, Yc, Z6, Z4, Zq, Zi, Zo, Y9, Yn, Xr, Xy, Wh, Zf, tCmp, Z1, Yh, Xj, Xd, tNeg, tAnd, Zu, Y1, Y0, Yz, Loc.setAll, Loc.set, Loc.bare, Zj, String.reduceBEq, cond_true, cond_false, List.length_cons, List.length_nil, Zz, Z0, Zc, Zd, Z5, Zp, Z2]
        simp only [e3]
        refine eqD_b2 (r4 _ _ _ (r3 _ _ _ (kret _ _ _ _ Sub.refl ?_)))
        exact hq _
  refine tIfS_k fun KB kt kf => ?_
  have no : ∀ σ2, Sub σ1 σ2 → KB false σ2 := by
    intro σ2 s2
    refine kf _ ?_
    dsimp only [Z3, Z8, Xa, Zm, Zk, Yy, Zy, Zx, Yd, Zs, Xf, Xg, Ys, tIsI, isiV, Zn, Yi, Yc, Z6, Z4, Zq, Zi, Zo, Y9, Yn, Xr, Xy, Wh, Zf, tCmp, Z1, Yh, Xj, Xd, tNeg, tAnd, Zu, Y1, Y0, Yz, Loc.setAll, Loc.set, Loc.bare, Zj, String.reduceBEq, cond_true, cond_false, List.length_cons, List.length_nil, Zz, Z0, Zc, Zd, Z5, Zp, Z2]
    exact cont _ _ pa _ (s1.trans s2) (s2 _ _ hpa) (hand_of hin hl) rfl rfl rfl
  have yes : ∀ σ2, Sub σ1 σ2 → ps ≠ [] → KB true σ2 := by
    intro σ2 s2 hne
    refine kt _ ?_
    have hpos : (0 : Int) < (ps.length : Int) := by have := List.length_pos_iff.mpr hne; omega
    have hpa2 := s2 _ _ hpa
    refine X8 fun K2 k2 r2 => ?_
    dsimp only [Z3, Z8, Xa, Zm, Zk, Yy, Zy, Zx, Yd, Zs, Xf, Xg, Ys, tIsI, isiV, Zn, Yi, Yc, Z6, Z4, Zq, Zi, Zo, Y9, Yn, Xr, Xy, Wh, Zf, tCmp, Z1, Yh, Xj, Xd, tNeg, tAnd, Zu, Y1, Y0, Yz, Loc.setAll, Loc.set, Loc.bare, Zj, String.reduceBEq, cond_true, cond_false, List.length_cons, List.length_nil, Zz, Z0, Zc, Zd, Z5, Zp, Z2]
    simp only [hpa2, List.length_map]
    refine ⟨by decide, by omega, k2 _ _ ?_⟩
    have i0 := Int.fmod_nonneg_of_pos (cell.fdiv 5) hpos
    have i1 := Int.fmod_lt_of_pos (cell.fdiv 5) hpos
    generalize (cell.fdiv 5).fmod (ps.length : Int) = at' at i0 i1 ⊢
    obtain ⟨i, rfl⟩ := Int.eq_ofNat_of_zero_le i0
    have hi : i < ps.length := by omega
    refine X8 fun K2 k2 r2 => ?_
    dsimp only [Z3, Z8, Xa, Zm, Zk, Yy, Zy, Zx, Yd, Zs, Xf, Xg, Ys, tIsI, isiV, Zn, Yi, Yc, Z6, Z4, Zq, Zi, Zo, Y9, Yn, Xr, Xy, Wh, Zf, tCmp, Z1, Yh, Xj, Xd, tNeg, tAnd, Zu, Y1, Y0, Yz, Loc.setAll, Loc.set, Loc.bare, Zj, String.reduceBEq, cond_true, cond_false, List.length_cons, List.length_nil, Zz, Z0, Zc, Zd, Z5, Zp, Z2]
    have f2 : Ym (0 + 1 + 1) := by simp [Ym]
    have j0 := Int.fmod_nonneg_of_pos (cell.fdiv 250) (show (0 : Int) < 6 by decide)
    have j1 := Int.fmod_lt_of_pos (cell.fdiv 250) (show (0 : Int) < 6 by decide)
    obtain ⟨o, ho, hom⟩ := atV_mem (xs := [V.tup [V.int a, V.int 0], V.tup [V.int 0, V.int b], V.tup [V.int (-1), V.int 0], V.tup [V.int 0, V.none], V.tup [V.bool true, V.int 0], V.tup [V.str (Str.ofString "0"), V.int 0]]) j0 (by simpa using j1)
    refine W1 (Xx (by decide) rfl) ⟨f2, W1 (Xx (by decide) rfl) ⟨f2, f2, f2, f2, f2, by simp [Ym], fun ob hob => ⟨by decide, by decide, itemL AH.set_same ho (k2 _ _ ?_)⟩⟩⟩
    obtain ⟨q, hqv, b1, b2, n1, n2, hbad⟩ : ∃ q : V × V, o = prV q ∧ ∃ b1 b2, nrV q.1 = some b1 ∧ nrV q.2 = some b2 ∧ (okE a q.1 && okE b q.2) = false := by
      simp only [List.mem_cons, List.not_mem_nil, or_false] at hom
      rcases hom with rfl | rfl | rfl | rfl | rfl | rfl
      · exact ⟨(.int a, .int 0), rfl, true, true, rfl, rfl, by simp [okE]⟩
      · exact ⟨(.int 0, .int b), rfl, true, true, rfl, rfl, by simp [okE]⟩
      · exact ⟨(.int (-1), .int 0), rfl, true, true, rfl, rfl, by simp [okE]⟩
      · exact ⟨(.int 0, .none), rfl, true, false, rfl, rfl, by simp [okE]⟩
      · exact ⟨(.bool true, .int 0), rfl, false, true, rfl, rfl, by simp [okE]⟩
      · exact ⟨(.str (Str.ofString "0"), .int 0), rfl, false, true, rfl, rfl, by simp [okE]⟩
    subst hqv
    have s3 : Sub σ1 (σ2.set ob (AO.list [V.tup [V.int a, V.int 0], V.tup [V.int 0, V.int b], V.tup [V.int (-1), V.int 0], V.tup [V.int 0, V.none], V.tup [V.bool true, V.int 0], V.tup [V.str (Str.ofString "0"), V.int 0]])) := s2.new hob
    generalize (σ2.set ob (AO.list [V.tup [V.int a, V.int 0], V.tup [V.int 0, V.int b], V.tup [V.int (-1), V.int 0], V.tup [V.int 0, V.none], V.tup [V.bool true, V.int 0], V.tup [V.str (Str.ofString "0"), V.int 0]])) = σ3 at s3 ⊢
    have hpa3 := s3 _ _ hpa
    clear ho hom
    refine X8 fun K2 k2 r2 => ?_
    dsimp only [Z3, Z8, Xa, Zm, Zk, Yy, Zy, Zx, Yd, Zs, Xf, Xg, Ys, tIsI, isiV, Zn, Yi, Yc, Z6, Z4, Zq, Zi, Zo, Y9, Yn, Xr, Xy, Wh, Zf, tCmp, Z1, Yh, Xj, Xd, tNeg, tAnd, Zu, Y1, Y0, Yz, Loc.setAll, Loc.set, Loc.bare, Zj, String.reduceBEq, cond_true, cond_false, List.length_cons, List.length_nil, Zz, Z0, Zc, Zd, Z5, Zp, Z2]
    have hcut1 : cutV none (some ((i : Nat) : Int)) ((ps.map prI).map prV) = ((ps.take i).map prI).map prV := by simp [cutV, takeV, loN]
    have hcut2 : cutV (some (((i : Nat) : Int) + 1)) none ((ps.map prI).map prV) = ((ps.drop (i + 1)).map prI).map prV := by
      have : (((i : Nat) : Int) + 1).toNat = i + 1 := by omega
      simp [cutV, takeV, loN, this]
    simp only [hpa3, hcut1]
    refine ⟨trivial, by simp [Nonneg], fun c1 h1 => ⟨by simp [Ym], fun c2 h2 => ⟨_, _, Zt AH.set_same h2, AH.set_same, by simp [Ym]; omega, fun c3 h3 => ⟨by simp [Nonneg]; omega, trivial, ?_⟩⟩⟩⟩
    have s4 := ((s3.new (o := .list (((ps.take i).map prI).map prV)) h1).new (o := .list [prV q]) h2).new (o := .list (((ps.take i).map prI).map prV ++ [prV q])) h3
    have hc3 : (((σ3.set c1 (.list (((ps.take i).map prI).map prV))).set c2 (.list [prV q])).set c3 (.list (((ps.take i).map prI).map prV ++ [prV q]))) c3 = some (.list (((ps.take i).map prI).map prV ++ [prV q])) := AH.set_same
    generalize (((σ3.set c1 (.list (((ps.take i).map prI).map prV))).set c2 (.list [prV q])).set c3 (.list (((ps.take i).map prI).map prV ++ [prV q]))) = σ4 at s4 hc3 ⊢
    simp only [s4 _ _ hpa, hcut2]
    refine fun c4 h4 => ⟨_, _, Zt hc3 h4, AH.set_same, by simp [Ym]; omega, fun c5 h5 => k2 _ _ ?_⟩
    have hqs : (((ps.take i).map prI).map prV ++ [prV q]) ++ ((ps.drop (i + 1)).map prI).map prV = ((ps.take i).map prI ++ q :: (ps.drop (i + 1)).map prI).map prV := by simp
    rw [hqs]
    have s5 := (s4.new (o := .list (((ps.drop (i + 1)).map prI).map prV)) h4).new (o := .list (((ps.take i).map prI ++ q :: (ps.drop (i + 1)).map prI).map prV)) h5
    have hc5 : ((σ4.set c4 (.list (((ps.drop (i + 1)).map prI).map prV))).set c5 (.list (((ps.take i).map prI ++ q :: (ps.drop (i + 1)).map prI).map prV))) c5 = some (.list (((ps.take i).map prI ++ q :: (ps.drop (i + 1)).map prI).map prV)) := AH.set_same
    generalize ((σ4.set c4 (.list (((ps.drop (i + 1)).map prI).map prV))).set c5 (.list (((ps.take i).map prI ++ q :: (ps.drop (i + 1)).map prI).map prV))) = σ5 at s5 hc5 ⊢
    refine X8 fun K2 k2 r2 => ?_
    dsimp only [Z3, Z8, Xa, Zm, Zk, Yy, Zy, Zx, Yd, Zs, Xf, Xg, Ys, tIsI, isiV, Zn, Yi, Yc, Z6, Z4, Zq, Zi, Zo, Y9, Yn, Xr, Xy, Wh, Zf, tCmp, Z1, Yh, Xj, Xd, tNeg, tAnd, Zu, Y1, Y0, Yz, Loc.setAll, Loc.set, Loc.bare, Zj, String.reduceBEq, cond_true, cond_false, List.length_cons, List.length_nil, Zz, Z0, Zc, Zd, Z5, Zp, Z2]
    by_cases h40 : ((i : Nat) : Int) ≤ 40
    · simp only [decide_eq_true h40]
      refine Xl fun K3 r3 => ?_
      dsimp only [Z3, Z8, Xa, Zm, Zk, Yy, Zy, Zx, Yd, Zs, Xf, Xg, Ys, tIsI, isiV, Zn, Yi, Yc, Z6, Z4, Zq, Zi, Zo, Y9, Yn, Xr, Xy, Wh, Zf, tCmp, Z1, Yh, Xj, Xd, tNeg, tAnd, Zu, Y1, Y0, Yz, Loc.setAll, Loc.set, Loc.bare, Zj, String.reduceBEq, cond_true, cond_false, List.length_cons, List.length_nil, Zz, Z0, Zc, Zd, Z5, Zp, Z2]
      refine ⟨a, b, kk, c5, ps.take i, q :: (ps.drop (i + 1)).map prI, rfl, hc5, ⟨⟨ha1, ha2⟩, ⟨hb1, hb2⟩, by simp; omega, by simp; omega, hin.sub fun p hp => List.mem_of_mem_take hp, nofun, fun q' tl e => ?_⟩⟩
      simp only [List.cons.injEq] at e
      obtain ⟨rfl, rfl⟩ := e
      refine ⟨b1, b2, n1, n2, fun _ => ⟨rfl, by simp [Ym], eqD_b2 (r3 _ _ _ (r2 _ _ _ (r1 _ _ _ (kret _ _ _ _ Sub.refl ?_))))⟩, fun z => ?_⟩
      · exact hq _
      · rw [hbad] at z; cases z
    · simp only [decide_eq_false h40]
      refine k2 _ _ ?_
      dsimp only [Z3, Z8, Xa, Zm, Zk, Yy, Zy, Zx, Yd, Zs, Xf, Xg, Ys, tIsI, isiV, Zn, Yi, Yc, Z6, Z4, Zq, Zi, Zo, Y9, Yn, Xr, Xy, Wh, Zf, tCmp, Z1, Yh, Xj, Xd, tNeg, tAnd, Zu, Y1, Y0, Yz, Loc.setAll, Loc.set, Loc.bare, Zj, String.reduceBEq, cond_true, cond_false, List.length_cons, List.length_nil, Zz, Z0, Zc, Zd, Z5, Zp, Z2]
      exact cont _ _ c5 _ (s1.trans s5) hc5 (hand_odd hin hl hi (by omega)) rfl rfl rfl
  dsimp only [Z3, Z8, Xa, Zm, Zk, Yy, Zy, Zx, Yd, Zs, Xf, Xg, Ys, tIsI, isiV, Zn, Yi, Yc, Z6, Z4, Zq, Zi, Zo, Y9, Yn, Xr, Xy, Wh, Zf, tCmp, Z1, Yh, Xj, Xd, tNeg, tAnd, Zu, Y1, Y0, Yz, Loc.setAll, Loc.set, Loc.bare, Zj, String.reduceBEq, cond_true, cond_false, List.length_cons, List.length_nil, Zz, Z0, Zc, Zd, Z5, Zp, Z2]
  refine ⟨by decide, eqD_int ?_⟩
  cases (cell.fmod 5 == 1) with
  | false => exact no σ1 Sub.refl
  | true =>
    refine ⟨by simp [Ym], fun nb hnb => ?_⟩
    have hpr := hpa
    rw [prs_rows] at hpr
    refine eqD_rows (rs := ps.map prR) (ts := []) (Zt hpr hnb) AH.set_same ?_
    have sn : Sub σ1 (σ1.set nb (.list [])) := Sub.refl.new hnb
    by_cases hps : ps = []
    · subst hps
      exact no _ sn
    · have : (ps.map prR == []) = false := by rw [beq_eq_false_iff_ne]; simpa using hps
      rw [this]
      exact yes _ sn hps
end
section
open PySem PySem.W PyProof.Rows
theorem ns_at {h : Heap} {mg : Str → Option Value} {o : Obj} {es : Array DictEntry} {ep : Nat} {n : Str} {v : Value} (hN : h.Ns mainGlobals mg) (h3 : h.get? mainGlobals = some o) (hd : o.data = .dict es ep) (e : nsFind es n = some v) : mg n = some v := by
  obtain ⟨o', es', ep', ho, hd', hk, hf⟩ := id hN
  rw [h3] at ho; cases ho
  rw [hd] at hd'; cases hd'
  exact (hf _).symm.trans e
theorem fa_of {mg : Str → Option Value} {n : Str} {a b : Addr} (e : mg n = some (.ref a)) (h : mg n = some (.ref b)) : b = a := (Value.ref.inj (Option.some.inj (e.symm.trans h))).symm
theorem vr_script {g : Gr} {h : Heap} {l : Addr} {vs : List Value} {ns : List Int} (hL : g.b0.IsList l vs.toArray) (hI : IntsAre vs ns) (hn : ns.length ≤ 1000) : VRs g h [V.frz (ns.map V.int)] [.ref l] := by
  obtain ⟨o, ho, hc, n, hd⟩ := hL
  refine Y4 (VR_frz.mpr ⟨by simp [Ym]; omega, l, o, vs.toArray, n, rfl, ho, hc, hd, ?_⟩) Xs
  clear ho hc hd hn
  show VRs g h _ vs
  induction hI with
  | nil => exact Xs
  | cons n t _ ih => exact Y4 (Yl.mpr ⟨t, rfl⟩) ih
theorem caller_room : Room callerA 12 true := ⟨by decide, by decide, fun _ => rfl⟩
theorem names_of {g : Gr} {P : Params} {mg mb : Str → Option Value} (hK : (KK P).In g.b0) (hN : g.b0.Ns mainGlobals mg) (hB : g.b0.Ns builtinsNs mb) (hb : ∀ x : Str, x ≠ "__name__" → mb x = bootBuiltins x) : NN g := by
  have h3 := hK mainGlobals _ rfl
  exact ⟨bui_of hN h3 rfl (by kernel_rfl) hB hb (by decide) (by kernel_rfl), bui_of hN h3 rfl (by kernel_rfl) hB hb (by decide) (by kernel_rfl), bui_of hN h3 rfl (by kernel_rfl) hB hb (by decide) (by kernel_rfl), bui_of hN h3 rfl (by kernel_rfl) hB hb (by decide) (by kernel_rfl), bui_of hN h3 rfl (by kernel_rfl) hB hb (by decide) (by kernel_rfl), bui_of hN h3 rfl (by kernel_rfl) hB hb (by decide) (by kernel_rfl), bui_of hN h3 rfl (by kernel_rfl) hB hb (by decide) (by kernel_rfl), bui_of hN h3 rfl (by kernel_rfl) hB hb (by decide) (by kernel_rfl), bui_of hN h3 rfl (by kernel_rfl) hB hb (by decide) (by kernel_rfl), bui_of hN h3 rfl (by kernel_rfl) hB hb (by decide) (by kernel_rfl), bui_of hN h3 rfl (by kernel_rfl) hB hb (by decide) (by kernel_rfl), bui_of hN h3 rfl (by kernel_rfl) hB hb (by decide) (by kernel_rfl), bui_of hN h3 rfl (by kernel_rfl) hB hb (by decide) (by kernel_rfl), bui_of hN h3 rfl (by kernel_rfl) hB hb (by decide) (by kernel_rfl), glo_of hN h3 rfl (by kernel_rfl), glo_of hN h3 rfl (by kernel_rfl), glo_of hN h3 rfl (by kernel_rfl), glo_of hN h3 rfl (by kernel_rfl), glo_of hN h3 rfl (by kernel_rfl), bui_of hN h3 rfl (by kernel_rfl) hB hb (by decide) (by kernel_rfl), glo_of hN h3 rfl (by kernel_rfl), glo_of hN h3 rfl (by kernel_rfl), glo_of hN h3 rfl (by kernel_rfl)⟩
variable {g : Gr} {P : Params}
theorem exc_BadEnd (hK : (KK P).In g.b0) : ExcC g CB :=
  ⟨_, _, _, _, _, _, _, _, _, _, _, _, _, _, _, _, _, hK CB _ rfl, .of_isNs (isNs_of_in hK (by kernel_rfl)), nsMap_none_of_in hK (by kernel_rfl) (by kernel_rfl),
    .own (hK 31 _ rfl) (.of_isNs (isNs_of_in hK (by kernel_rfl))) (nsMap_none_of_in hK (by kernel_rfl) (by kernel_rfl)) .base⟩
theorem exc_TooMany (hK : (KK P).In g.b0) : ExcC g CT :=
  ⟨_, _, _, _, _, _, _, _, _, _, _, _, _, _, _, _, _, hK CT _ rfl, .of_isNs (isNs_of_in hK (by kernel_rfl)), nsMap_none_of_in hK (by kernel_rfl) (by kernel_rfl),
    .own (hK 31 _ rfl) (.of_isNs (isNs_of_in hK (by kernel_rfl))) (nsMap_none_of_in hK (by kernel_rfl) (by kernel_rfl)) .base⟩
theorem law_runs (hK : (KK P).In g.b0) (N : NN g) (Kn : ∀ {n : String} {v : Value} {o : Obj} {es : Array DictEntry} {ep : Nat}, g.b0.get? mainGlobals = some o → o.data = .dict es ep → nsFind es (Str.ofString n) = some v → Xi g n v) : Xm g 12 (.ref 364) sLawT := by
  have h3 := hK mainGlobals _ rfl
  have F_nr : FnG g "is_number" 2 Z2 := fn_def (Kn h3 rfl (by kernel_rfl)) (hK 125 _ rfl) rfl (f_num hK N).toF
  have F_num : FnG g "is_number" 2 Zz := fn_def (Kn h3 rfl (by kernel_rfl)) (hK 125 _ rfl) rfl (f_is_number hK N).toF
  have F_oth : FnG g "other_side" 2 sOther := fn_def (Kn h3 rfl (by kernel_rfl)) (hK 132 _ rfl) rfl (f_other_side hK N).toF
  have M_end_of : FnM g (KK P) CC "end_of" 2 sEndOf := fnM (by kernel_rfl) (by kernel_rfl) (by kernel_rfl) (f_end_of hK N)
  have M_met : FnM g (KK P) CC "met" 3 (sMet CC) := fnM (by kernel_rfl) (by kernel_rfl) (by kernel_rfl) (f_met hK N M_end_of)
  have M_count : FnM g (KK P) CC "count" 4 (sCount CC) := fnM (by kernel_rfl) (by kernel_rfl) (by kernel_rfl) (f_count hK N M_met)
  have M_open : FnM g (KK P) CC "open_hues" 4 (sOpen CC) := fnM (by kernel_rfl) (by kernel_rfl) (by kernel_rfl) (f_open_hues hK N M_met)
  have M_with : FnM g (KK P) CC "with_hue" 4 (sWith CC) := fnM (by kernel_rfl) (by kernel_rfl) (by kernel_rfl) (f_with_hue hK N M_met)
  have M_chain : FnM g (KK P) CC "chain_from" 5 (sChain CC) := fnM (by kernel_rfl) (by kernel_rfl) (by kernel_rfl) (f_chain_from hK N (F_oth.le (by decide)) M_with (M_end_of.le (by decide)))
  have M_turn : FnM g (KK P) CC "turn" 2 (sTurn CC) := fnM (by kernel_rfl) (by kernel_rfl) (by kernel_rfl) (f_turn hK N)
  have M_ways : FnM g (KK P) CC "ways" 6 (sWays CC) := fnM (by kernel_rfl) (by kernel_rfl) (by kernel_rfl) (f_ways hK N (M_open.le (by decide)) M_chain)
  have M_hued : FnM g (KK P) CC "hued" 7 (sHued CC) := fnM (by kernel_rfl) (by kernel_rfl) (by kernel_rfl) (f_hued hK N (M_open.le (by decide)) M_ways (M_turn.le (by decide)))
  have M_nend : FnM g (KK P) CC "need_end" 3 (sNeedEnd9 CC CB) := fnM (by kernel_rfl) (by kernel_rfl) (by kernel_rfl) (f_need_end hK N (exc_BadEnd hK) F_nr)
  have M_npair : FnM g (KK P) CC "need_pair" 3 (sNeedPair CC) := fnM (by kernel_rfl) (by kernel_rfl) (by kernel_rfl) (f_need_pair hK N F_num)
  have M_come : FnM g (KK P) CC "come" 8 (sCome9 CC CB CT) := fnM (by kernel_rfl) (by kernel_rfl) (by kernel_rfl) (f_come hK N (exc_TooMany hK) (M_nend.le (by decide)) (M_count.le (by decide)) M_hued)
  have M_hue : FnM g (KK P) CC "hue_of" 4 (sHueOf CC) := fnM (by kernel_rfl) (by kernel_rfl) (by kernel_rfl) (f_hue_of hK N M_npair)
  have F_Hall : SndF g 4 (.ref CC) (tNew CC (sInit CC)) := sndF_new hK (by kernel_rfl) (by kernel_rfl) (by kernel_rfl) (f_init hK N F_num)
  have F_cell : FnG g "_law_cell_at" 2 sCellAt := fn_def (Kn h3 rfl (by kernel_rfl)) (hK 314 _ rfl) rfl (f_cell_at hK N).toF
  have F_mix : FnG g "_law_mixed" 2 sMixed := fn_def (Kn h3 rfl (by kernel_rfl)) (hK 321 _ rfl) rfl (f_mixed hK N).toF
  have F_sz : FnG g "_law_sizes_by" 2 sSizesBy := fn_def (Kn h3 rfl (by kernel_rfl)) (hK 335 _ rfl) rfl (f_sizes_by hK N).toF
  have F_ends : FnG g "_law_ends" 3 sEnds2 := fn_def (Kn h3 rfl (by kernel_rfl)) (hK 340 _ rfl) rfl (f_ends hK N).toF
  have F_prs : FnG g "_law_pairs" 4 sPairs9 := fn_def (Kn h3 rfl (by kernel_rfl)) (hK 347 _ rfl) rfl (f_pairs9 hK N (F_cell.le (by decide)) (F_mix.le (by decide)) F_ends).toF
  have F_hued : FnG g "hued" 10 (sHued9 CB CT) := fn_def (Kn h3 rfl (by kernel_rfl)) (hK 295 _ rfl) rfl (f_hued9 hK N (F_Hall.le (by decide)) (M_come.le (by decide)) (M_hue.le (by decide))).toF
  have F_told : FnG g "_law_told" 11 (sTold9 CB CT) := fn_def (Kn h3 rfl (by kernel_rfl)) (hK 354 _ rfl) rfl (f_told9 hK N F_hued).toF
  have F_hall : FnG g "_law_hall" 10 sHall9 := fn_def (Kn h3 rfl (by kernel_rfl)) (hK 359 _ rfl) rfl (f_hall9 hK N (F_Hall.le (by decide)) (M_come.le (by decide)) (M_hue.le (by decide))).toF
  have F_cnt : FnG g "count_of" 2 sCountOf := fn_def (Kn h3 rfl (by kernel_rfl)) (hK 300 _ rfl) rfl (f_count_of hK N).toF
  have F_good : FnG g "is_good" 3 sIsGood := fn_def (Kn h3 rfl (by kernel_rfl)) (hK 307 _ rfl) rfl (f_is_good hK N F_cnt).toF
  have F_whole : FnG g "_law_whole" 2 Zz := fn_def (Kn h3 rfl (by kernel_rfl)) (hK 328 _ rfl) rfl (f_whole hK N).toF
  exact f_law hK N (F_cell.le (by decide)) (F_sz.le (by decide)) (F_prs.le (by decide)) F_told (F_whole.le (by decide)) (F_good.le (by decide)) (F_cnt.le (by decide)) (F_hall.le (by decide))
end
end Mine
open PySem PySem.W PyProof.Rows Mine
theorem PySem.Challenge.cw_uf040033_09_holds : PySem.Challenge.rw_uf040033_09.Holds := by
  refine holds_law Mine.said fun said => ?_
  refine PySem.W.holds_open (q := Mine.qq) (loose := Mine.LL) (Xt := fun s => xlAt Mine.qq [] s && recOk [] s) (XP := XL Mine.qq []) (Yf := Hook.obs Mine.HKK) (Ya := Hook.val Mine.HKK) (YP := Hook.says Mine.HKK) Mine.left (Hook.of Mine.HKK) (Hook.keeps Mine.HKK) (fun s e => xl_of s (Bool.and_eq_true_iff.mp e).1) XL.keeps (by rfl) (by rfl) (by rfl) (fun s e => recFacts_of (Bool.and_eq_true_iff.mp e).2) (by rfl) said (by decide +kernel) ⟨rfl, rfl, rfl, rfl, rfl, by decide +kernel⟩ ?hw ?hc
  case hw => w_witness2
  intro w s₀ s₁ mg mb G Y fa o pm cd doc dV kV ho hd hcd hD hmg hg args vals as hpre hlay hrd hwl hlo
  have KX := kIn_of Y
  refine Ground.open G ?_
  intro T B D TE TW
  try (refine guard_noD D (by decide +kernel) ?_; clear D)
  wrow_args hpre hlay hrd hwl hlo
  first | refine callC_kw (enter_call ?_) | refine enter_call ?_ | refine callC_kw (enter_callW ?_) | refine enter_callW ?_
  w_top on
  try refine codeAny_mono ?_ (fun _ _ g => GoodW.toG g)
  rename_i ns hs hlay0 hL1 hr1 hl2 as1 as2 l vs as3 hL ra w1 r0 hI hr hc1 hc2
  have hlen : ns.length ≤ 63 := by omega
  let g : Gr := ⟨PySem.Challenge.rw_uf040033_09.row.prog, w, s₁.heap, fun _ => False⟩
  have hK : (KK w.params).In g.b0 := KX
  have h3 := hK mainGlobals _ rfl
  obtain rfl : fa = 364 := fa_of (ns_at (n := Str.ofString "law") (v := .ref 364) T.g h3 rfl (by kernel_rfl)) hmg
  have N : NN g := names_of hK T.g T.b T.builtins
  have L := law_runs hK N fun h hd e => glo_of T.g h hd e
  have Gk : GOk g := ⟨T.nolimit, T.seer (by decide +kernel), rfl⟩
  have R0 : Rel g s₁.heap (fun _ => none) := ⟨fun _ h => h.elim, fun _ _ h => h, fun _ _ h => nomatch h⟩
  refine codeAny_mono (L.run callerA s₁ (fun _ => none) [.frz (ns.map V.int)] [.ref l] (fun v _ => v = .bool true) (fun _ _ => False) Gk ⟨[], rfl, trivial, fun _ h => nomatch h⟩ caller_room R0 (vr_script hL hI (by omega)) ⟨ns, rfl, hlen, fun _ => rfl⟩) fun r s' p => ?_
  match r, p with
  | .ok (.ret v), p =>
    obtain ⟨x, σ', hv, hR, hx, hsm, rfl⟩ := p
    rw [Wk.mp hv]
    exact ⟨.inl ⟨.bool true, .bool true, [], rfl, fun _ => rfl, .bool true, (by wrow_post), fun _ => ⟨List.nodup_nil, fun _ h => nomatch h⟩⟩, hR.base, hsm.2.1, hsm.1.trans hg⟩
  | .error e, p => obtain ⟨_, _, _, _, _, _, h⟩ := p; exact h.elim
