import PyProof.Rows.All
import Wide.All
import OpenK.AllK
import Open.Boot
import PyProof.DictRoads
import PyProof.DictRoadsH
import PyProof.DictIter
import PyProof.CompFree
import PyProof.ForAny
import PyProof.DefCall
import PyProof.RaisesMany
import PyProof.Rules3
import PyProof.Ns1
import PyProof.Cells
import PyProof.NoPylong
import PyProof.Rows.TupAssign
import PyProof.WalksPairs
import PyProof.WalksMore
import PyProof.EnumStmt
import PyProof.DictWalks
import PyProof.RangeIter
import PyProof.PlainList
import PyProof.CompMap
import PyProof.CompUse
import PyProof.MinMaxWalk
import PyProof.WalkInts
import PyProof.IsiPairs
import PyProof.CallRoads
import PyProof.ListCopy
import PyProof.RangeFor
import PyProof.IsiHeapPairs
import PyProof.AssignAttr
import PyProof.ListIndex
import PyProof.MeetsDict
import PyProof.DictValues
import PyProof.ListRange
import PyProof.ListMulAny
import PyProof.ListMulRoad
import PyProof.Rows.ListMulArg
import PyProof.Rows.SetFrom
import PyProof.DictDisplay
import PyProof.MeetsDictList
import KE.KDictSum
import KE.KDictOf
import PyProof.AttrMissHeap
import KE.KEqDict
import PySem.Challenge.RW_uf040033_07
set_option Elab.async false
set_option linter.all false
set_option maxRecDepth 100000
set_option maxHeartbeats 8000000
set_option genSizeOf false
set_option genInjectivity false
namespace Mine
section
open PySem
/-- abstract values: what a Python value means, without tokens; tuples are plain data -/
inductive V where
  | none
  | bool (b : Bool)
  | int (i : Int)
  | str (x : Str)
  | ref (a : Addr)
  | tup (xs : List V)
  | frz (xs : List V)
/-- abstract objects -/
inductive AO where
  | list (xs : List V)
  | dictI (kvs : List (Int × V)) (ep : Nat)
  | dictS (kvs : List (Str × V)) (ep : Nat)
  | dictT (kvs : List (List Int × V)) (ep : Nat)
  | inst (C d : Addr)
  | attrs (kvs : List (Str × V))
noncomputable abbrev AH := Addr → Option AO
noncomputable abbrev Loc := String → Option V
noncomputable def AH.set (σ : AH) (a : Addr) (o : AO) : AH := fun b => if b = a then some o else σ b
noncomputable def Loc.set (ℓ : Loc) (i : String) (v : V) : Loc := fun j => if j = i then some v else ℓ j
/-- the ground: program, world, the heap in which the law is called -/
structure Gr where
  prog : Program
  w : World
  b0 : Heap
  /-- tuples that the interpreter keeps to itself: no value is one of them -/
  hid : Addr → Prop
/-- sizes that stay under every line of the model -/
noncomputable def Fits (n : Nat) : Prop := n ≤ 1000000
theorem Fits.line {n : Nat} (h : Fits n) : n ≤ sizeLine := by unfold Fits at h; have : sizeLine = 16777216 := rfl; omega
theorem Fits.le {n m : Nat} (h : Fits n) (k : m ≤ n) : Fits m := Nat.le_trans k h
theorem Fits.fit {n : Nat} (h : Fits n) : (n : Int) < 2 ^ 63 := by unfold Fits at h; omega
mutual
/-- the value v bears the datum, in the heap h over the base b0 -/
noncomputable def VR (g : Gr) (h : Heap) : V → Value → Prop
  | .none, v => v = .none
  | .bool b, v => v = .bool b
  | .int i, v => ∃ t, v = .int i t
  | .str x, v => Fits x.length ∧ ∃ t, v = .str x t
  | .ref a, v => v = .ref a
  | .tup xs, v => Fits xs.length ∧ ∃ a o vs n, v = .ref a ∧ ¬ g.hid a ∧ h.get? a = some o ∧ o.cls = .type "tuple" ∧ o.data = .seq vs n ∧ VRs g h xs vs.toList
  | .frz xs, v => Fits xs.length ∧ ∃ a o vs n, v = .ref a ∧ g.b0.get? a = some o ∧ o.cls = .type "list" ∧ o.data = .seq vs n ∧ VRs g h xs vs.toList
noncomputable def VRs (g : Gr) (h : Heap) : List V → List Value → Prop
  | [], vs => vs = []
  | x :: xs, vs => ∃ v r, vs = v :: r ∧ VR g h x v ∧ VRs g h xs r
end
section
variable {g : Gr} {h h' : Heap}
theorem VR_none {v : Value} : VR g h .none v ↔ v = .none := by unfold VR; exact Iff.rfl
theorem VR_bool {b : Bool} {v : Value} : VR g h (.bool b) v ↔ v = .bool b := by unfold VR; exact Iff.rfl
theorem VR_int {i : Int} {v : Value} : VR g h (.int i) v ↔ ∃ t, v = .int i t := by unfold VR; exact Iff.rfl
theorem VR_str {x : Str} {v : Value} : VR g h (.str x) v ↔ Fits x.length ∧ ∃ t, v = .str x t := by unfold VR; exact Iff.rfl
theorem VR_ref {a : Addr} {v : Value} : VR g h (.ref a) v ↔ v = .ref a := by unfold VR; exact Iff.rfl
theorem VR_tup {xs : List V} {v : Value} : VR g h (.tup xs) v ↔ Fits xs.length ∧ ∃ a o vs n, v = .ref a ∧ ¬ g.hid a ∧ h.get? a = some o ∧ o.cls = .type "tuple" ∧ o.data = .seq vs n ∧ VRs g h xs vs.toList := by
  rw [VR]
theorem VR_frz {xs : List V} {v : Value} : VR g h (.frz xs) v ↔ Fits xs.length ∧ ∃ a o vs n, v = .ref a ∧ g.b0.get? a = some o ∧ o.cls = .type "list" ∧ o.data = .seq vs n ∧ VRs g h xs vs.toList := by
  rw [VR]
theorem VRs_nil : VRs g h [] [] := by unfold VRs; rfl
theorem VRs_cons {x : V} {xs : List V} {v : Value} {vs : List Value} (a : VR g h x v) (b : VRs g h xs vs) : VRs g h (x :: xs) (v :: vs) := by
  unfold VRs; exact ⟨v, vs, rfl, a, b⟩
theorem VRs_cons_inv {x : V} {xs : List V} {vs : List Value} (a : VRs g h (x :: xs) vs) : ∃ v r, vs = v :: r ∧ VR g h x v ∧ VRs g h xs r := by
  unfold VRs at a; exact a
theorem VRs_nil_inv {vs : List Value} (a : VRs g h [] vs) : vs = [] := by
  unfold VRs at a; exact a
theorem VRs_length : ∀ {xs : List V} {vs : List Value}, VRs g h xs vs → xs.length = vs.length
  | [], vs, a => by rw [VRs_nil_inv a]; rfl
  | x :: xs, vs, a => by obtain ⟨v, r, rfl, _, b⟩ := VRs_cons_inv a; simp [VRs_length b]
theorem VRs_get : ∀ {xs : List V} {vs : List Value}, VRs g h xs vs → ∀ {i : Nat} {x : V}, xs[i]? = some x → ∃ v, vs[i]? = some v ∧ VR g h x v
  | [], vs, a, i, x, e => by simp at e
  | y :: xs, vs, a, i, x, e => by
    obtain ⟨v, r, rfl, hv, b⟩ := VRs_cons_inv a
    cases i with
    | zero => simp at e; subst e; exact ⟨v, by simp, hv⟩
    | succ i => simp at e; obtain ⟨w, h1, h2⟩ := VRs_get b e; exact ⟨w, by simpa using h1, h2⟩
theorem VRs_append : ∀ {xs ys : List V} {vs us : List Value}, VRs g h xs vs → VRs g h ys us → VRs g h (xs ++ ys) (vs ++ us)
  | [], ys, vs, us, a, b => by rw [VRs_nil_inv a]; exact b
  | x :: xs, ys, vs, us, a, b => by obtain ⟨v, r, rfl, hv, c⟩ := VRs_cons_inv a; exact VRs_cons hv (VRs_append c b)
theorem VRs_snoc {xs : List V} {x : V} {vs : List Value} {v : Value} (a : VRs g h xs vs) (b : VR g h x v) : VRs g h (xs ++ [x]) (vs ++ [v]) :=
  VRs_append a (VRs_cons b VRs_nil)
theorem VRs_drop : ∀ {xs : List V} {vs : List Value} (n : Nat), VRs g h xs vs → VRs g h (xs.drop n) (vs.drop n)
  | xs, vs, 0, a => a
  | [], vs, n + 1, a => by rw [VRs_nil_inv a]; exact VRs_nil
  | x :: xs, vs, n + 1, a => by obtain ⟨v, r, rfl, hv, b⟩ := VRs_cons_inv a; exact VRs_drop n b
theorem VRs_take : ∀ {xs : List V} {vs : List Value} (n : Nat), VRs g h xs vs → VRs g h (xs.take n) (vs.take n)
  | xs, vs, 0, a => VRs_nil
  | [], vs, n + 1, a => by rw [VRs_nil_inv a]; exact VRs_nil
  | x :: xs, vs, n + 1, a => by obtain ⟨v, r, rfl, hv, b⟩ := VRs_cons_inv a; exact VRs_cons hv (VRs_take n b)
end
/-- an object is kept, but perhaps for its slots -/
noncomputable def UpTo (h' : Heap) (a : Addr) (o : Obj) : Prop := h'.get? a = some o ∨ ∃ es n sl, o.data = .dict es n ∧ h'.get? a = some { o with slots := sl }
theorem UpTo.of {h' : Heap} {a : Addr} {o : Obj} (e : h'.get? a = some o) : UpTo h' a o := .inl e
theorem UpTo.sl {h' : Heap} {a : Addr} {o : Obj} (x : UpTo h' a o) : ∃ sl, h'.get? a = some { o with slots := sl } := by
  rcases x with e | ⟨_, _, sl, _, e⟩
  · exact ⟨o.slots, e⟩
  · exact ⟨sl, e⟩
/-- what is no table is kept as it is -/
theorem UpTo.exact {h' : Heap} {a : Addr} {o : Obj} (x : UpTo h' a o) (hd : ∀ es n, o.data ≠ .dict es n) : h'.get? a = some o := by
  rcases x with e | ⟨es, n, _, e, _⟩
  · exact e
  · exact absurd e (hd es n)
theorem UpTo.then {h' h'' : Heap} {a : Addr} {o : Obj} (x : UpTo h' a o) (k : ∀ o', h'.get? a = some o' → UpTo h'' a o') : UpTo h'' a o := by
  rcases x with e | ⟨es, n, sl, d, e⟩
  · exact k o e
  · obtain ⟨sl', e'⟩ := (k _ e).sl
    exact .inr ⟨es, n, sl', d, e'⟩
/-- tuples are kept -/
noncomputable def TupsKept (g : Gr) (h h' : Heap) : Prop := ∀ a o vs n, ¬ g.hid a → h.get? a = some o → o.cls = .type "tuple" → o.data = .seq vs n → UpTo h' a o
mutual
theorem VR.mono {g : Gr} {h h' : Heap} (k : TupsKept g h h') : ∀ {x : V} {v : Value}, VR g h x v → VR g h' x v
  | .none, v, a => by rw [VR_none] at a ⊢; exact a
  | .bool b, v, a => by rw [VR_bool] at a ⊢; exact a
  | .int i, v, a => by rw [VR_int] at a ⊢; exact a
  | .str x, v, a => by rw [VR_str] at a ⊢; exact a
  | .ref b, v, a => by rw [VR_ref] at a ⊢; exact a
  | .tup xs, v, a => by
    rw [VR_tup] at a ⊢
    obtain ⟨hf, b, o, vs, n, e, nh, ho, hc, hd, r⟩ := a
    have ho' := (k _ _ _ _ nh ho hc hd).exact (by rw [hd]; intros; exact Data.noConfusion)
    exact ⟨hf, b, _, vs, n, e, nh, ho', hc, hd, VRs.mono k r⟩
  | .frz xs, v, a => by
    rw [VR_frz] at a ⊢
    obtain ⟨hf, b, o, vs, n, e, ho, hc, hd, r⟩ := a
    exact ⟨hf, b, o, vs, n, e, ho, hc, hd, VRs.mono k r⟩
theorem VRs.mono {g : Gr} {h h' : Heap} (k : TupsKept g h h') : ∀ {xs : List V} {vs : List Value}, VRs g h xs vs → VRs g h' xs vs
  | [], vs, a => by rw [VRs_nil_inv a]; exact VRs_nil
  | x :: xs, vs, a => by
    obtain ⟨v, r, rfl, hv, c⟩ := VRs_cons_inv a
    exact VRs_cons (VR.mono k hv) (VRs.mono k c)
end
/-- a dict keyed by tuples of ints, its epoch told -/
noncomputable def DictAtT (g : Gr) (h : Heap) (d : Addr) (xs : List (List Int × Addr × Value)) (ep : Nat) : Prop :=
  ∃ o es, h.get? d = some o ∧ o.ExactDict ∧ o.data = .dict es ep ∧ es.toList = xs.map (entryOfKey (tupleKind (intKind g.prog g.w))) ∧ (∀ x ∈ xs, ¬ g.hid x.2.1 ∧ IsTupleKey (intKind g.prog g.w) h x.1 x.2.1) ∧ (xs.map (·.1)).Nodup
/-- the object at a bears the abstract object -/
noncomputable def OR (g : Gr) (h : Heap) (a : Addr) : AO → Prop
  | .list xs => Fits xs.length ∧ ∃ vs n, h.get? a = some { cls := .type "list", data := .seq vs n } ∧ VRs g h xs vs.toList
  | .dictI kvs ep => Fits kvs.length ∧ ∃ us, h.DictAt (intKind g.prog g.w) a us ep ∧ us.map (·.1) = kvs.map (·.1) ∧ VRs g h (kvs.map (·.2)) (us.map (·.2))
  | .dictS kvs ep => Fits kvs.length ∧ ∃ us, h.DictAt (strKind g.prog g.w) a us ep ∧ us.map (·.1) = kvs.map (·.1) ∧ VRs g h (kvs.map (·.2)) (us.map (·.2))
  | .dictT kvs ep => Fits kvs.length ∧ ∃ us, DictAtT g h a us ep ∧ us.map (·.1) = kvs.map (·.1) ∧ VRs g h (kvs.map (·.2)) (us.map (·.2.2))
  | .inst C d => h.get? a = some { cls := .ref C, dict := some d, data := .plain }
  | .attrs kvs => Fits kvs.length ∧ ∃ m, h.Ns1 a m ∧ ∀ x, (∀ v, kvs.lookup x = some v → ∃ u, m x = some u ∧ VR g h v u) ∧ (kvs.lookup x = none → m x = none)
theorem OR_some {g : Gr} {h : Heap} {a : Addr} {ao : AO} (x : OR g h a ao) : ∃ o, h.get? a = some o ∧ ∀ vs n, o.cls = .type "tuple" → o.data ≠ .seq vs n := by
  cases ao with
  | list xs => obtain ⟨_, vs, n, e, _⟩ := x; exact ⟨_, e, fun _ _ q => absurd q (by simp)⟩
  | dictI kvs ep => obtain ⟨_, us, ⟨o, es, ho, hc, _⟩, _⟩ := x; exact ⟨o, ho, fun _ _ q => absurd q (by rw [hc.1]; decide)⟩
  | dictS kvs ep => obtain ⟨_, us, ⟨o, es, ho, hc, _⟩, _⟩ := x; exact ⟨o, ho, fun _ _ q => absurd q (by rw [hc.1]; decide)⟩
  | dictT kvs ep => obtain ⟨_, us, ⟨o, es, ho, hc, _⟩, _⟩ := x; exact ⟨o, ho, fun _ _ q => absurd q (by rw [hc.1]; decide)⟩
  | inst C d => exact ⟨_, x, fun _ _ q => absurd q (by simp)⟩
  | attrs kvs => obtain ⟨_, m, ⟨o, es, ep, e, hd, _⟩, _⟩ := x; exact ⟨o, e, fun _ _ _ q => by rw [hd] at q; cases q⟩
theorem tupleKey_mono {g : Gr} {h h' : Heap} (k : TupsKept g h h') {ks : List Int} {a : Addr} (nh : ¬ g.hid a) (x : IsTupleKey (intKind g.prog g.w) h ks a) : IsTupleKey (intKind g.prog g.w) h' ks a := by
  obtain ⟨o, items, n, ho, hc, hd, hi⟩ := x
  have ho' := (k _ _ _ _ nh ho hc hd).exact (by rw [hd]; intros; exact Data.noConfusion)
  exact ⟨_, items, n, ho', hc, hd, hi⟩
/-- an object that stands as it stood keeps its abstract object, where tuples are kept -/
theorem OR_mono {g : Gr} {h h' : Heap} {a : Addr} {ao : AO} (k : TupsKept g h h') (e : ∀ o, h.get? a = some o → h'.get? a = some o) (x : OR g h a ao) : OR g h' a ao := by
  cases ao with
  | list xs => obtain ⟨hf, vs, n, ho, r⟩ := x; exact ⟨hf, vs, n, e _ ho, VRs.mono k r⟩
  | dictI kvs ep => obtain ⟨hf, us, ⟨o, es, ho, r⟩, q, p⟩ := x; exact ⟨hf, us, ⟨o, es, e _ ho, r⟩, q, VRs.mono k p⟩
  | dictS kvs ep => obtain ⟨hf, us, ⟨o, es, ho, r⟩, q, p⟩ := x; exact ⟨hf, us, ⟨o, es, e _ ho, r⟩, q, VRs.mono k p⟩
  | dictT kvs ep => obtain ⟨hf, us, ⟨o, es, ho, h1, h2, h3, h4, h5⟩, q, p⟩ := x; exact ⟨hf, us, ⟨o, es, e _ ho, h1, h2, h3, fun y hy => ⟨(h4 y hy).1, tupleKey_mono k (h4 y hy).1 (h4 y hy).2⟩, h5⟩, q, VRs.mono k p⟩
  | inst C d => exact e _ x
  | attrs kvs => obtain ⟨hf, m, ⟨o, es, ep, ho, hr⟩, r⟩ := x; exact ⟨hf, m, ⟨o, es, ep, e _ ho, hr⟩, fun y => ⟨fun v q => let ⟨u, h1, h2⟩ := (r y).1 v q; ⟨u, h1, VR.mono k h2⟩, (r y).2⟩⟩
/-- the heap bears the abstract heap; what stood at the call stands -/
structure Rel (g : Gr) (h : Heap) (σ : AH) : Prop where
  hid : ∀ a, g.hid a → ∃ o, h.get? a = some o
  base : ∀ a o, g.b0.get? a = some o → h.get? a = some o
  own : ∀ a ao, σ a = some ao → g.b0.get? a = none ∧ OR g h a ao
/-- what a step may do: what is not owned (nor in W) is kept but for slots; nothing is freed; what is owned behind was owned or is new -/
structure Ext (W : Addr → Prop) (h : Heap) (σ : AH) (h' : Heap) (σ' : AH) : Prop where
  keep : ∀ a o, h.get? a = some o → σ a = none → ¬ W a → UpTo h' a o
  pres : ∀ a o, h.get? a = some o → ∃ o', h'.get? a = some o'
  dom : ∀ a, σ' a ≠ none → σ a ≠ none ∨ h.get? a = none
noncomputable abbrev No : Addr → Prop := fun _ => False
theorem Ext.refl {W : Addr → Prop} {h : Heap} {σ : AH} : Ext W h σ h σ :=
  ⟨fun _ _ e _ _ => .of e, fun _ o e => ⟨o, e⟩, fun _ e => .inl e⟩
theorem Ext.off {W : Addr → Prop} {h h' : Heap} {σ σ' : AH} (x : Ext W h σ h' σ') {a : Addr} {o : Obj} (e : h.get? a = some o) (n : σ a = none) : σ' a = none := by
  cases q : σ' a with
  | none => rfl
  | some _ =>
    rcases x.dom a (by rw [q]; simp) with z | z
    · exact absurd n z
    · rw [e] at z; cases z
theorem Ext.trans {W : Addr → Prop} {h h' h'' : Heap} {σ σ' σ'' : AH} (x : Ext W h σ h' σ') (y : Ext W h' σ' h'' σ'') : Ext W h σ h'' σ'' := by
  refine ⟨fun a o e n w => ?_, fun a o e => ?_, fun a q => ?_⟩
  · exact (x.keep a o e n w).then fun o' e' => y.keep a o' e' (x.off e n) w
  · obtain ⟨o', e'⟩ := x.pres a o e; exact y.pres a o' e'
  · rcases y.dom a q with z | z
    · exact x.dom a z
    · cases e : h.get? a with
      | none => exact .inr rfl
      | some o => obtain ⟨o', e'⟩ := x.pres a o e; rw [e'] at z; cases z
theorem Ext.weaken {W W' : Addr → Prop} {h h' : Heap} {σ σ' : AH} (x : Ext W h σ h' σ') (k : ∀ a, W a → W' a) : Ext W' h σ h' σ' :=
  ⟨fun a o e n w => x.keep a o e n fun q => w (k a q), x.pres, x.dom⟩
/-- at these addresses lies no sequence -/
noncomputable def NoSeq (W : Addr → Prop) (h : Heap) : Prop := ∀ a o, W a → h.get? a = some o → ∀ vs n, o.data ≠ .seq vs n
/-- tuples are kept by a step -/
theorem Ext.tuples {g : Gr} {W : Addr → Prop} {h h' : Heap} {σ σ' : AH} (x : Ext W h σ h' σ') (R : Rel g h σ) (hw : NoSeq W h) : TupsKept g h h' := fun a o vs n _ e c d => by
  refine x.keep a o e ?_ fun w => hw a o w e vs n d
  cases q : σ a with
  | none => rfl
  | some ao => obtain ⟨o', e', c'⟩ := OR_some (R.own a ao q).2; rw [e] at e'; cases e'; exact absurd d (c' _ _ c)
theorem Ext.vr {g : Gr} {W : Addr → Prop} {h h' : Heap} {σ σ' : AH} (x : Ext W h σ h' σ') (R : Rel g h σ) (hw : NoSeq W h) {v : V} {u : Value} (k : VR g h v u) : VR g h' v u :=
  VR.mono (x.tuples R hw) k
theorem Ext.vrs {g : Gr} {W : Addr → Prop} {h h' : Heap} {σ σ' : AH} (x : Ext W h σ h' σ') (R : Rel g h σ) (hw : NoSeq W h) {v : List V} {u : List Value} (k : VRs g h v u) : VRs g h' v u :=
  VRs.mono (x.tuples R hw) k
theorem noSeq_no {h : Heap} : NoSeq No h := fun _ _ n => n.elim
/-- forgetting: fewer objects are told -/
theorem Rel.forget {g : Gr} {h : Heap} {σ σ' : AH} (R : Rel g h σ) (k : ∀ a o, σ' a = some o → σ a = some o) : Rel g h σ' :=
  ⟨R.hid, R.base, fun a ao e => R.own a ao (k a ao e)⟩
theorem Ext.forget {W : Addr → Prop} {h h' : Heap} {σ σ' σ'' : AH} (x : Ext W h σ h' σ') (k : ∀ a o, σ'' a = some o → σ' a = some o) : Ext W h σ h' σ'' :=
  ⟨x.keep, x.pres, fun a q => x.dom a (by
    cases e : σ'' a with
    | none => exact absurd e q
    | some o => rw [k a o e]; simp)⟩
/-- a step that keeps all (allocations of unowned things) -/
theorem Rel.keeps {g : Gr} {h h' : Heap} {σ : AH} (R : Rel g h σ) (k : ∀ a o, h.get? a = some o → h'.get? a = some o) : Rel g h' σ :=
  ⟨fun a ha => let ⟨o, e⟩ := R.hid a ha; ⟨o, k a o e⟩, fun a o e => k a o (R.base a o e), fun a ao e => ⟨(R.own a ao e).1, OR_mono (fun a o _ _ _ e _ _ => .of (k a o e)) (k a) (R.own a ao e).2⟩⟩
theorem Ext.keeps {W : Addr → Prop} {h h' : Heap} {σ : AH} (k : ∀ a o, h.get? a = some o → h'.get? a = some o) : Ext W h σ h' σ :=
  ⟨fun a o e _ _ => .of (k a o e), fun a o e => ⟨o, k a o e⟩, fun _ e => .inl e⟩
theorem push_keeps (h : Heap) (o' : Obj) : ∀ a o, h.get? a = some o → (h.push o').get? a = some o := fun _ _ e => Heap.get?_push_of_some _ e
/-- a new owned object -/
theorem Rel.alloc {g : Gr} {h h' : Heap} {σ : AH} {a : Addr} {ao : AO} (R : Rel g h σ) (k : ∀ a o, h.get? a = some o → h'.get? a = some o) (hn : h.get? a = none) (x : OR g h' a ao) : Rel g h' (σ.set a ao) := by
  refine ⟨fun a ha => let ⟨o, e⟩ := R.hid a ha; ⟨o, k a o e⟩, fun b o e => k b o (R.base b o e), fun b bo e => ?_⟩
  unfold AH.set at e
  split at e
  · rename_i q; subst q; cases e
    refine ⟨?_, x⟩
    cases q : g.b0.get? b with
    | none => rfl
    | some o => rw [R.base b o q] at hn; cases hn
  · exact (R.keeps k).own b bo e
theorem Ext.alloc {W : Addr → Prop} {h h' : Heap} {σ : AH} {a : Addr} {ao : AO} (k : ∀ a o, h.get? a = some o → h'.get? a = some o) (hn : h.get? a = none) : Ext W h σ h' (σ.set a ao) :=
  ⟨fun a o e _ _ => .of (k a o e), fun a o e => ⟨o, k a o e⟩, fun b q => by
    unfold AH.set at q
    by_cases z : b = a
    · subst z; exact .inr hn
    · rw [if_neg z] at q; exact .inl q⟩
/-- an owned object is changed -/
theorem Rel.upd {g : Gr} {h h' : Heap} {σ : AH} {a : Addr} {ao ao' : AO} (R : Rel g h σ) (e : σ a = some ao) (k : Heap.SameBut a h h') (x : OR g h' a ao') : Rel g h' (σ.set a ao') := by
  have pr : ∃ o, h'.get? a = some o := let ⟨o, q, _⟩ := OR_some x; ⟨o, q⟩
  have ho := R.own a ao e
  obtain ⟨o₀, e₀, c₀⟩ := OR_some ho.2
  refine ⟨fun b hb => ?_, fun b o q => (k.2 b fun z => ?_).trans (R.base b o q), fun b bo q => ?_⟩
  · by_cases z : b = a
    · rw [z]; exact pr
    · obtain ⟨o, q⟩ := R.hid b hb; exact ⟨o, (k.2 b z).trans q⟩
  · subst z; rw [ho.1] at q; cases q
  · unfold AH.set at q
    split at q
    · rename_i z; subst z; cases q; exact ⟨ho.1, x⟩
    · rename_i z
      refine ⟨(R.own b bo q).1, OR_mono (fun c o _ _ _ y t dd => .of ((k.2 c fun w => ?_).trans y)) (fun o y => (k.2 b z).trans y) (R.own b bo q).2⟩
      subst w; rw [e₀] at y; cases y; exact c₀ _ _ t dd
theorem Ext.upd {W : Addr → Prop} {h h' : Heap} {σ : AH} {a : Addr} {ao ao' : AO} (e : σ a = some ao) (k : Heap.SameBut a h h') (p : ∃ o, h'.get? a = some o) : Ext W h σ h' (σ.set a ao') := by
  refine ⟨fun b o q n _ => .of ((k.2 b fun z => ?_).trans q), fun b o q => ?_, fun b q => ?_⟩
  · subst z; rw [e] at n; cases n
  · by_cases z : b = a
    · subst z; exact p
    · exact ⟨o, (k.2 b z).trans q⟩
  · unfold AH.set at q
    by_cases z : b = a
    · subst z; rw [e]; simp
    · rw [if_neg z] at q; exact .inl q
theorem Rel.owned_some {g : Gr} {h : Heap} {σ : AH} (R : Rel g h σ) {a : Addr} {ao : AO} (e : σ a = some ao) : ∃ o, h.get? a = some o := let ⟨o, h1, _⟩ := OR_some (R.own a ao e).2; ⟨o, h1⟩
theorem Rel.fresh {g : Gr} {h : Heap} {σ : AH} (R : Rel g h σ) {a : Addr} (e : h.get? a = none) : σ a = none := by
  cases q : σ a with
  | none => rfl
  | some ao => obtain ⟨o, z⟩ := R.owned_some q; rw [e] at z; cases z
theorem size_fresh (h : Heap) : h.get? h.objs.size = none := Heap.get?_none_of_le (Nat.le_refl _)
end
section
open PySem
/-- a block's environment: its names are of the kinds that its scope says (a free name may stand as a cell) -/
structure EnvOk (sc : Scope) (env : Env) : Prop where
  kinds : ∀ x k, (x, k) ∈ sc.names → env.kindOf x = some k ∨ (k = .free ∧ env.kindOf x = some .cell)
  plain : ∀ x k, (x, k) ∈ sc.names → (x == ("__debug__" : Str)) = false ∧ (x == ("__classdict__" : Str)) = false
  kind : env.scope.kind = .function
  globals : env.globals = mainGlobals
  builtins : env.builtins = builtinsNs
/-- the block's names bear the abstract locals -/
structure LR (g : Gr) (h : Heap) (σ : AH) (env : Env) (ℓ : Loc) : Prop where
  ns : ∃ m, h.Ns env.locals m ∧ ∀ n v, ℓ n = some v → env.kindOf (Str.ofString n) = some .local → ∃ u, m (Str.ofString n) = some u ∧ VR g h v u
  cell : ∀ x c, env.cells.lookup x = some c → ∃ o u, h.get? c = some o ∧ o.data = .cell u
  cells : ∀ n v, ℓ n = some v → (env.kindOf (Str.ofString n) = some .cell ∨ env.kindOf (Str.ofString n) = some .free) → ∃ c u, env.cells.lookup (Str.ofString n) = some c ∧ h.IsCell c (some u) ∧ VR g h v u
  off : σ env.locals = none ∧ g.b0.get? env.locals = none
  offc : ∀ x c, env.cells.lookup x = some c → σ c = none ∧ c ≠ env.locals ∧ g.b0.get? c = none
  apart : ∀ x y c, env.cells.lookup x = some c → env.cells.lookup y = some c → x = y
  has : ∀ x, env.kindOf x = some .cell ∨ env.kindOf x = some .free → ∃ c, env.cells.lookup x = some c
/-- the frames on the stack stand (wanted where something is raised) -/
noncomputable def FrOk (g : Gr) (A : Around) (env : Env) (h : Heap) (σ : AH) : Prop :=
  ∃ e0 outer, A.frames = some (e0 :: outer) ∧ e0.frame = env.frame ∧ h.FunFrames g.b0 (e0 :: outer) ∧ (∀ e ∈ e0 :: outer, ∀ f, e.frame = some f → σ f = none) ∧
    e0.scope.isGenerator = false ∧ e0.scope.isCoroutine = false ∧ e0.builtins = builtinsNs ∧ e0.globals = mainGlobals
/-- what holds of the ground -/
structure GOk (g : Gr) : Prop where
  nolimit : g.b0.NoLimit
  seer : g.b0.NoSeer
  tree : g.prog.given.tree = none
structure Room (A : Around) (r : Nat) (c : Bool) : Prop where
  depth : A.depth + 2 * r + 110 < recursionLimit
  units : A.units + 20 * r + 100 < cLine
  calm : c = true → A.handled = none
theorem Room.le {A : Around} {r r' : Nat} {c : Bool} (x : Room A r c) (h : r' ≤ r) : Room A r' c :=
  ⟨by have := x.depth; omega, by have := x.units; omega, x.calm⟩
theorem Room.deeper {A : Around} {r : Nat} {c : Bool} (x : Room A (r + 1) c) (env : Env) : Room (A.deeper env) r c :=
  ⟨by have := x.depth; show A.depth + 1 + 2 * r + 110 < _; omega, by have := x.units; show A.units + 3 + 20 * r + 100 < _; omega, x.calm⟩
theorem Room.room {A : Around} {r : Nat} {c : Bool} (x : Room A r c) : A.depth < recursionLimit := by have := x.depth; omega
theorem Room.cline {A : Around} {r : Nat} {c : Bool} (x : Room A r c) : A.units + 50 < cLine := by have := x.units; omega
structure Cx (g : Gr) (sc : Scope) (r : Nat) (c : Bool) (A : Around) (env : Env) (h : Heap) (σ : AH) (ℓ : Loc) : Prop where
  gok : GOk g
  ok : EnvOk sc env
  loc : LR g h σ env ℓ
  fr : FrOk g A env h σ
  room : Room A r c
  rel : Rel g h σ
/-- the parts of the state that no step turns -/
noncomputable def Same (s s' : Shared) : Prop := s'.gens = s.gens ∧ s'.os = s.os ∧ s'.drawn = s.drawn
theorem Same.refl {s : Shared} : Same s s := ⟨rfl, rfl, rfl⟩
theorem Same.trans {s s' s'' : Shared} (x : Same s s') (y : Same s' s'') : Same s s'' := ⟨y.1.trans x.1, y.2.1.trans x.2.1, y.2.2.trans x.2.2⟩
theorem ns_upTo {h h' : Heap} {a : Addr} {m : Str → Option Value} (n : h.Ns a m) (k : ∀ o, h.get? a = some o → UpTo h' a o) : h'.Ns a m := by
  obtain ⟨o, es, ep, ho, hd, r⟩ := n
  obtain ⟨sl, e⟩ := (k o ho).sl
  exact ⟨_, es, ep, e, hd, r⟩
theorem cell_upTo {h h' : Heap} {a : Addr} {v : Option Value} (n : h.IsCell a v) (k : ∀ o, h.get? a = some o → UpTo h' a o) : h'.IsCell a v := by
  obtain ⟨o, ho, hd⟩ := n
  obtain ⟨sl, e⟩ := (k o ho).sl
  exact ⟨_, e, hd⟩
theorem LR.step {g : Gr} {h h' : Heap} {σ σ' : AH} {env : Env} {ℓ : Loc} (L : LR g h σ env ℓ) (R : Rel g h σ) (x : Ext No h σ h' σ') : LR g h' σ' env ℓ := by
  have kv : ∀ {v : V} {u : Value}, VR g h v u → VR g h' v u := x.vr R noSeq_no
  obtain ⟨m, hn, hm⟩ := L.ns
  have hl : ∀ o, h.get? env.locals = some o → UpTo h' env.locals o := fun o e => x.keep _ o e L.off.1 id
  refine ⟨⟨m, ns_upTo hn hl, fun y v a b => let ⟨u, e, f⟩ := hm y v a b; ⟨u, e, kv f⟩⟩, fun y c e => ?_, fun y v a k => ?_, ⟨?_, L.off.2⟩, fun y c e => ⟨?_, (L.offc y c e).2⟩, L.apart, L.has⟩
  · obtain ⟨o, u, ho, hd⟩ := L.cell y c e
    obtain ⟨sl, ho'⟩ := (x.keep _ o ho (L.offc y c e).1 id).sl
    exact ⟨_, u, ho', hd⟩
  · obtain ⟨c, u, e, ho, hv⟩ := L.cells y v a k
    exact ⟨c, u, e, cell_upTo ho fun o z => x.keep _ o z (L.offc _ c e).1 id, kv hv⟩
  · obtain ⟨o, es, ep, ho, _⟩ := hn; exact x.off ho L.off.1
  · obtain ⟨o, u, ho, hd⟩ := L.cell y c e
    exact x.off ho (L.offc y c e).1
theorem FrOk.step {g : Gr} {A : Around} {env : Env} {W : Addr → Prop} {h h' : Heap} {σ σ' : AH} (F : FrOk g A env h σ) (x : Ext W h σ h' σ') (hw : ∀ a o, W a → h.get? a = some o → (∀ vs, o.data ≠ .fields vs) → ∃ o', h'.get? a = some o' ∧ ∀ vs, o'.data ≠ .fields vs) : FrOk g A env h' σ' := by
  obtain ⟨e0, outer, hA, hf, ff, off, rest⟩ := F
  have key : ∀ l : List Env, h.FunFrames g.b0 l → (∀ e ∈ l, ∀ f, e.frame = some f → σ f = none) → h'.FunFrames g.b0 l ∧ ∀ e ∈ l, ∀ f, e.frame = some f → σ' f = none := by
    intro l
    induction l with
    | nil => exact fun _ _ => ⟨trivial, fun _ z => nomatch z⟩
    | cons e r ih =>
      rintro ⟨hk, ⟨L, o, hfL, hb, ho, hd⟩, hr⟩ hoff
      obtain ⟨i1, i2⟩ := ih hr fun e' he' => hoff e' (.tail _ he')
      have hs : σ L = none := hoff e (.head _) L hfL
      have hx : ∃ o', h'.get? L = some o' ∧ ∀ vs, o'.data ≠ .fields vs := by
        by_cases w : W L
        · exact hw L o w ho hd
        · obtain ⟨sl, e'⟩ := (x.keep L o ho hs w).sl; exact ⟨_, e', hd⟩
      obtain ⟨o', ho', hd'⟩ := hx
      refine ⟨⟨hk, ⟨L, o', hfL, hb, ho', hd'⟩, i1⟩, fun e' he' f hf' => ?_⟩
      cases he' with
      | head => rw [hfL] at hf'; cases hf'; exact x.off ho hs
      | tail _ q => exact i2 e' q f hf'
  obtain ⟨k1, k2⟩ := key _ ff off
  exact ⟨e0, outer, hA, hf, k1, k2, rest⟩
theorem Cx.step {g : Gr} {sc : Scope} {r : Nat} {c : Bool} {A : Around} {env : Env} {h h' : Heap} {σ σ' : AH} {ℓ : Loc} (X : Cx g sc r c A env h σ ℓ) (R : Rel g h' σ') (x : Ext No h σ h' σ') : Cx g sc r c A env h' σ' ℓ :=
  ⟨X.gok, X.ok, X.loc.step X.rel x, X.fr.step x (fun _ _ n => n.elim), X.room, R⟩
/-- an exception of class C is under way -/
noncomputable def XAt (_g : Gr) (_A : Around) (_h : Heap) (_e : Value) (_C : Addr) (_σ : AH) : Prop := False
noncomputable def PostX (g : Gr) (A : Around) (s : Shared) (σ : AH) (E : Addr → AH → Prop) (e : Value) (s' : Shared) : Prop :=
  ∃ C σ', XAt g A s'.heap e C σ' ∧ Rel g s'.heap σ' ∧ Ext No s.heap σ s'.heap σ' ∧ Same s s' ∧ E C σ'
/-- what is behind the evaluation of a thing: R tells how the model's result bears the abstract one -/
noncomputable def Post {α β : Type} (g : Gr) (R : Heap → β → α → Prop) (s : Shared) (σ : AH) (Q : β → AH → Prop) (v : α) (s' : Shared) : Prop :=
  ∃ x σ', R s'.heap x v ∧ Rel g s'.heap σ' ∧ Ext No s.heap σ s'.heap σ' ∧ Same s s' ∧ Q x σ'
noncomputable abbrev PostE (g : Gr) := Post g (fun h => VR g h)
noncomputable abbrev PostB (g : Gr) := Post g (fun _ (x : Bool) (v : Bool) => x = v)
noncomputable abbrev PostL (g : Gr) := Post g (fun h => VRs g h)
noncomputable abbrev TE := Loc → AH → (V → AH → Prop) → (Addr → AH → Prop) → Prop
noncomputable abbrev TB := Loc → AH → (Bool → AH → Prop) → (Addr → AH → Prop) → Prop
noncomputable abbrev TL := Loc → AH → (List V → AH → Prop) → (Addr → AH → Prop) → Prop
section
variable {α β : Type} {g : Gr} {R : Heap → β → α → Prop} {A : Around} {s s₁ : Shared} {σ σ₁ : AH} {Q : β → AH → Prop} {E : Addr → AH → Prop}
theorem Post.back (x : Ext No s.heap σ s₁.heap σ₁) (y : Same s s₁) {v : α} {s' : Shared} (p : Post g R s₁ σ₁ Q v s') : Post g R s σ Q v s' :=
  let ⟨z, σ', h1, h2, h3, h4, h5⟩ := p; ⟨z, σ', h1, h2, x.trans h3, y.trans h4, h5⟩
theorem PostX.back (x : Ext No s.heap σ s₁.heap σ₁) (y : Same s s₁) {v : Value} {s' : Shared} (p : PostX g A s₁ σ₁ E v s') : PostX g A s σ E v s' :=
  let ⟨z, σ', h1, h2, h3, h4, h5⟩ := p; ⟨z, σ', h1, h2, x.trans h3, y.trans h4, h5⟩
theorem wp_back {M : Model} {t : Sem α} (x : Ext No s.heap σ s₁.heap σ₁) (y : Same s s₁) (h : wpAny M A t (Post g R s₁ σ₁ Q) (PostX g A s₁ σ₁ E) s₁) : wpAny M A t (Post g R s σ Q) (PostX g A s σ E) s₁ :=
  wpAny_mono h (fun _ _ p => p.back x y) fun _ _ p => p.back x y
/-- the state is the one at hand -/
theorem Post.here {x : β} {v : α} (h1 : R s.heap x v) (h2 : Rel g s.heap σ) (h3 : Q x σ) : Post g R s σ Q v s := ⟨x, σ, h1, h2, .refl, .refl, h3⟩
/-- only a token was drawn, or things were made that nobody owns -/
theorem Post.keeps {x : β} {v : α} {s' : Shared} (k : ∀ a o, s.heap.get? a = some o → s'.heap.get? a = some o) (y : Same s s') (h1 : R s'.heap x v) (h2 : Rel g s.heap σ) (h3 : Q x σ) : Post g R s σ Q v s' :=
  ⟨x, σ, h1, h2.keeps k, .keeps k, y, h3⟩
end
section
variable (g : Gr) (sc : Scope) (r : Nat) (c : Bool)
structure SndE (e : Expr) (t : TE) : Prop where
  run : ∀ A env s ℓ σ Q E, Cx g sc r c A env s.heap σ ℓ → t ℓ σ Q E → wpAny (model g.prog g.w) A (eval e env) (PostE g s σ Q) (PostX g A s σ E) s
structure SndB (e : Expr) (t : TB) : Prop where
  run : ∀ A env s ℓ σ Q E, Cx g sc r c A env s.heap σ ℓ → t ℓ σ Q E → wpAny (model g.prog g.w) A (isTrue e env (eval e env)) (PostB g s σ Q) (PostX g A s σ E) s
structure SndL (es : List Expr) (t : TL) : Prop where
  run : ∀ A env pos s ℓ σ Q E, Cx g sc r c A env s.heap σ ℓ → t ℓ σ Q E → wpAny (model g.prog g.w) A (spliced (backTo pos (starEach es env))) (PostL g s σ Q) (PostX g A s σ E) s
end
section
variable {g : Gr} {sc : Scope} {r : Nat} {c : Bool} {α β γ δ : Type} {R : Heap → β → α → Prop} {R' : Heap → δ → γ → Prop} {A : Around} {env : Env} {s : Shared} {ℓ : Loc} {σ : AH} {Q : β → AH → Prop} {Q' : δ → AH → Prop} {E : Addr → AH → Prop}
/-- one thing, then what hangs on it -/
theorem Cx.then {m : Sem γ} {f : γ → Sem α} (X : Cx g sc r c A env s.heap σ ℓ) (h : wpAny (model g.prog g.w) A m (Post g R' s σ Q') (PostX g A s σ E) s)
    (k : ∀ v x s₁ σ₁, R' s₁.heap x v → Cx g sc r c A env s₁.heap σ₁ ℓ → Ext No s.heap σ s₁.heap σ₁ → Q' x σ₁ → wpAny (model g.prog g.w) A (f v) (Post g R s₁ σ₁ Q) (PostX g A s₁ σ₁ E) s₁) :
    wpAny (model g.prog g.w) A m (fun v s₁ => wpAny (model g.prog g.w) A (f v) (Post g R s σ Q) (PostX g A s σ E) s₁) (PostX g A s σ E) s :=
  wpAny_mono h (fun v s₁ p => let ⟨x, σ₁, h1, h2, h3, h4, h5⟩ := p; wp_back h3 h4 (k v x s₁ σ₁ h1 (X.step h2 h3) h3 h5)) fun _ _ p => p
end
end
section
open PySem PyProof.Rows
variable {g : Gr} {sc : Scope} {r : Nat} {c : Bool}
/-! ## constants and names -/
noncomputable def tConst (v : V) : TE := fun _ σ Q _ => Q v σ
noncomputable def tName (i : String) : TE := fun ℓ σ Q _ => match ℓ i with | some v => Q v σ | none => False
theorem sndE_int {i : Int} {k : Nat} {pos : Pos} : SndE g sc r c (.Constant (.int i) k pos) (tConst (.int i)) := .mk fun A env s ℓ σ Q E X h =>
  wpAny_Constant_int (.keeps (s' := { s with toks := s.toks + 1 }) (fun _ _ e => e) ⟨rfl, rfl, rfl⟩ (VR_int.mpr ⟨_, rfl⟩) X.rel h)
theorem sndE_str {x : Str} {k : Nat} {pos : Pos} (hx : Fits x.length) : SndE g sc r c (.Constant (.str x) k pos) (tConst (.str x)) := .mk fun A env s ℓ σ Q E X h =>
  wpAny_Constant_str (.keeps (s' := { s with toks := s.toks + 1 }) (fun _ _ e => e) ⟨rfl, rfl, rfl⟩ (VR_str.mpr ⟨hx, _, rfl⟩) X.rel h)
theorem sndE_none {k : Nat} {pos : Pos} : SndE g sc r c (.Constant .none k pos) (tConst .none) := .mk fun A env s ℓ σ Q E X h =>
  wpAny_Constant_none (.here (VR_none.mpr rfl) X.rel h)
theorem sndE_bool {b : Bool} {k : Nat} {pos : Pos} : SndE g sc r c (.Constant (.bool b) k pos) (tConst (.bool b)) := .mk fun A env s ℓ σ Q E X h =>
  wpAny_Constant_bool (.here (VR_bool.mpr rfl) X.rel h)
noncomputable def isVar (k : NameKind) : Bool := k == .local || k == .cell || k == .free
theorem sndE_name {n : String} {pos : Pos} {k : NameKind} (hm : (Str.ofString n, k) ∈ sc.names) (hk : isVar k = true) : SndE g sc r c (.Name (Str.ofString n) pos) (tName n) := .mk fun A env s ℓ σ Q E X h => by
  unfold tName at h
  split at h
  · rename_i v hv
    have hp := X.ok.plain _ _ hm
    have loc : env.kindOf (Str.ofString n) = some .local → wpAny (model g.prog g.w) A (loadName env (Str.ofString n)) (PostE g s σ Q) (PostX g A s σ E) s := fun q => by
      obtain ⟨m, hn, hm⟩ := X.loc.ns
      obtain ⟨u, e, hu⟩ := hm n v hv q
      exact wpAny_loadName_local X.ok.kind q hn e (.here hu X.rel h)
    have cel : env.kindOf (Str.ofString n) = some .cell → wpAny (model g.prog g.w) A (loadName env (Str.ofString n)) (PostE g s σ Q) (PostX g A s σ E) s := fun q => by
      obtain ⟨cc, u, e, ho, hu⟩ := X.loc.cells n v hv (.inl q)
      exact wpAny_loadName_cell X.ok.kind q e ho (.here hu X.rel h)
    have fre : env.kindOf (Str.ofString n) = some .free → wpAny (model g.prog g.w) A (loadName env (Str.ofString n)) (PostE g s σ Q) (PostX g A s σ E) s := fun q => by
      obtain ⟨cc, u, e, ho, hu⟩ := X.loc.cells n v hv (.inr q)
      exact wpAny_loadName_free X.ok.kind q e ho (.here hu X.rel h) hp.2
    refine wpAny_Name ?_ hp.1
    rcases X.ok.kinds _ _ hm with q | ⟨_, q⟩
    · cases k <;> first | exact loc q | exact cel q | exact fre q | cases hk
    · exact cel q
  · exact h.elim
/-! ## lists of expressions -/
noncomputable def tNil : TL := fun _ σ Q _ => Q [] σ
noncomputable def tCons (t : TE) (ts : TL) : TL := fun ℓ σ Q E => t ℓ σ (fun v σ₁ => ts ℓ σ₁ (fun vs σ₂ => Q (v :: vs) σ₂) E) E
noncomputable def isStar : Expr → Bool
  | .Starred .. => true
  | _ => false
theorem starEach_cons {e : Expr} {es : List Expr} (env : Env) (h : isStar e = false) : starEach (e :: es) env = (false, eval e env) :: starEach es env := by
  cases e <;> first | rfl | cases h
theorem sndL_nil : SndL g sc r c [] tNil := .mk fun A env pos s ℓ σ Q E X h => wpAny_items_nil (.here VRs_nil X.rel h)
theorem sndL_cons {e : Expr} {es : List Expr} {t : TE} {ts : TL} (h1 : SndE g sc r c e t) (h2 : SndL g sc r c es ts) (hs : isStar e = false := by rfl) :
    SndL g sc r c (e :: es) (tCons t ts) := .mk fun A env pos s ℓ σ Q E X h => by
  refine wpAny_items_cons ?_ (starEach_cons env hs)
  refine wpAny_mono (h1.run A env s ℓ σ _ E X h) (fun v s₁ p => ?_) fun _ _ p => p
  obtain ⟨x, σ₁, hv, hR, hx, hs1, hq⟩ := p
  refine wpAny_mono (h2.run A env pos s₁ ℓ σ₁ _ E (X.step hR hx) hq) (fun vs s₂ p => ?_) fun _ _ p => p.back hx hs1
  obtain ⟨xs, σ₂, hvs, hR2, hx2, hs2, hq2⟩ := p
  exact ⟨x :: xs, σ₂, VRs_cons (hx2.vr hR noSeq_no hv) hvs, hR2, hx.trans hx2, hs1.trans hs2, hq2⟩
/-! ## displays -/
noncomputable def tList (ts : TL) : TE := fun ℓ σ Q E => ts ℓ σ (fun vs σ₁ => Fits vs.length ∧ ∀ a, σ₁ a = none → Q (.ref a) (σ₁.set a (.list vs))) E
noncomputable def tTuple (ts : TL) : TE := fun ℓ σ Q E => ts ℓ σ (fun vs σ₁ => Fits vs.length ∧ Q (.tup vs) σ₁) E
/-- a new list, owned -/
theorem post_newList {s s₁ : Shared} {σ σ₁ : AH} {Q : V → AH → Prop} {vs : List Value} {xs : List V} {n : Nat} (hx : Ext No s.heap σ s₁.heap σ₁) (hs : Same s s₁) (hR : Rel g s₁.heap σ₁) (hv : VRs g s₁.heap xs vs) (hft : Fits xs.length) (hq : ∀ a, σ₁ a = none → Q (.ref a) (σ₁.set a (.list xs))) {s' : Shared}
    (e : s' = { s₁ with heap := s₁.heap.push { cls := .type "list", data := .seq vs.toArray n }, toks := s'.toks }) : PostE g s σ Q (.ref s₁.heap.objs.size) s' := by
  rw [e]
  have hk := push_keeps s₁.heap { cls := .type "list", data := .seq vs.toArray n }
  have hf := size_fresh s₁.heap
  refine ⟨.ref _, _, VR_ref.mpr rfl, hR.alloc hk hf ?_, hx.trans (.alloc hk hf), hs.trans ⟨rfl, rfl, rfl⟩, hq _ (hR.fresh hf)⟩
  exact ⟨hft, vs.toArray, n, Heap.get?_push_size _ rfl, VRs.mono (fun a o _ _ _ e _ _ => .of (hk a o e)) hv⟩
/-- a new tuple -/
theorem post_newTuple {s s₁ : Shared} {σ σ₁ : AH} {Q : V → AH → Prop} {vs : List Value} {xs : List V} {n : Nat} (hx : Ext No s.heap σ s₁.heap σ₁) (hs : Same s s₁) (hR : Rel g s₁.heap σ₁) (hv : VRs g s₁.heap xs vs) (hft : Fits xs.length) (hq : Q (.tup xs) σ₁) {s' : Shared}
    (e : s' = { s₁ with heap := s₁.heap.push { cls := .type "tuple", data := .seq vs.toArray n }, toks := s'.toks }) : PostE g s σ Q (.ref s₁.heap.objs.size) s' := by
  rw [e]
  have hk := push_keeps s₁.heap { cls := .type "tuple", data := .seq vs.toArray n }
  refine ⟨.tup xs, σ₁, VR_tup.mpr ⟨hft, _, _, vs.toArray, n, rfl, fun nh => (by obtain ⟨o, e⟩ := hR.hid _ nh; rw [size_fresh] at e; cases e), Heap.get?_push_size _ rfl, rfl, rfl, VRs.mono (fun a o _ _ _ e _ _ => .of (hk a o e)) hv⟩, hR.keeps hk, hx.trans (.keeps hk), hs.trans ⟨rfl, rfl, rfl⟩, hq⟩
theorem sndE_list {es : List Expr} {ts : TL} {pos : Pos} (h1 : SndL g sc r c es ts) : SndE g sc r c (.List es pos) (tList ts) := .mk fun A env s ℓ σ Q E X h => by
  refine wpAny_List (wpAny_mono (h1.run A env pos s ℓ σ _ E X h) (fun vs s₁ p => ?_) fun _ _ p => p)
  obtain ⟨xs, σ₁, hv, hR, hx, hs, hf, hq⟩ := p
  exact ⟨(VRs_length hv ▸ hf).line, post_newList hx hs hR hv hf hq rfl⟩
theorem sndE_tuple {es : List Expr} {ts : TL} {k : Nat} {pos : Pos} (h1 : SndL g sc r c es ts) : SndE g sc r c (.Tuple es k pos) (tTuple ts) := .mk fun A env s ℓ σ Q E X h => by
  refine wpAny_Tuple (wpAny_mono (h1.run A env pos s ℓ σ _ E X h) (fun vs s₁ p => ?_) fun _ _ p => p)
  obtain ⟨xs, σ₁, hv, hR, hx, hs, hf, hq⟩ := p
  exact ⟨(VRs_length hv ▸ hf).line, post_newTuple hx hs hR hv hf hq rfl⟩
end
section
open PySem PyProof.Rows
variable {g : Gr} {sc : Scope} {r : Nat} {c : Bool}
/-! ## data: what a value reads as -/
mutual
noncomputable def DataOf (σ : AH) : PyData → V → Prop
  | .none, v => v = .none
  | .bool b, v => v = .bool b
  | .int i, v => v = .int i
  | .str x, v => v = .str x
  | .list ds, v => ∃ a xs, v = .ref a ∧ σ a = some (.list xs) ∧ DataOfs σ ds xs
  | .tuple ds, v => ∃ xs, v = .tup xs ∧ DataOfs σ ds xs
  | .dict _, _ => False
noncomputable def DataOfs (σ : AH) : List PyData → List V → Prop
  | [], xs => xs = []
  | d :: ds, xs => ∃ x r, xs = x :: r ∧ DataOf σ d x ∧ DataOfs σ ds r
end
mutual
theorem reads_of {h : Heap} {σ : AH} (R : Rel g h σ) : ∀ {d : PyData} {x : V} {v : Value}, DataOf σ d x → VR g h x v → ∃ as, Reads h v d as
  | .none, x, v, hd, hv => by unfold DataOf at hd; subst hd; rw [VR_none] at hv; subst hv; exact ⟨_, .none⟩
  | .bool b, x, v, hd, hv => by unfold DataOf at hd; subst hd; rw [VR_bool] at hv; subst hv; exact ⟨_, .bool b⟩
  | .int i, x, v, hd, hv => by unfold DataOf at hd; subst hd; rw [VR_int] at hv; obtain ⟨t, rfl⟩ := hv; exact ⟨_, .int i t⟩
  | .str i, x, v, hd, hv => by unfold DataOf at hd; subst hd; rw [VR_str] at hv; obtain ⟨_, t, rfl⟩ := hv; exact ⟨_, .str i t⟩
  | .list ds, x, v, hd, hv => by
    unfold DataOf at hd; obtain ⟨a, xs, rfl, e, hds⟩ := hd
    rw [VR_ref] at hv; subst hv
    obtain ⟨_, _, vs, n, ho, hvs⟩ := R.own a _ e
    obtain ⟨as, q⟩ := readsAll_of R hds hvs
    exact ⟨_, .list ho rfl rfl q⟩
  | .tuple ds, x, v, hd, hv => by
    unfold DataOf at hd; obtain ⟨xs, rfl, hds⟩ := hd
    rw [VR_tup] at hv; obtain ⟨_, a, o, vs, n, rfl, nh, ho, hc, hdt, hvs⟩ := hv
    obtain ⟨as, q⟩ := readsAll_of R hds hvs
    exact ⟨_, .tuple ho hc hdt q⟩
  | .dict _, x, v, hd, hv => by unfold DataOf at hd; exact hd.elim
theorem readsAll_of {h : Heap} {σ : AH} (R : Rel g h σ) : ∀ {ds : List PyData} {xs : List V} {vs : List Value}, DataOfs σ ds xs → VRs g h xs vs → ∃ as, ReadsAll h vs ds as
  | [], xs, vs, hd, hv => by unfold DataOfs at hd; subst hd; rw [VRs_nil_inv hv]; exact ⟨_, .nil⟩
  | d :: ds, xs, vs, hd, hv => by
    unfold DataOfs at hd; obtain ⟨x, r, rfl, h1, h2⟩ := hd
    obtain ⟨v, w, rfl, h3, h4⟩ := VRs_cons_inv hv
    obtain ⟨as, p⟩ := reads_of R h1 h3
    obtain ⟨bs, q⟩ := readsAll_of R h2 h4
    exact ⟨_, .cons p q⟩
end
/-- the data that the model's equality walks over -/
noncomputable def Lay (d : PyData) : Prop := d.canLay0 = true ∧ d.depth ≤ 20
/-! ## truth -/
noncomputable def truthV : V → AH → Option Bool
  | .none, _ => some false
  | .bool b, _ => some b
  | .int i, _ => some (i != 0)
  | .str x, _ => some ((x.length : Int) != 0)
  | .tup xs, _ => some (!xs.isEmpty)
  | .frz xs, _ => some (!xs.isEmpty)
  | .ref a, σ => match σ a with
    | some (.list xs) => some (!xs.isEmpty)
    | some (.dictI kvs _) => some (!kvs.isEmpty)
    | _ => none
theorem isEmpty_of_length {α β : Type} {xs : List α} {ys : Array β} (h : xs.length = ys.size) : (!ys.isEmpty) = !xs.isEmpty := by
  cases xs with
  | nil => simp at h; have : ys = #[] := by simpa using h.symm
           subst this; rfl
  | cons x xs => have : ys.size ≠ 0 := by simp at h; omega
                 have h2 : ys.isEmpty = false := by unfold Array.isEmpty; exact decide_eq_false this
                 rw [h2]; rfl
theorem sysMod_ne {h : Heap} {σ : AH} (G : GOk g) (R : Rel g h σ) {a : Addr} {ao : AO} (e : σ a = some ao) : (a == sysModules) = false := by
  obtain ⟨mm, ⟨o, es, ep, ho, _⟩, _⟩ := G.seer.mods
  cases q : a == sysModules with
  | false => rfl
  | true =>
    have := (R.own a ao e).1
    rw [show a = sysModules from beq_iff_eq.mp q, ho] at this; cases this
theorem truth_ok {A : Around} {E : Value → Shared → Prop} {s : Shared} {σ : AH} {x : V} {v : Value} {b : Bool} {Q : Bool → Shared → Prop} (G : GOk g) (R : Rel g s.heap σ) (hv : VR g s.heap x v) (ht : truthV x σ = some b)
    (hq : ∀ tk, Q b { s with toks := tk }) : wpAny (model g.prog g.w) A (truthy v) Q E s := by
  cases x with
  | none => rw [VR_none] at hv; subst hv; cases ht; exact truthy_none (hq s.toks)
  | bool b' => rw [VR_bool] at hv; subst hv; cases ht; exact wpAny_truthy_bool (hq s.toks)
  | int i => rw [VR_int] at hv; obtain ⟨t, rfl⟩ := hv; cases ht; exact PySem.P.truthy_int (hq s.toks)
  | str y => rw [VR_str] at hv; obtain ⟨hf, t, rfl⟩ := hv; cases ht; exact PySem.P.truthy_str (by have := hf.fit; omega) (hq _)
  | tup xs =>
    rw [VR_tup] at hv; obtain ⟨hf, a, o, vs, n, rfl, nh, ho, hc, hd, hvs⟩ := hv
    have hl : xs.length = vs.size := by rw [VRs_length hvs]; simp
    cases ht
    exact truthy_tuple ⟨o, ho, hc, n, hd⟩ (by rw [← hl]; exact hf.fit) (by rw [isEmpty_of_length hl]; exact hq _)
  | frz xs =>
    rw [VR_frz] at hv; obtain ⟨hf, a, o, vs, n, rfl, ho, hc, hd, hvs⟩ := hv
    have hl : xs.length = vs.size := by rw [VRs_length hvs]; simp
    cases ht
    exact wpAny_truthy_list ⟨o, R.base _ _ ho, hc, n, hd⟩ (by rw [← hl]; exact hf.fit) (by rw [isEmpty_of_length hl]; exact hq _)
  | ref a =>
    rw [VR_ref] at hv; subst hv
    simp only [truthV] at ht
    split at ht
    · rename_i xs e
      obtain ⟨_, hf, vs, n, ho, hvs⟩ := R.own a _ e
      have hl : xs.length = vs.size := by rw [VRs_length hvs]; simp
      cases ht
      exact wpAny_truthy_list ⟨_, ho, rfl, n, rfl⟩ (by rw [← hl]; exact hf.fit) (by rw [isEmpty_of_length hl]; exact hq _)
    · rename_i kvs ep e
      obtain ⟨_, hf, us, hd, hk, hvs⟩ := R.own a _ e
      have hl : us.length = kvs.length := by have := congrArg List.length hk; simpa using this
      cases ht
      refine wpAny_truthy_dict (sysMod_ne G R e) hd.dictOf (by rw [hl]; exact hf.fit) ?_
      have : us.isEmpty = kvs.isEmpty := by cases us <;> cases kvs <;> simp at hl ⊢
      rw [this]; exact hq _
    · cases ht
/-- a test by a value's truth -/
noncomputable def tTruth (t : TE) : TB := fun ℓ σ Q E => t ℓ σ (fun v σ₁ => match truthV v σ₁ with | some b => Q b σ₁ | none => False) E
theorem sndB_value {e : Expr} {t : TE} (h1 : SndE g sc r c e t) (he : ∀ env whole, isTrue e env whole = (do let v ← whole; standAt e.pos; holding [v] (truthy v))) : SndB g sc r c e (tTruth t) := .mk fun A env s ℓ σ Q E X h => by
  refine wpAny_isTrue_value (X.then (h1.run A env s ℓ σ _ E X h) fun v x s₁ σ₁ hv X₁ hx hq => ?_) (he env _)
  split at hq
  · rename_i b hb; exact truth_ok X.gok X₁.rel hv hb fun tk => .keeps (fun _ _ e => e) ⟨rfl, rfl, rfl⟩ rfl X₁.rel hq
  · exact hq.elim
noncomputable def tNotB (t : TB) : TB := fun ℓ σ Q E => t ℓ σ (fun b σ₁ => Q (!b) σ₁) E
theorem sndB_not {e : Expr} {t : TB} {pos : Pos} (h1 : SndB g sc r c e t) : SndB g sc r c (.UnaryOp .Not e pos) (tNotB t) := .mk fun A env s ℓ σ Q E X h =>
  wpAny_isTrue_Not (wpAny_mono (h1.run A env s ℓ σ _ E X h) (fun b s₁ p => let ⟨x, σ₁, h1, h2, h3, h4, h5⟩ := p; ⟨!x, σ₁, by rw [h1], h2, h3, h4, h5⟩) fun _ _ p => p)
/-- and, or: tests one behind the other -/
structure SndBs (g : Gr) (sc : Scope) (r : Nat) (c : Bool) (op : BoolOp) (es : List Expr) (t : TB) : Prop where
  run : ∀ A env s ℓ σ Q E, Cx g sc r c A env s.heap σ ℓ → t ℓ σ Q E → wpAny (model g.prog g.w) A (allTrue op es env) (PostB g s σ Q) (PostX g A s σ E) s
noncomputable def tAndB (t ts : TB) : TB := fun ℓ σ Q E => t ℓ σ (fun b σ₁ => match b with | true => ts ℓ σ₁ Q E | false => Q false σ₁) E
noncomputable def tOrB (t ts : TB) : TB := fun ℓ σ Q E => t ℓ σ (fun b σ₁ => match b with | true => Q true σ₁ | false => ts ℓ σ₁ Q E) E
noncomputable def tConstB (b : Bool) : TB := fun _ σ Q _ => Q b σ
theorem sndBs_and_nil : SndBs g sc r c .And [] (tConstB true) := .mk fun A env s ℓ σ Q E X h => wpAny_allTrue_And_nil (.here rfl X.rel h)
theorem sndBs_or_nil : SndBs g sc r c .Or [] (tConstB false) := .mk fun A env s ℓ σ Q E X h => wpAny_allTrue_Or_nil (.here rfl X.rel h)
theorem sndBs_and {e : Expr} {es : List Expr} {t ts : TB} (h1 : SndB g sc r c e t) (h2 : SndBs g sc r c .And es ts) : SndBs g sc r c .And (e :: es) (tAndB t ts) := .mk fun A env s ℓ σ Q E X h => by
  refine wpAny_allTrue_And_cons (wpAny_mono (h1.run A env s ℓ σ _ E X h) (fun b s₁ p => ?_) fun _ _ p => p)
  obtain ⟨x, σ₁, rfl, hR, hx, hs, hq⟩ := p
  cases x with
  | true => exact wp_back hx hs (h2.run A env s₁ ℓ σ₁ Q E (X.step hR hx) hq)
  | false => exact ⟨false, σ₁, rfl, hR, hx, hs, hq⟩
theorem sndBs_or {e : Expr} {es : List Expr} {t ts : TB} (h1 : SndB g sc r c e t) (h2 : SndBs g sc r c .Or es ts) : SndBs g sc r c .Or (e :: es) (tOrB t ts) := .mk fun A env s ℓ σ Q E X h => by
  refine wpAny_allTrue_Or_cons (wpAny_mono (h1.run A env s ℓ σ _ E X h) (fun b s₁ p => ?_) fun _ _ p => p)
  obtain ⟨x, σ₁, rfl, hR, hx, hs, hq⟩ := p
  cases x with
  | false => exact wp_back hx hs (h2.run A env s₁ ℓ σ₁ Q E (X.step hR hx) hq)
  | true => exact ⟨true, σ₁, rfl, hR, hx, hs, hq⟩
theorem sndB_boolop {op : BoolOp} {es : List Expr} {t : TB} {pos : Pos} (h1 : SndBs g sc r c op es t) : SndB g sc r c (.BoolOp op es pos) t := .mk fun A env s ℓ σ Q E X h =>
  wpAny_isTrue_BoolOp (h1.run A env s ℓ σ Q E X h)
/-! ## comparisons -/
noncomputable def isNoneV : V → Bool
  | .none => true
  | _ => false
noncomputable def eqD (a b : V) (σ : AH) (Q : Bool → Prop) : Prop := match a, b with
  | .int i, .int j => Q (i == j)
  | a, b => ∃ da db, DataOf σ da a ∧ DataOf σ db b ∧ Lay da ∧ Lay db ∧ Q (PyData.eqv da db)
noncomputable def inD (x c : V) (σ : AH) (Q : Bool → Prop) : Prop := match c with
  | .tup xs => ∃ ds d, DataOfs σ ds xs ∧ DataOf σ d x ∧ Lay (.tuple ds) ∧ Lay d ∧ Q (ds.any fun y => PyData.eqv y d)
  | .ref a => match σ a with
    | some (.list xs) => ∃ ds d, DataOfs σ ds xs ∧ DataOf σ d x ∧ Lay (.list ds) ∧ Lay d ∧ Q (ds.any fun y => PyData.eqv y d)
    | some (.dictI kvs _) => match x with | .int k => Q (kvs.any fun kv => kv.1 == k) | _ => False
    | some (.dictT kvs _) => ∃ ks : List Int, x = .tup (ks.map V.int) ∧ Q (kvs.any fun kv => kv.1 == ks)
    | _ => False
  | _ => False
noncomputable def cmpV (op : CmpOp) (a b : V) (σ : AH) (Q : Bool → Prop) : Prop := match op with
  | .Lt => match a, b with | .int i, .int j => Q (decide (i < j)) | _, _ => False
  | .LtE => match a, b with | .int i, .int j => Q (decide (i ≤ j)) | _, _ => False
  | .Gt => match a, b with | .int i, .int j => Q (decide (j < i)) | _, _ => False
  | .GtE => match a, b with | .int i, .int j => Q (decide (j ≤ i)) | _, _ => False
  | .Eq => eqD a b σ Q
  | .NotEq => eqD a b σ fun r => Q (!r)
  | .Is => match b with | .none => Q (isNoneV a) | .bool true => (match a with | .bool x => Q x | _ => False) | _ => False
  | .IsNot => match b with | .none => Q (!isNoneV a) | _ => False
  | .In => inD a b σ Q
  | .NotIn => inD a b σ fun r => Q (!r)
end
section
open PySem PyProof.Rows
variable {g : Gr} {sc : Scope} {r : Nat} {c : Bool}
theorem isNone_of {h : Heap} {a : V} {u : Value} (hv : VR g h a u) : (u == .none) = isNoneV a := by
  cases a with
  | none => rw [VR_none] at hv; subst hv; rfl
  | bool b => rw [VR_bool] at hv; subst hv; rfl
  | int i => rw [VR_int] at hv; obtain ⟨t, rfl⟩ := hv; rfl
  | str x => rw [VR_str] at hv; obtain ⟨_, t, rfl⟩ := hv; rfl
  | ref a => rw [VR_ref] at hv; subst hv; rfl
  | tup xs => rw [VR_tup] at hv; obtain ⟨_, a, _, _, _, rfl, _⟩ := hv; rfl
  | frz xs => rw [VR_frz] at hv; obtain ⟨_, a, _, _, _, rfl, _⟩ := hv; rfl
theorem valueAt_isSome {us : List (Int × Value)} {kvs : List (Int × V)} (hk : us.map (·.1) = kvs.map (·.1)) (k : Int) : (valueAt us k).isSome = kvs.any fun kv => kv.1 == k := by
  induction us generalizing kvs with
  | nil => cases kvs with
    | nil => rfl
    | cons _ _ => simp at hk
  | cons u us ih => cases kvs with
    | nil => simp at hk
    | cons kv kvs =>
      simp only [List.map_cons, List.cons.injEq] at hk
      have := ih hk.2
      unfold valueAt at this ⊢
      rw [List.find?_cons, List.any_cons, ← hk.1]
      by_cases e : u.1 = k
      · simp [e]
      · have e' : (u.1 == k) = false := by simpa using e
        simp only [e, decide_false, e', Bool.false_or]; exact this
theorem atKey_isSome {us : List (List Int × Addr × Value)} {kvs : List (List Int × V)} (hk : us.map (·.1) = kvs.map (·.1)) (k : List Int) : (atKey us k).isSome = kvs.any fun kv => kv.1 == k := by
  induction us generalizing kvs with
  | nil => cases kvs with
    | nil => rfl
    | cons _ _ => simp at hk
  | cons u us ih => cases kvs with
    | nil => simp at hk
    | cons kv kvs =>
      simp only [List.map_cons, List.cons.injEq] at hk
      have := ih hk.2
      unfold atKey at this ⊢
      rw [List.find?_cons, List.any_cons, ← hk.1]
      by_cases e : u.1 = k
      · simp [e]
      · have e' : (u.1 == k) = false := by simpa using e
        simp only [e, decide_false, e', Bool.false_or]; exact this
theorem itemsAre_ints {h : Heap} : ∀ {ks : List Int} {vs : List Value}, VRs g h (ks.map V.int) vs → ItemsAre (intKind g.prog g.w) ks vs
  | [], vs, a => by rw [VRs_nil_inv a]; exact .nil
  | k :: ks, vs, a => by
    obtain ⟨v, r, rfl, hv, b⟩ := VRs_cons_inv a
    rw [VR_int] at hv; obtain ⟨t, rfl⟩ := hv
    exact .cons (intKind_is _ _ k t) (itemsAre_ints b)
theorem tupleKey_of {h : Heap} {ks : List Int} {v : Value} (hv : VR g h (.tup (ks.map V.int)) v) : ∃ a, v = .ref a ∧ ¬ g.hid a ∧ IsTupleKey (intKind g.prog g.w) h ks a := by
  rw [VR_tup] at hv; obtain ⟨_, a, o, vs, n, rfl, nh, ho, hc, hd, hvs⟩ := hv
  exact ⟨a, rfl, nh, o, vs, n, ho, hc, hd, itemsAre_ints hvs⟩
theorem DictAtT.ofH {h : Heap} {d : Addr} {xs : List (List Int × Addr × Value)} {ep : Nat} (x : DictAtT g h d xs ep) : h.DictOfH (tupleKind (intKind g.prog g.w)) d xs := let ⟨o, es, h1, h2, h3, h4, h5, h6⟩ := x; ⟨o, es, ep, h1, h2, h3, h4, fun y hy => (h5 y hy).2, h6⟩
section
variable {A : Around} {env : Env} {E : Value → Shared → Prop} {s : Shared} {σ : AH} {ℓ : Loc}
/-- what a comparison leaves: a bool, and nothing changed -/
noncomputable def Told (s : Shared) (Q : Bool → Prop) (v : Value) (s' : Shared) : Prop := ∃ b tk, v = .bool b ∧ s' = { s with toks := tk } ∧ Q b
theorem eq_ok {a b : V} {u v : Value} {Q : Bool → Prop} (X : Cx g sc r c A env s.heap σ ℓ) (ha : VR g s.heap a u) (hb : VR g s.heap b v) (h : eqD a b σ Q) : wpAny (model g.prog g.w) A (compareOp .Eq u v) (Told s Q) E s := by
  have hu := X.room.cline
  have gen : (∃ da db, DataOf σ da a ∧ DataOf σ db b ∧ Lay da ∧ Lay db ∧ Q (PyData.eqv da db)) → wpAny (model g.prog g.w) A (compareOp .Eq u v) (Told s Q) E s := by
    rintro ⟨da, db, h1, h2, h3, h4, h5⟩
    obtain ⟨as, ra⟩ := reads_of X.rel h1 ha
    obtain ⟨bs, rb⟩ := reads_of X.rel h2 hb
    have := h3.2
    exact SeqAt.compareEq_reads ra rb h3.1 h4.1 (by omega) ⟨_, s.toks, rfl, rfl, h5⟩
  unfold eqD at h
  split at h
  · rw [VR_int] at ha hb; obtain ⟨t, rfl⟩ := ha; obtain ⟨t', rfl⟩ := hb
    exact PySem.P.eq_int ⟨_, s.toks, rfl, rfl, h⟩
  · exact gen h
theorem ne_ok {a b : V} {u v : Value} {Q : Bool → Prop} (X : Cx g sc r c A env s.heap σ ℓ) (ha : VR g s.heap a u) (hb : VR g s.heap b v) (h : eqD a b σ fun r => Q (!r)) : wpAny (model g.prog g.w) A (compareOp .NotEq u v) (Told s Q) E s := by
  have hu := X.room.cline
  have gen : (∃ da db, DataOf σ da a ∧ DataOf σ db b ∧ Lay da ∧ Lay db ∧ Q (!PyData.eqv da db)) → wpAny (model g.prog g.w) A (compareOp .NotEq u v) (Told s Q) E s := by
    rintro ⟨da, db, h1, h2, h3, h4, h5⟩
    obtain ⟨as, ra⟩ := reads_of X.rel h1 ha
    obtain ⟨bs, rb⟩ := reads_of X.rel h2 hb
    have := h3.2
    exact SeqAt.compareNe_reads ra rb h3.1 h4.1 (by omega) ⟨_, s.toks, rfl, rfl, h5⟩
  unfold eqD at h
  split at h
  · rw [VR_int] at ha hb; obtain ⟨t, rfl⟩ := ha; obtain ⟨t', rfl⟩ := hb
    exact PySem.P.ne_int ⟨_, s.toks, rfl, rfl, h⟩
  · exact gen h
theorem lay_list {ds : List PyData} (h : Lay (.list ds)) : PyData.canLayAll0 ds = true ∧ PyData.depthAll ds ≤ 20 := by
  refine ⟨h.1, ?_⟩
  have := h.2
  unfold PyData.depth at this
  omega
theorem lay_tuple {ds : List PyData} (h : Lay (.tuple ds)) : PyData.canLayAll0 ds = true ∧ PyData.depthAll ds ≤ 20 := by
  refine ⟨h.1, ?_⟩
  have := h.2
  unfold PyData.depth at this
  omega
theorem in_ok {a b : V} {u v : Value} {Q : Bool → Prop} (X : Cx g sc r c A env s.heap σ ℓ) (ha : VR g s.heap a u) (hb : VR g s.heap b v) (h : inD a b σ Q) : wpAny (model g.prog g.w) A (compareOp .In u v) (Told s Q) E s := by
  have hu := X.room.cline
  unfold inD at h
  split at h
  · rename_i xs
    obtain ⟨ds, d, h1, h2, h3, h4, h5⟩ := h
    obtain ⟨bs, rb⟩ := reads_of (d := .tuple ds) X.rel (by unfold DataOf; exact ⟨xs, rfl, h1⟩) hb
    obtain ⟨as, ra⟩ := reads_of X.rel h2 ha
    obtain ⟨k1, k2⟩ := lay_tuple h3
    exact SeqAt.in_tuple_reads rb ra k1 h4.1 (by omega) ⟨_, s.toks, rfl, rfl, h5⟩
  · rename_i l
    split at h
    · rename_i xs e
      obtain ⟨ds, d, h1, h2, h3, h4, h5⟩ := h
      obtain ⟨bs, rb⟩ := reads_of (d := .list ds) X.rel (by unfold DataOf; exact ⟨l, xs, rfl, e, h1⟩) hb
      obtain ⟨as, ra⟩ := reads_of X.rel h2 ha
      obtain ⟨k1, k2⟩ := lay_list h3
      exact SeqAt.in_list_reads rb ra k1 h4.1 (by omega) ⟨_, s.toks, rfl, rfl, h5⟩
    · rename_i kvs ep e
      split at h
      · rename_i k
        rw [VR_int] at ha; obtain ⟨t, rfl⟩ := ha
        rw [VR_ref] at hb; subst hb
        obtain ⟨_, hf, us, hd, hk, hvs⟩ := X.rel.own l _ e
        exact wpAny_in_of (intKind_is _ _ k t) (sysMod_ne X.gok X.rel e) hd.dictOf.mapOf ⟨_, _, rfl, rfl, by rw [valueAt_isSome hk]; exact h⟩
      · exact h.elim
    · rename_i kvs ep e
      obtain ⟨ks, rfl, h⟩ := h
      obtain ⟨ka, rfl, _, hka⟩ := tupleKey_of ha
      rw [VR_ref] at hb; subst hb
      obtain ⟨_, hf, us, hd, hk, hvs⟩ := X.rel.own l _ e
      exact wpAny_in_heap (knd := tupleKind (intKind g.prog g.w)) (tupleKind_room_in1 (by omega)) hka (sysMod_ne X.gok X.rel e) hd.ofH ⟨_, _, rfl, rfl, by rw [atKey_isSome hk]; exact h⟩
    · exact h.elim
  · exact h.elim
theorem notIn_ok {a b : V} {u v : Value} {Q : Bool → Prop} (X : Cx g sc r c A env s.heap σ ℓ) (ha : VR g s.heap a u) (hb : VR g s.heap b v) (h : inD a b σ fun r => Q (!r)) : wpAny (model g.prog g.w) A (compareOp .NotIn u v) (Told s Q) E s := by
  have hu := X.room.cline
  unfold inD at h
  split at h
  · rename_i xs
    obtain ⟨ds, d, h1, h2, h3, h4, h5⟩ := h
    obtain ⟨bs, rb⟩ := reads_of (d := .tuple ds) X.rel (by unfold DataOf; exact ⟨xs, rfl, h1⟩) hb
    obtain ⟨as, ra⟩ := reads_of X.rel h2 ha
    obtain ⟨k1, k2⟩ := lay_tuple h3
    exact SeqAt.notIn_tuple_reads rb ra k1 h4.1 (by omega) ⟨_, s.toks, rfl, rfl, h5⟩
  · rename_i l
    split at h
    · rename_i xs e
      obtain ⟨ds, d, h1, h2, h3, h4, h5⟩ := h
      obtain ⟨bs, rb⟩ := reads_of (d := .list ds) X.rel (by unfold DataOf; exact ⟨l, xs, rfl, e, h1⟩) hb
      obtain ⟨as, ra⟩ := reads_of X.rel h2 ha
      obtain ⟨k1, k2⟩ := lay_list h3
      exact SeqAt.notIn_list_reads rb ra k1 h4.1 (by omega) ⟨_, s.toks, rfl, rfl, h5⟩
    · rename_i kvs ep e
      split at h
      · rename_i k
        rw [VR_int] at ha; obtain ⟨t, rfl⟩ := ha
        rw [VR_ref] at hb; subst hb
        obtain ⟨_, hf, us, hd, hk, hvs⟩ := X.rel.own l _ e
        refine wpAny_notIn_of (intKind_is _ _ k t) (sysMod_ne X.gok X.rel e) hd.dictOf.mapOf ⟨_, _, rfl, rfl, ?_⟩
        rw [valueAt_isSome hk]; exact h
      · exact h.elim
    · rename_i kvs ep e
      obtain ⟨ks, rfl, h⟩ := h
      obtain ⟨ka, rfl, _, hka⟩ := tupleKey_of ha
      rw [VR_ref] at hb; subst hb
      obtain ⟨_, hf, us, hd, hk, hvs⟩ := X.rel.own l _ e
      refine wpAny_notIn_heap (knd := tupleKind (intKind g.prog g.w)) (tupleKind_room_in1 (by omega)) hka (sysMod_ne X.gok X.rel e) hd.ofH ⟨_, _, rfl, rfl, ?_⟩
      rw [atKey_isSome hk]; exact h
    · exact h.elim
  · exact h.elim
theorem isSame_true (b : Bool) : isSame (.bool b) (.bool true) = pure b := by cases b <;> rfl
theorem cmp_ok {op : CmpOp} {a b : V} {u v : Value} {Q : Bool → Prop} (X : Cx g sc r c A env s.heap σ ℓ) (ha : VR g s.heap a u) (hb : VR g s.heap b v) (h : cmpV op a b σ Q) : wpAny (model g.prog g.w) A (compareOp op u v) (Told s Q) E s := by
  cases op with
  | Lt => simp only [cmpV] at h; split at h
          · rw [VR_int] at ha hb; obtain ⟨t, rfl⟩ := ha; obtain ⟨t', rfl⟩ := hb; exact PySem.P.lt_int ⟨_, s.toks, rfl, rfl, h⟩
          · exact h.elim
  | LtE => simp only [cmpV] at h; split at h
           · rw [VR_int] at ha hb; obtain ⟨t, rfl⟩ := ha; obtain ⟨t', rfl⟩ := hb; exact PySem.P.le_int ⟨_, s.toks, rfl, rfl, h⟩
           · exact h.elim
  | Gt => simp only [cmpV] at h; split at h
          · rw [VR_int] at ha hb; obtain ⟨t, rfl⟩ := ha; obtain ⟨t', rfl⟩ := hb; exact PySem.P.gt_int ⟨_, s.toks, rfl, rfl, h⟩
          · exact h.elim
  | GtE => simp only [cmpV] at h; split at h
           · rw [VR_int] at ha hb; obtain ⟨t, rfl⟩ := ha; obtain ⟨t', rfl⟩ := hb; exact PySem.P.ge_int ⟨_, s.toks, rfl, rfl, h⟩
           · exact h.elim
  | Eq => exact eq_ok X ha hb h
  | NotEq => exact ne_ok X ha hb h
  | Is =>
    simp only [cmpV] at h
    split at h
    · rw [VR_none] at hb; subst hb; exact is_none ⟨_, s.toks, rfl, rfl, by rw [isNone_of ha]; exact h⟩
    · rw [VR_bool] at hb; subst hb
      split at h
      · rw [VR_bool] at ha; subst ha
        show wpAny _ A (do return Value.bool (← isSame _ _)) _ E s
        rw [isSame_true]; exact wpAny_bind (wpAny_pure (wpAny_pure ⟨_, s.toks, rfl, rfl, h⟩))
      · exact h.elim
    · exact h.elim
  | IsNot =>
    simp only [cmpV] at h
    split at h
    · rw [VR_none] at hb; subst hb; exact isNot_none ⟨_, s.toks, rfl, rfl, by rw [isNone_of ha]; exact h⟩
    · exact h.elim
  | In => exact in_ok X ha hb h
  | NotIn => exact notIn_ok X ha hb h
end
noncomputable def tCmp (op : CmpOp) (t₁ t₂ : TE) : TE := fun ℓ σ Q E => t₁ ℓ σ (fun a σ₁ => t₂ ℓ σ₁ (fun b σ₂ => cmpV op a b σ₂ fun r => Q (.bool r) σ₂) E) E
noncomputable def tCmpB (op : CmpOp) (t₁ t₂ : TE) : TB := fun ℓ σ Q E => t₁ ℓ σ (fun a σ₁ => t₂ ℓ σ₁ (fun b σ₂ => cmpV op a b σ₂ fun r => Q r σ₂) E) E
noncomputable def tCmp2B (op op' : CmpOp) (t₁ t₂ t₃ : TE) : TB := fun ℓ σ Q E => t₁ ℓ σ (fun a σ₁ => t₂ ℓ σ₁ (fun b σ₂ => cmpV op a b σ₂ fun r => match r with | true => t₃ ℓ σ₂ (fun d σ₃ => cmpV op' b d σ₃ fun q => Q q σ₃) E | false => Q false σ₂) E) E
theorem sndE_cmp {op : CmpOp} {e₁ e₂ : Expr} {t₁ t₂ : TE} {pos : Pos} (h1 : SndE g sc r c e₁ t₁) (h2 : SndE g sc r c e₂ t₂) (hm : behindInMarks op e₂ = false) : SndE g sc r c (.Compare e₁ [op] [e₂] pos) (tCmp op t₁ t₂) := .mk fun A env s ℓ σ Q E X h => by
  refine wpAny_Compare1 (wpAny_mono (h1.run A env s ℓ σ _ E X h) (fun u s₁ p => ?_) fun _ _ p => p) hm
  obtain ⟨a, σ₁, hu, hR, hx, hs, hq⟩ := p
  have X₁ := X.step hR hx
  refine wpAny_mono (h2.run A env s₁ ℓ σ₁ _ E X₁ hq) (fun v s₂ p => ?_) fun _ _ p => p.back hx hs
  obtain ⟨b, σ₂, hv, hR2, hx2, hs2, hq2⟩ := p
  refine wpAny_mono (cmp_ok (E := fun _ _ => False) (X₁.step hR2 hx2) (hx2.vr hR noSeq_no hu) hv hq2) (fun w s₃ p => ?_) fun _ _ p => p.elim
  obtain ⟨bb, tk, rfl, rfl, hq3⟩ := p
  exact ⟨.bool bb, σ₂, VR_bool.mpr rfl, hR2, hx.trans hx2, hs.trans (hs2.trans ⟨rfl, rfl, rfl⟩), hq3⟩
theorem sndB_cmp {op : CmpOp} {e₁ e₂ : Expr} {t₁ t₂ : TE} {pos : Pos} (h1 : SndE g sc r c e₁ t₁) (h2 : SndE g sc r c e₂ t₂) (hm : behindInMarks op e₂ = false) : SndB g sc r c (.Compare e₁ [op] [e₂] pos) (tCmpB op t₁ t₂) := .mk fun A env s ℓ σ Q E X h => by
  refine wpAny_isTrue_Compare1 (wpAny_mono (h1.run A env s ℓ σ _ E X h) (fun u s₁ p => ?_) fun _ _ p => p) hm
  obtain ⟨a, σ₁, hu, hR, hx, hs, hq⟩ := p
  have X₁ := X.step hR hx
  refine wpAny_mono (h2.run A env s₁ ℓ σ₁ _ E X₁ hq) (fun v s₂ p => ?_) fun _ _ p => p.back hx hs
  obtain ⟨b, σ₂, hv, hR2, hx2, hs2, hq2⟩ := p
  refine wpAny_mono (cmp_ok (E := fun _ _ => False) (X₁.step hR2 hx2) (hx2.vr hR noSeq_no hu) hv hq2) (fun w s₃ p => ?_) fun _ _ p => p.elim
  obtain ⟨bb, tk, rfl, rfl, hq3⟩ := p
  exact wpAny_truthy_bool ⟨bb, σ₂, rfl, hR2, hx.trans hx2, hs.trans (hs2.trans ⟨rfl, rfl, rfl⟩), hq3⟩
theorem sndB_cmp2 {op op' : CmpOp} {e₁ e₂ e₃ : Expr} {t₁ t₂ t₃ : TE} {pos : Pos} (h1 : SndE g sc r c e₁ t₁) (h2 : SndE g sc r c e₂ t₂) (h3 : SndE g sc r c e₃ t₃) (hm : lastMarks [op, op'] [e₂, e₃] = false) :
    SndB g sc r c (.Compare e₁ [op, op'] [e₂, e₃] pos) (tCmp2B op op' t₁ t₂ t₃) := .mk fun A env s ℓ σ Q E X h => by
  refine isTrue_chain (wpAny_mono (h1.run A env s ℓ σ _ E X h) (fun u s₁ p => ?_) fun _ _ p => p) hm
  obtain ⟨a, σ₁, hu, hR, hx, hs, hq⟩ := p
  have X₁ := X.step hR hx
  refine test_link (wpAny_mono (h2.run A env s₁ ℓ σ₁ _ E X₁ hq) (fun v s₂ p => ?_) fun _ _ p => p.back hx hs)
  obtain ⟨b, σ₂, hv, hR2, hx2, hs2, hq2⟩ := p
  have X₂ := X₁.step hR2 hx2
  refine wpAny_mono (cmp_ok (E := fun _ _ => False) X₂ (hx2.vr hR noSeq_no hu) hv hq2) (fun w s₃ p => ?_) fun _ _ p => p.elim
  obtain ⟨bb, tk, rfl, rfl, hq3⟩ := p
  have hs' : Same s { s₂ with toks := tk } := hs.trans (hs2.trans ⟨rfl, rfl, rfl⟩)
  refine wpAny_truthy_bool ?_
  cases bb with
  | false => exact ⟨false, σ₂, rfl, hR2, hx.trans hx2, hs', hq3⟩
  | true =>
    refine test_last (wpAny_mono (h3.run A env { s₂ with toks := tk } ℓ σ₂ _ E X₂ hq3) (fun y s₄ p => ?_) fun _ _ p => p.back (hx.trans hx2) hs')
    obtain ⟨d, σ₃, hy, hR3, hx3, hs3, hq4⟩ := p
    refine wpAny_mono (cmp_ok (E := fun _ _ => False) (X₂.step hR3 hx3) (hx3.vr hR2 noSeq_no hv) hy hq4) (fun w s₅ p => ?_) fun _ _ p => p.elim
    obtain ⟨bb, tk', rfl, rfl, hq5⟩ := p
    exact wpAny_truthy_bool ⟨bb, σ₃, rfl, hR3, (hx.trans hx2).trans hx3, hs'.trans (hs3.trans ⟨rfl, rfl, rfl⟩), hq5⟩
end
section
open PySem PyProof.Rows
variable {g : Gr} {sc : Scope} {r : Nat} {c : Bool}
/-! ## operators -/
noncomputable def binV (op : Operator) (a b : V) (σ : AH) (Q : V → AH → Prop) : Prop := match op with
  | .Add => match a, b with
    | .int i, .int j => Q (.int (i + j)) σ
    | .str x, .str y => Fits (x.length + y.length) ∧ Q (.str (x ++ y)) σ
    | .tup xs, .tup ys => Fits (xs.length + ys.length) ∧ Q (.tup (xs ++ ys)) σ
    | .ref l, .ref m => ∃ xs ys, σ l = some (.list xs) ∧ σ m = some (.list ys) ∧ Fits (xs.length + ys.length) ∧ ∀ a, σ a = none → Q (.ref a) (σ.set a (.list (xs ++ ys)))
    | _, _ => False
  | .Sub => match a, b with | .int i, .int j => Q (.int (i - j)) σ | _, _ => False
  | .Mult => match a, b with
    | .int i, .int j => IntMulOk i j ∧ Q (.int (i * j)) σ
    | _, _ => False
  | .FloorDiv => match a, b with | .int i, .int j => j ≠ 0 ∧ Q (.int (i.fdiv j)) σ | _, _ => False
  | .Mod => match a, b with | .int i, .int j => j ≠ 0 ∧ Q (.int (i.fmod j)) σ | _, _ => False
  | .Pow => match a, b with | .int i, .int j => (0 ≤ j ∧ j ≤ 1000000 ∧ i.natAbs < 2 ^ 64) ∧ Q (.int (i ^ j.toNat)) σ | _, _ => False
  | _ => False
section
variable {A : Around} {env : Env} {E : Value → Shared → Prop} {s : Shared} {σ : AH} {ℓ : Loc} {Q : V → AH → Prop}
theorem post_tok {x : V} {v : Value} {tk : Nat} (R : Rel g s.heap σ) (hv : VR g s.heap x v) (h : Q x σ) : PostE g s σ Q v { s with toks := tk } :=
  .keeps (fun _ _ e => e) ⟨rfl, rfl, rfl⟩ hv R h
theorem pylong_ok (X : Cx g sc r c A env s.heap σ ℓ) : PylongRoom (model g.prog g.w) A s := by
  obtain ⟨e0, outer, hA, hf, ff, off, h1, h2, h3, h4⟩ := X.fr
  refine PylongRoom.of (X.gok.nolimit.keeps X.rel.base) ?_ (SeerAt.of (X.gok.seer.keeps X.rel.base) X.gok.tree hA h1 h2 h3 h4)
  have := X.room.depth
  show A.depth + 100 < _
  omega
theorem bin_ok {op : Operator} {a b : V} {u v : Value} (X : Cx g sc r c A env s.heap σ ℓ) (ha : VR g s.heap a u) (hb : VR g s.heap b v) (h : binV op a b σ Q) : wpAny (model g.prog g.w) A (binaryOp op u v) (PostE g s σ Q) E s := by
  cases op with
  | Add =>
    simp only [binV] at h
    split at h
    · rw [VR_int] at ha hb; obtain ⟨t, rfl⟩ := ha; obtain ⟨t', rfl⟩ := hb
      exact PySem.P.add_int (post_tok X.rel (VR_int.mpr ⟨_, rfl⟩) h)
    · rw [VR_str] at ha hb; obtain ⟨hfa, t, rfl⟩ := ha; obtain ⟨hfb, t', rfl⟩ := hb
      exact PyProof.Rows.add_str (fun t' tk => post_tok X.rel (VR_str.mpr ⟨by rw [Str.length_append]; exact h.1, _, rfl⟩) h.2) h.1.line
    · rename_i xs ys
      rw [VR_tup] at ha hb
      obtain ⟨hfa, l, ⟨cls, dd, data, sl⟩, vs, n, rfl, nh, ho, hc, hd, hvs⟩ := ha
      obtain ⟨hfb, m, ⟨cls2, dd2, data2, sl2⟩, ws, n2, rfl, nh2, ho2, hc2, hd2, hws⟩ := hb
      simp only at hc hd hc2 hd2
      subst hc hd hc2 hd2
      have hl := VRs_length hvs
      have hl2 := VRs_length hws
      simp only [Array.length_toList] at hl hl2
      by_cases e1 : vs.isEmpty = true
      · have : xs = [] := by have : vs.size = 0 := by simpa using e1
                             cases xs with | nil => rfl | cons _ _ => simp at hl; omega
        subst this
        exact concat_meets ⟨_, ho, rfl⟩ ⟨_, ho2, rfl⟩ noFill_tuple_add seq_tuple_add PySem.F.slot_tuple_add PySem.F.entry_tuple_add (PySem.F.args_tuple_add_2 _ _) (tuple_addW0 l m vs ws n n2 dd dd2 sl sl2 e1)
          ⟨ho, ho2, post_tok X.rel (VR_tup.mpr ⟨hfb, m, _, ws, n2, rfl, nh2, ho2, rfl, rfl, hws⟩) h.2⟩
      · by_cases e2 : ws.isEmpty = true
        · have : ys = [] := by have : ws.size = 0 := by simpa using e2
                               cases ys with | nil => rfl | cons _ _ => simp at hl2; omega
          subst this
          refine concat_meets ⟨_, ho, rfl⟩ ⟨_, ho2, rfl⟩ noFill_tuple_add seq_tuple_add PySem.F.slot_tuple_add PySem.F.entry_tuple_add (PySem.F.args_tuple_add_2 _ _) (tuple_addW1 l m vs ws n n2 dd dd2 sl sl2 e1 e2)
            ⟨ho, ho2, post_tok X.rel (VR_tup.mpr ⟨hfa, l, _, vs, n, rfl, nh, ho, rfl, rfl, hvs⟩) ?_⟩
          rw [List.append_nil] at h; exact h.2
        · refine concat_meets ⟨_, ho, rfl⟩ ⟨_, ho2, rfl⟩ noFill_tuple_add seq_tuple_add PySem.F.slot_tuple_add PySem.F.entry_tuple_add (PySem.F.args_tuple_add_2 _ _) (tuple_addW2 l m vs ws n n2 dd dd2 sl sl2 e1 e2 (by rw [← hl, ← hl2]; exact h.1.line))
            ⟨ho, ho2, ?_⟩
          have e : vs ++ ws = (vs.toList ++ ws.toList).toArray := by simp
          rw [e]
          exact post_newTuple .refl .refl X.rel (VRs_append hvs hws) (by rw [List.length_append]; exact h.1) h.2 rfl
    · rename_i l m
      obtain ⟨xs, ys, e1, e2, hf, hq⟩ := h
      rw [VR_ref] at ha hb; subst ha hb
      obtain ⟨_, hfa, vs, n, ho, hvs⟩ := X.rel.own l _ e1
      obtain ⟨_, hfb, ws, n2, ho2, hws⟩ := X.rel.own m _ e2
      have hl := VRs_length hvs
      have hl2 := VRs_length hws
      simp only [Array.length_toList] at hl hl2
      refine concat_meets ⟨_, ho, rfl⟩ ⟨_, ho2, rfl⟩ noFill_list_add seq_list_add PySem.F.slot_list_add PySem.F.entry_list_add (PySem.F.args_list_add_2 _ _) (list_addW l m vs ws n n2 none none #[] #[] (by rw [← hl, ← hl2]; exact hf.line)) ⟨ho, ho2, ?_⟩
      have e : vs ++ ws = (vs.toList ++ ws.toList).toArray := by simp
      rw [e]
      exact post_newList .refl .refl X.rel (VRs_append hvs hws) (by rw [List.length_append]; exact hf) hq rfl
    · exact h.elim
  | Sub =>
    simp only [binV] at h; split at h
    · rw [VR_int] at ha hb; obtain ⟨t, rfl⟩ := ha; obtain ⟨t', rfl⟩ := hb
      exact PySem.P.sub_int (post_tok X.rel (VR_int.mpr ⟨_, rfl⟩) h)
    · exact h.elim
  | Mult =>
    simp only [binV] at h; split at h
    · rw [VR_int] at ha hb; obtain ⟨t, rfl⟩ := ha; obtain ⟨t', rfl⟩ := hb
      exact PySem.P.mul_int (post_tok X.rel (VR_int.mpr ⟨_, rfl⟩) h.2) h.1
    · exact h.elim
  | FloorDiv =>
    simp only [binV] at h; split at h
    · rw [VR_int] at ha hb; obtain ⟨t, rfl⟩ := ha; obtain ⟨t', rfl⟩ := hb
      exact floordiv_int h.1 (post_tok X.rel (VR_int.mpr ⟨_, rfl⟩) h.2) (.inr (pylong_ok X))
    · exact h.elim
  | Mod =>
    simp only [binV] at h; split at h
    · rw [VR_int] at ha hb; obtain ⟨t, rfl⟩ := ha; obtain ⟨t', rfl⟩ := hb
      exact mod_int' h.1 (post_tok X.rel (VR_int.mpr ⟨_, rfl⟩) h.2)
    · exact h.elim
  | Pow =>
    simp only [binV] at h; split at h
    · rw [VR_int] at ha hb; obtain ⟨t, rfl⟩ := ha; obtain ⟨t', rfl⟩ := hb
      exact pow_int_small h.1.1 h.1.2.1 h.1.2.2 (post_tok X.rel (VR_int.mpr ⟨_, rfl⟩) h.2)
    · exact h.elim
  | _ => exact h.elim
end
noncomputable def tBin (op : Operator) (t₁ t₂ : TE) : TE := fun ℓ σ Q E => t₁ ℓ σ (fun a σ₁ => t₂ ℓ σ₁ (fun b σ₂ => binV op a b σ₂ Q) E) E
theorem sndE_bin {op : Operator} {e₁ e₂ : Expr} {t₁ t₂ : TE} {pos : Pos} (h1 : SndE g sc r c e₁ t₁) (h2 : SndE g sc r c e₂ t₂) : SndE g sc r c (.BinOp e₁ op e₂ pos) (tBin op t₁ t₂) := .mk fun A env s ℓ σ Q E X h => by
  refine wpAny_BinOp (wpAny_mono (h1.run A env s ℓ σ _ E X h) (fun u s₁ p => ?_) fun _ _ p => p)
  obtain ⟨a, σ₁, hu, hR, hx, hs, hq⟩ := p
  have X₁ := X.step hR hx
  refine wpAny_mono (h2.run A env s₁ ℓ σ₁ _ E X₁ hq) (fun v s₂ p => ?_) fun _ _ p => p.back hx hs
  obtain ⟨b, σ₂, hv, hR2, hx2, hs2, hq2⟩ := p
  exact wp_back (hx.trans hx2) (hs.trans hs2) (bin_ok (X₁.step hR2 hx2) (hx2.vr hR noSeq_no hu) hv hq2)
/-- not, as a value -/
noncomputable def tNot (t : TE) : TE := fun ℓ σ Q E => t ℓ σ (fun v σ₁ => match truthV v σ₁ with | some b => Q (.bool (!b)) σ₁ | none => False) E
theorem sndE_not {e : Expr} {t : TE} {pos : Pos} (h1 : SndE g sc r c e t) : SndE g sc r c (.UnaryOp .Not e pos) (tNot t) := .mk fun A env s ℓ σ Q E X h => by
  refine wpAny_UnaryOp (X.then (h1.run A env s ℓ σ _ E X h) fun v x s₁ σ₁ hv X₁ hx hq => ?_)
  split at hq
  · rename_i b hb; exact not_value (truth_ok X.gok X₁.rel hv hb fun tk => post_tok X₁.rel (VR_bool.mpr rfl) hq)
  · exact hq.elim
noncomputable def tNeg (t : TE) : TE := fun ℓ σ Q E => t ℓ σ (fun v σ₁ => match v with | .int i => Q (.int (-i)) σ₁ | _ => False) E
theorem sndE_neg {e : Expr} {t : TE} {pos : Pos} (h1 : SndE g sc r c e t) : SndE g sc r c (.UnaryOp .USub e pos) (tNeg t) := .mk fun A env s ℓ σ Q E X h => by
  refine wpAny_UnaryOp (X.then (h1.run A env s ℓ σ _ E X h) fun v x s₁ σ₁ hv X₁ hx hq => ?_)
  split at hq
  · rw [VR_int] at hv; obtain ⟨t, rfl⟩ := hv; exact PySem.P.neg_int (post_tok X₁.rel (VR_int.mpr ⟨_, rfl⟩) hq)
  · exact hq.elim
/-- a if t else b -/
noncomputable def tIf (t : TB) (a b : TE) : TE := fun ℓ σ Q E => t ℓ σ (fun x σ₁ => match x with | true => a ℓ σ₁ Q E | false => b ℓ σ₁ Q E) E
/-- and, or as values -/
structure SndV (g : Gr) (sc : Scope) (r : Nat) (c : Bool) (op : BoolOp) (es : List Expr) (t : TE) : Prop where
  run : ∀ A env pos s ℓ σ Q E, Cx g sc r c A env s.heap σ ℓ → t ℓ σ Q E → wpAny (model g.prog g.w) A (boolOp pos op (evalEach es env)) (PostE g s σ Q) (PostX g A s σ E) s
noncomputable def tAnd (t ts : TE) : TE := fun ℓ σ Q E => t ℓ σ (fun v σ₁ => match truthV v σ₁ with | some true => ts ℓ σ₁ Q E | some false => Q v σ₁ | none => False) E
noncomputable def tOr (t ts : TE) : TE := fun ℓ σ Q E => t ℓ σ (fun v σ₁ => match truthV v σ₁ with | some false => ts ℓ σ₁ Q E | some true => Q v σ₁ | none => False) E
theorem sndV_one {op : BoolOp} {e : Expr} {t : TE} (h1 : SndE g sc r c e t) : SndV g sc r c op [e] t := .mk fun A env pos s ℓ σ Q E X h => h1.run A env s ℓ σ Q E X h
theorem sndV_and {e e' : Expr} {es : List Expr} {t ts : TE} (h1 : SndE g sc r c e t) (h2 : SndV g sc r c .And (e' :: es) ts) : SndV g sc r c .And (e :: e' :: es) (tAnd t ts) := .mk fun A env pos s ℓ σ Q E X h => by
  show wpAny _ A (do let v ← eval e env; standAt pos; let t ← holding [v] (truthy v); match BoolOp.And, t with | .And, false | .Or, true => pure v | _, _ => boolOp pos .And (evalEach (e' :: es) env)) _ _ s
  refine wpAny_bind (X.then (h1.run A env s ℓ σ _ E X h) fun v x s₁ σ₁ hv X₁ hx hq => ?_)
  refine wpAny_bind (wpAny_standAt (wpAny_bind (wpAny_holding ?_)))
  split at hq
  · rename_i hb; exact truth_ok X.gok X₁.rel hv hb fun tk => wp_back (s := s₁) (s₁ := { s₁ with toks := tk }) .refl ⟨rfl, rfl, rfl⟩ (h2.run A env pos _ ℓ σ₁ Q E X₁ hq)
  · rename_i hb; exact truth_ok X.gok X₁.rel hv hb fun tk => wpAny_pure (post_tok X₁.rel hv hq)
  · exact hq.elim
theorem sndV_or {e e' : Expr} {es : List Expr} {t ts : TE} (h1 : SndE g sc r c e t) (h2 : SndV g sc r c .Or (e' :: es) ts) : SndV g sc r c .Or (e :: e' :: es) (tOr t ts) := .mk fun A env pos s ℓ σ Q E X h => by
  show wpAny _ A (do let v ← eval e env; standAt pos; let t ← holding [v] (truthy v); match BoolOp.Or, t with | .And, false | .Or, true => pure v | _, _ => boolOp pos .Or (evalEach (e' :: es) env)) _ _ s
  refine wpAny_bind (X.then (h1.run A env s ℓ σ _ E X h) fun v x s₁ σ₁ hv X₁ hx hq => ?_)
  refine wpAny_bind (wpAny_standAt (wpAny_bind (wpAny_holding ?_)))
  split at hq
  · rename_i hb; exact truth_ok X.gok X₁.rel hv hb fun tk => wp_back (s := s₁) (s₁ := { s₁ with toks := tk }) .refl ⟨rfl, rfl, rfl⟩ (h2.run A env pos _ ℓ σ₁ Q E X₁ hq)
  · rename_i hb; exact truth_ok X.gok X₁.rel hv hb fun tk => wpAny_pure (post_tok X₁.rel hv hq)
  · exact hq.elim
theorem sndE_boolop {op : BoolOp} {es : List Expr} {t : TE} {pos : Pos} (h1 : SndV g sc r c op es t) : SndE g sc r c (.BoolOp op es pos) t := .mk fun A env s ℓ σ Q E X h => h1.run A env pos s ℓ σ Q E X h
end
section
open PySem PyProof.Rows
variable {g : Gr} {sc : Scope} {r : Nat} {c : Bool}
/-! ## items -/
noncomputable def atV (xs : List V) (k : Int) : Option V := (seqIndex? k xs.length).bind (xs[·]?)
noncomputable def itemV (o i : V) (σ : AH) (Q : V → Prop) : Prop := match o with
  | .tup xs => match i with | .int k => (match atV xs k with | some x => Q x | none => False) | _ => False
  | .frz xs => match i with | .int k => (match atV xs k with | some x => Q x | none => False) | _ => False
  | .ref a => match σ a with
    | some (.list xs) => (match i with | .int k => (match atV xs k with | some x => Q x | none => False) | _ => False)
    | some (.dictI kvs _) => (match i with | .int k => (match kvs.lookup k with | some x => Q x | none => False) | _ => False)
    | some (.dictS kvs _) => (match i with | .str k => (match kvs.lookup k with | some x => Q x | none => False) | _ => False)
    | some (.dictT kvs _) => ∃ ks : List Int, i = .tup (ks.map V.int) ∧ (match kvs.lookup ks with | some x => Q x | none => False)
    | _ => False
  | _ => False
theorem seqIndex_some {k : Int} {n j : Nat} (h : seqIndex? k n = some j) : j < n ∧ ((0 ≤ k ∧ j = k.toNat) ∨ (k < 0 ∧ -(n : Int) ≤ k ∧ j = (k + n).toNat)) := by
  unfold seqIndex? at h
  dsimp only at h
  by_cases hk : k < 0
  · rw [if_pos hk] at h
    split at h
    · rename_i q
      simp only [Bool.and_eq_true, decide_eq_true_eq] at q
      cases h
      exact ⟨by omega, .inr ⟨hk, by omega, rfl⟩⟩
    · cases h
  · rw [if_neg hk] at h
    split at h
    · rename_i q
      simp only [Bool.and_eq_true, decide_eq_true_eq] at q
      cases h
      exact ⟨by omega, .inl ⟨by omega, rfl⟩⟩
    · cases h
theorem atV_some {xs : List V} {k : Int} {x : V} (h : atV xs k = some x) : ∃ j, seqIndex? k xs.length = some j ∧ xs[j]? = some x := by
  unfold atV at h
  exact Option.bind_eq_some_iff.mp h
theorem lookup_pairs {K : Type} [DecidableEq K] {g : Gr} {h : Heap} {kvs : List (K × V)} {us : List (K × Value)} (hk : us.map (·.1) = kvs.map (·.1)) (hv : VRs g h (kvs.map (·.2)) (us.map (·.2))) {k : K} {x : V} (e : kvs.lookup k = some x) :
    ∃ v, valueAt us k = some v ∧ VR g h x v := by
  induction kvs generalizing us with
  | nil => cases e
  | cons kv kvs ih =>
    cases us with
    | nil => simp at hk
    | cons u us =>
      simp only [List.map_cons, List.cons.injEq] at hk hv
      obtain ⟨v, r, e2, h1, h2⟩ := VRs_cons_inv hv
      cases e2
      rw [List.lookup_cons] at e
      unfold valueAt
      rw [List.find?_cons]
      by_cases q : k = kv.1
      · have : (k == kv.1) = true := by simpa using q
        rw [this] at e; cases e
        have : decide (u.1 = k) = true := by rw [hk.1, q]; simp
        rw [this]; exact ⟨_, rfl, h1⟩
      · have : (k == kv.1) = false := by simpa using q
        rw [this] at e
        have : decide (u.1 = k) = false := by rw [hk.1]; simpa using fun z => q z.symm
        rw [this]; exact ih hk.2 h2 e
theorem lookup_keys {g : Gr} {h : Heap} {kvs : List (List Int × V)} {us : List (List Int × Addr × Value)} (hk : us.map (·.1) = kvs.map (·.1)) (hv : VRs g h (kvs.map (·.2)) (us.map (·.2.2))) {k : List Int} {x : V} (e : kvs.lookup k = some x) :
    ∃ p, atKey us k = some p ∧ VR g h x p.2 := by
  induction kvs generalizing us with
  | nil => cases e
  | cons kv kvs ih =>
    cases us with
    | nil => simp at hk
    | cons u us =>
      simp only [List.map_cons, List.cons.injEq] at hk hv
      obtain ⟨v, r, e2, h1, h2⟩ := VRs_cons_inv hv
      cases e2
      rw [List.lookup_cons] at e
      unfold atKey
      rw [List.find?_cons]
      by_cases q : k = kv.1
      · have : (k == kv.1) = true := by simpa using q
        rw [this] at e; cases e
        have : decide (u.1 = k) = true := by rw [hk.1, q]; simp
        rw [this]; exact ⟨_, rfl, h1⟩
      · have : (k == kv.1) = false := by simpa using q
        rw [this] at e
        have : decide (u.1 = k) = false := by rw [hk.1]; simpa using fun z => q z.symm
        rw [this]; exact ih hk.2 h2 e
section
variable {A : Around} {env : Env} {E : Value → Shared → Prop} {s : Shared} {σ : AH} {ℓ : Loc}
theorem getList_ok {l : Addr} {o : Obj} {vs : Array Value} {n : Nat} {xs : List V} {k : Int} {t : Tok} {x : V} {P : Value → Shared → Prop} (ho : s.heap.get? l = some o) (hc : o.cls = .type "list") (hd : o.data = .seq vs n) (hf : Fits xs.length) (hvs : VRs g s.heap xs vs.toList)
    (e : atV xs k = some x) (hq : ∀ v, VR g s.heap x v → P v s) : wpAny (model g.prog g.w) A (getItem (.ref l) (.int k t)) P E s := by
  obtain ⟨j, e1, e2⟩ := atV_some e
  obtain ⟨v, e3, hv⟩ := VRs_get hvs e2
  have hl := VRs_length hvs
  simp only [Array.length_toList] at hl
  obtain ⟨hj, hk⟩ := seqIndex_some e1
  have := hf
  unfold Fits at this
  rcases hk with ⟨h0, rfl⟩ | ⟨h0, h1, rfl⟩
  · exact wpAny_getItem_list ⟨o, ho, hc, n, hd⟩ h0 (by omega) (by rw [← Array.getElem?_toList]; exact e3) (hq v hv)
  · refine wpAny_getItem_list_neg ⟨o, ho, hc, n, hd⟩ h0 (by rw [← hl]; exact h1) (by omega) ?_ (hq v hv)
    rw [← hl, ← Array.getElem?_toList]; exact e3
theorem typeIs_at {a : Addr} {o : Obj} {T : String} (ho : s.heap.get? a = some o) (hc : o.cls = .type T) : s.TypeIs (.ref a) T := ⟨o, ho, hc⟩
theorem item_ok {value slice : Expr} {o i : V} {u v : Value} {Q : V → Prop} {P : Value → Shared → Prop} (X : Cx g sc r c A env s.heap σ ℓ) (ho : VR g s.heap o u) (hi : VR g s.heap i v) (h : itemV o i σ Q)
    (hs : ∀ a b, subscripted slice false a b = operate [a, b] (getItem a b)) (hq : ∀ x w tk, Q x → VR g s.heap x w → P w { s with toks := tk }) : wpAny (model g.prog g.w) A (subscriptTail value slice u v) P E s := by
  have hu := X.room.cline
  unfold itemV at h
  split at h
  · rename_i xs
    split at h
    · rename_i k
      split at h
      · rename_i x e
        rw [VR_int] at hi; obtain ⟨t, rfl⟩ := hi
        rw [VR_tup] at ho; obtain ⟨hf, a, ob, vs, n, rfl, nh, hob, hc, hd, hvs⟩ := ho
        obtain ⟨j, e1, e2⟩ := atV_some e
        obtain ⟨w, e3, hw⟩ := VRs_get hvs e2
        have hl := VRs_length hvs
        simp only [Array.length_toList] at hl
        obtain ⟨hj, hk⟩ := seqIndex_some e1
        have := hf
        unfold Fits at this
        exact tail_any (typeIs_at hob hc) slot_tuple_getitem.lookup (getItem_tuple ⟨ob, hob, hc, n, hd⟩ (by omega) (by omega) (by rw [← hl]; exact e1) (by rw [← Array.getElem?_toList]; exact e3) (hq x w s.toks h hw)) (hs _ _)
      · exact h.elim
    · exact h.elim
  · rename_i xs
    split at h
    · rename_i k
      split at h
      · rename_i x e
        rw [VR_int] at hi; obtain ⟨t, rfl⟩ := hi
        rw [VR_frz] at ho; obtain ⟨hf, a, ob, vs, n, rfl, hob, hc, hd, hvs⟩ := ho
        exact tail_any (typeIs_at (X.rel.base _ _ hob) hc) slot_list_getitem.lookup (getList_ok (X.rel.base _ _ hob) hc hd hf hvs e fun w hw => hq x w s.toks h hw) (hs _ _)
      · exact h.elim
    · exact h.elim
  · rename_i a
    rw [VR_ref] at ho; subst ho
    split at h
    · rename_i xs ea
      obtain ⟨_, hf, vs, n, hob, hvs⟩ := X.rel.own a _ ea
      split at h
      · rename_i k
        split at h
        · rename_i x e
          rw [VR_int] at hi; obtain ⟨t, rfl⟩ := hi
          exact tail_any (typeIs_at hob rfl) slot_list_getitem.lookup (getList_ok hob rfl rfl hf hvs e fun w hw => hq x w s.toks h hw) (hs _ _)
        · exact h.elim
      · exact h.elim
    · rename_i kvs ep ea
      obtain ⟨_, hf, us, hd, hk, hvs⟩ := X.rel.own a _ ea
      split at h
      · rename_i k
        split at h
        · rename_i x e
          rw [VR_int] at hi; obtain ⟨t, rfl⟩ := hi
          obtain ⟨w, e2, hw⟩ := lookup_pairs hk hvs e
          exact tail_any hd.dictOf.typeIs slot_dict_getitem.lookup (wpAny_getItem_of (intKind_is _ _ k t) hd.dictOf.mapOf e2 (hq x w _ h hw)) (hs _ _)
        · exact h.elim
      · exact h.elim
    · rename_i kvs ep ea
      obtain ⟨_, hf, us, hd, hk, hvs⟩ := X.rel.own a _ ea
      split at h
      · rename_i k
        split at h
        · rename_i x e
          rw [VR_str] at hi; obtain ⟨_, t, rfl⟩ := hi
          obtain ⟨w, e2, hw⟩ := lookup_pairs hk hvs e
          exact tail_any hd.dictOf.typeIs slot_dict_getitem.lookup (wpAny_getItem_of (strKind_is _ _ k t) hd.dictOf.mapOf e2 (hq x w _ h hw)) (hs _ _)
        · exact h.elim
      · exact h.elim
    · rename_i kvs ep ea
      obtain ⟨_, hf, us, hd, hk, hvs⟩ := X.rel.own a _ ea
      obtain ⟨ks, rfl, h⟩ := h
      split at h
      · rename_i x e
        obtain ⟨ka, rfl, _, hka⟩ := tupleKey_of hi
        obtain ⟨p, e2, hw⟩ := lookup_keys hk hvs e
        exact tail_any hd.ofH.typeIs slot_dict_getitem.lookup (wpAny_getItem_heap (knd := tupleKind (intKind g.prog g.w)) (tupleKind_room_in1 (by omega)) hka hd.ofH e2 (hq x p.2 _ h hw)) (hs _ _)
      · exact h.elim
    · exact h.elim
  · exact h.elim
end
noncomputable def tItem (t₁ t₂ : TE) : TE := fun ℓ σ Q E => t₁ ℓ σ (fun a σ₁ => t₂ ℓ σ₁ (fun b σ₂ => itemV a b σ₂ fun x => Q x σ₂) E) E
theorem sndE_item {e₁ e₂ : Expr} {t₁ t₂ : TE} {pos : Pos} (h1 : SndE g sc r c e₁ t₁) (h2 : SndE g sc r c e₂ t₂) (hs : ∀ a b, subscripted e₂ false a b = operate [a, b] (getItem a b)) : SndE g sc r c (.Subscript e₁ e₂ pos) (tItem t₁ t₂) := .mk fun A env s ℓ σ Q E X h => by
  refine Subscript_ (wpAny_mono (h1.run A env s ℓ σ _ E X h) (fun u s₁ p => ?_) fun _ _ p => p)
  obtain ⟨a, σ₁, hu, hR, hx, hs1, hq⟩ := p
  have X₁ := X.step hR hx
  refine wpAny_mono (h2.run A env s₁ ℓ σ₁ _ E X₁ hq) (fun v s₂ p => ?_) fun _ _ p => p.back hx hs1
  obtain ⟨b, σ₂, hv, hR2, hx2, hs2, hq2⟩ := p
  exact wp_back (hx.trans hx2) (hs1.trans hs2) (item_ok (X₁.step hR2 hx2) (hx2.vr hR noSeq_no hu) hv hq2 hs fun x w tk hx hw => post_tok hR2 hw hx)
/-! ## slices by bounds that are not negative -/
noncomputable def loN : Option Int → Nat
  | some a => a.toNat
  | none => 0
noncomputable def hiN (n : Nat) : Option Int → Nat
  | some b => min b.toNat n
  | none => n
noncomputable def takeV {α : Type} (xs : List α) : Option Int → List α
  | some b => xs.take b.toNat
  | none => xs
noncomputable def cutV {α : Type} (lo hi : Option Int) (xs : List α) : List α := (takeV xs hi).drop (loN lo)
noncomputable def Nonneg : Option Int → Prop
  | some a => 0 ≤ a
  | none => True
theorem cutV_length {α : Type} (lo hi : Option Int) (xs : List α) : (cutV lo hi xs).length ≤ xs.length := by
  unfold cutV
  rw [List.length_drop]
  cases hi with
  | none => exact Nat.sub_le _ _
  | some b => unfold takeV; rw [List.length_take]; omega
theorem VRs_cut {g : Gr} {h : Heap} {xs : List V} {vs : List Value} (lo hi : Option Int) (a : VRs g h xs vs) : VRs g h (cutV lo hi xs) (cutV lo hi vs) := by
  unfold cutV
  cases hi with
  | none => exact VRs_drop _ a
  | some b => exact VRs_drop _ (VRs_take _ a)
theorem run_eq_cut {α : Type} (xs : List α) (a b : Nat) : (xs.drop (min a xs.length)).take (min b xs.length - min a xs.length) = (xs.take b).drop a := by
  apply List.ext_getElem?
  intro i
  rw [List.getElem?_drop, List.getElem?_take, List.getElem?_take, List.getElem?_drop]
  by_cases h1 : a + i < b
  · rw [if_pos h1]
    by_cases h2 : a + i < xs.length
    · rw [if_pos (by omega)]; congr 1; omega
    · have e : xs[a + i]? = none := List.getElem?_eq_none (by omega)
      rw [e]
      split
      · exact List.getElem?_eq_none (by omega)
      · rfl
  · rw [if_neg h1]
    split
    · exact absurd ‹_› (by omega)
    · rfl
theorem hiN_take {α : Type} (xs : List α) (hi : Option Int) : takeV xs hi = xs.take (hiN xs.length hi) := by
  cases hi with
  | none => unfold takeV hiN; rw [List.take_length]
  | some b => unfold takeV hiN; rw [← List.take_take, List.take_length]
theorem hiN_le (n : Nat) (hi : Option Int) : hiN n hi ≤ n := by cases hi <;> simp only [hiN] <;> omega
theorem slicePick_cut (items : Array Value) {lo hi : Option Int} (h1 : Nonneg lo) (h2 : Nonneg hi) : (slicePick items lo hi none).toList = cutV lo hi items.toList := by
  have hn : items.toList.length = items.size := by simp
  have e : sliceBounds lo hi none items.size = (((min (loN lo) items.size : Nat) : Int), ((hiN items.size hi : Nat) : Int), 1) := by
    simp only [sliceBounds, Option.getD_none, show (1 : Int) > 0 by decide, if_true]
    congr 1
    · cases lo with
      | none => simp [loN]
      | some a => have : 0 ≤ a := h1
                  unfold loN; dsimp only; rw [if_neg (by omega)]; omega
    · congr 1
      cases hi with
      | none => rfl
      | some b => have : 0 ≤ b := h2
                  unfold hiN; dsimp only; rw [if_neg (by omega)]; omega
  unfold slicePick
  rw [e]
  simp only [sliceRange_one, pick_run]
  unfold cutV
  rw [hiN_take]
  have := run_eq_cut items.toList (loN lo) (hiN items.toList.length hi)
  rw [Nat.min_eq_left (hiN_le _ hi), hn] at this
  rw [hn]
  exact this
end
section
open PySem PyProof.Rows
variable {g : Gr} {sc : Scope} {r : Nat} {c : Bool}
section
variable {prog : Program} {w : World} {A : Around} {E : Value → Shared → Prop} {s : Shared}
theorem slicePart_part {v : Value} {k : Option Int} {Q : Option Int → Shared → Prop} (p : IsPart v k) (h : Q k s) : wpAny (model prog w) A (Builtin.Slice.slicePartIndex v) Q E s := by
  cases p with
  | none => exact slicePart_none h
  | int i t => exact slicePart_int h
theorem adjust_cut {lo hi : Option Int} (h1 : Nonneg lo) (h2 : Nonneg hi) (n : Nat) : Builtin.Slice.sliceAdjust lo hi 1 (n : Int) = (((min (loN lo) n : Nat) : Int), ((hiN n hi : Nat) : Int)) := by
  unfold Builtin.Slice.sliceAdjust
  have e : ¬ ((1 : Int) < 0) := by omega
  simp only [e, if_false]
  congr 1
  · cases lo with
    | none => simp [loN]
    | some a => have : 0 ≤ a := h1
                simp only [loN]; rw [if_neg (by omega)]; omega
  · cases hi with
    | none => rfl
    | some b => have : 0 ≤ b := h2
                simp only [hiN]; rw [if_neg (by omega)]; omega
theorem places_cut (a b : Nat) : Builtin.Slice.slicePlaces (a : Int) (b : Int) 1 = b - a := by
  unfold Builtin.Slice.slicePlaces
  have h1 : (1 : Int) > 0 := by omega
  simp only [h1, if_true, Int.ediv_one]
  split <;> omega
theorem sliceApplied_cut {sl : Addr} {vl vu : Value} {lo hi : Option Int} {n : Nat} {Q : Int × Int × Nat → Shared → Prop} (hs : s.heap.IsSliceOf sl vl vu .none) (p1 : IsPart vl lo) (p2 : IsPart vu hi) (h1 : Nonneg lo) (h2 : Nonneg hi)
    (h : Q (((min (loN lo) n : Nat) : Int), 1, hiN n hi - min (loN lo) n) s) : wpAny (model prog w) A (Builtin.Slice.sliceApplied (.ref sl) (pure (n : Int))) Q E s := by
  obtain ⟨os, hos, hcs, hds⟩ := id hs
  unfold Builtin.Slice.sliceApplied Builtin.Slice.sliceFields
  refine wpAny_bind (wpAny_bind (wpAny_field hos hds (x := vl) rfl (wpAny_bind (wpAny_field hos hds (x := vu) rfl (wpAny_bind (wpAny_field hos hds (x := .none) rfl (wpAny_pure ?_)))))))
  refine wpAny_bind (slicePart_none ?_)
  show wpAny _ _ (if ((1 : Int) == 0) = true then _ else _) _ _ s
  rw [if_neg (by decide)]
  refine wpAny_bind (slicePart_part p1 (wpAny_bind (slicePart_part p2 (wpAny_bind (wpAny_pure ?_)))))
  show wpAny _ _ (match Builtin.Slice.sliceAdjust lo hi 1 (n : Int) with | (lo, hi) => pure (lo, (1 : Int), Builtin.Slice.slicePlaces lo hi 1)) _ _ s
  rw [adjust_cut h1 h2]
  show wpAny _ _ (pure (((min (loN lo) n : Nat) : Int), (1 : Int), Builtin.Slice.slicePlaces ((min (loN lo) n : Nat) : Int) ((hiN n hi : Nat) : Int) 1)) _ _ s
  rw [places_cut]
  exact wpAny_pure h
theorem pick_cut (xs : Array Value) (lo hi : Option Int) : ((List.range (hiN xs.size hi - min (loN lo) xs.size)).filterMap fun (k : Nat) => xs[(((min (loN lo) xs.size : Nat) : Int) + (k : Int) * 1).toNat]?) = cutV lo hi xs.toList := by
  have hn : xs.toList.length = xs.size := by simp
  have e : (fun (k : Nat) => xs[(((min (loN lo) xs.size : Nat) : Int) + (k : Int) * 1).toNat]?) = fun k => xs[min (loN lo) xs.size + k]? := by
    funext k
    have : (((min (loN lo) xs.size : Nat) : Int) + (k : Int) * 1).toNat = min (loN lo) xs.size + k := by omega
    rw [this]
  rw [e]
  have := pick_run xs (min (loN lo) xs.size) (hiN xs.size hi - min (loN lo) xs.size)
  rw [List.filterMap_map] at this
  have e2 : ((fun x => xs[x]?) ∘ fun x => min (loN lo) xs.size + x) = fun k => xs[min (loN lo) xs.size + k]? := rfl
  rw [e2] at this
  rw [this]
  unfold cutV
  rw [hiN_take]
  have q := run_eq_cut xs.toList (loN lo) (hiN xs.toList.length hi)
  rw [Nat.min_eq_left (hiN_le _ hi), hn] at q
  rw [hn]; exact q
/-- a tuple is cut: the tuple itself, or a new one -/
theorem getItem_tuple_cut {t sl : Addr} {items : Array Value} {vl vu : Value} {lo hi : Option Int} {Q : Value → Shared → Prop} (ht : IsTup s.heap t items) (hs : s.heap.IsSliceOf sl vl vu .none) (p1 : IsPart vl lo) (p2 : IsPart vu hi) (h1 : Nonneg lo) (h2 : Nonneg hi)
    (hq1 : cutV lo hi items.toList = items.toList → Q (.ref t) s) (hq2 : Q (.ref s.heap.objs.size) { s with heap := s.heap.push { cls := .type "tuple", data := .seq (cutV lo hi items.toList).toArray } })
    (hsz : items.size ≤ sizeLine) : wpAny (model prog w) A (getItem (.ref t) (.ref sl)) Q E s := by
  have hdrop : sizeOk (.seq (cutV lo hi items.toList).toArray) := by
    show (cutV lo hi items.toList).toArray.size ≤ sizeLine
    have h3 := cutV_length lo hi items.toList
    have h4 : items.toList.length = items.size := by simp
    have h5 : (cutV lo hi items.toList).toArray.size = (cutV lo hi items.toList).length := List.size_toArray
    omega
  obtain ⟨os, hos, hcs, hds⟩ := id hs
  have hTs : s.TypeIs (.ref sl) "slice" := ⟨os, hos, hcs⟩
  unfold getItem
  try with_reducible refine wpAny_holding ?_
  refine wpAny_bind (wpAny_sequenceKey ht.typeIs (by decide) ?_)
  refine wpAny_bind (wpAny_callSpecial?_slot (name := Str.ofString "__getitem__") ht.typeIs slot_tuple_getitem
    (wpAny_call_entry slot_tuple_getitem ht.typeIs entry_tuple_getitem ?_ (args_tuple_getitem _ _)))
  show wpAny _ _ (Builtin.Tuple.tupleItemsOf (.ref t) >>= _) _ _ s
  refine wpAny_bind (tupleItemsOf_ ht ?_)
  refine wpAny_bind (wpAny_typeOf hTs ?_)
  rw [if_pos (by decide)]
  refine wpAny_bind (sliceApplied_cut hs p1 p2 h1 h2 ?_)
  show wpAny _ _ (if (((min (loN lo) items.size : Nat) : Int) == 0 && (1 : Int) == 1 && (hiN items.size hi - min (loN lo) items.size) == items.size) = true then _ else _) _ _ s
  split
  · rename_i q
    simp only [Bool.and_eq_true, beq_iff_eq] at q
    have e : cutV lo hi items.toList = items.toList := by
      rw [← pick_cut, q.2]
      have : min (loN lo) items.size = 0 := by omega
      rw [this]
      have e2 := pick_run items 0 items.size
      rw [List.filterMap_map] at e2
      have e3 : ((fun x => items[x]?) ∘ fun x => 0 + x) = fun (k : Nat) => items[(((0 : Nat) : Int) + (k : Int) * 1).toNat]? := by
        funext k
        show items[0 + k]? = _
        congr 1; omega
      rw [e3] at e2
      rw [e2, List.drop_zero]
      exact List.take_of_length_le (by simp)
    refine wpAny_bind (m := Builtin.Tuple.tupleIsExact (.ref t)) ?_
    unfold Builtin.Tuple.tupleIsExact
    refine wpAny_bind (wpAny_typeOf ht.typeIs (wpAny_pure ?_))
    rw [if_pos (by decide)]
    exact wpAny_bind (wpAny_rule (wpAny_pure ⟨_, rfl, wpAny_pure (hq1 e)⟩))
  · rw [pick_cut]
    exact wpAny_bind (m := Builtin.Tuple.tupleExact _) (wpAny_newObj_type (wpAny_pure ⟨_, rfl, wpAny_pure hq2⟩) hdrop)
end
/-- a bound that is left out, or given -/
structure SndO (g : Gr) (sc : Scope) (r : Nat) (c : Bool) (e : Option Expr) (t : TE) : Prop where
  run : ∀ A env s ℓ σ Q E, Cx g sc r c A env s.heap σ ℓ → t ℓ σ Q E → wpAny (model g.prog g.w) A (evalPart e env) (PostE g s σ Q) (PostX g A s σ E) s
theorem sndO_none : SndO g sc r c none (tConst .none) := .mk fun A env s ℓ σ Q E X h => wpAny_pure (.here (VR_none.mpr rfl) X.rel h)
theorem sndO_some {e : Expr} {t : TE} (h1 : SndE g sc r c e t) : SndO g sc r c (some e) t := .mk h1.run
noncomputable def boundV : V → Option (Option Int)
  | .none => some none
  | .int i => some (some i)
  | _ => none
theorem isPart_of {g : Gr} {h : Heap} {x : V} {v : Value} {k : Option Int} (hv : VR g h x v) (e : boundV x = some k) : IsPart v k := by
  cases x with
  | none => rw [VR_none] at hv; subst hv; cases e; exact .none
  | int i => rw [VR_int] at hv; obtain ⟨t, rfl⟩ := hv; cases e; exact .int i t
  | _ => cases e
noncomputable def sliceV (o : V) (lo hi : V) (σ : AH) (Q : V → AH → Prop) : Prop := match boundV lo, boundV hi with
  | some l, some h => Nonneg l ∧ Nonneg h ∧ (match o with
    | .tup xs => Q (.tup (cutV l h xs)) σ
    | .frz xs => ∀ a, σ a = none → Q (.ref a) (σ.set a (.list (cutV l h xs)))
    | .ref a => (match σ a with
      | some (.list xs) => ∀ a, σ a = none → Q (.ref a) (σ.set a (.list (cutV l h xs)))
      | _ => False)
    | _ => False)
  | _, _ => False
noncomputable def tSlice (t t₁ t₂ : TE) : TE := fun ℓ σ Q E => t ℓ σ (fun o σ₁ => t₁ ℓ σ₁ (fun lo σ₂ => t₂ ℓ σ₂ (fun hi σ₃ => sliceV o lo hi σ₃ Q) E) E) E
theorem sndE_slice {e : Expr} {lo hi : Option Expr} {t t₁ t₂ : TE} {p pos : Pos} (h0 : SndE g sc r c e t) (h1 : SndO g sc r c lo t₁) (h2 : SndO g sc r c hi t₂) : SndE g sc r c (.Subscript e (.Slice lo hi none p) pos) (tSlice t t₁ t₂) := .mk fun A env s ℓ σ Q E X h => by
  refine Subscript_ (wpAny_mono (h0.run A env s ℓ σ _ E X h) (fun u s₁ q => ?_) fun _ _ q => q)
  obtain ⟨o, σ₁, hu, hR, hx, hs1, hq⟩ := q
  have X₁ := X.step hR hx
  refine wpAny_Slice (wpAny_mono (h1.run A env s₁ ℓ σ₁ _ E X₁ hq) (fun vl s₂ q => ?_) fun _ _ q => q.back hx hs1)
  obtain ⟨lo', σ₂, hl, hR2, hx2, hs2, hq2⟩ := q
  have X₂ := X₁.step hR2 hx2
  have hx02 := hx.trans hx2
  have hs02 := hs1.trans hs2
  refine wpAny_mono (h2.run A env s₂ ℓ σ₂ _ E X₂ hq2) (fun vu s₃ q => ?_) fun _ _ q => q.back hx02 hs02
  obtain ⟨hi', σ₃, hh, hR3, hx3, hs3, hq3⟩ := q
  have X₃ := X₂.step hR3 hx3
  have hx03 := hx02.trans hx3
  have hs03 := hs02.trans hs3
  rw [evalPart_none]
  refine wpAny_pure ?_
  have hu3 : VR g s₃.heap o u := hx3.vr hR2 noSeq_no (hx2.vr hR noSeq_no hu)
  have hl3 := hx3.vr hR2 noSeq_no hl
  unfold sliceV at hq3
  split at hq3
  · rename_i l hb e1 e2
    obtain ⟨n1, n2, hq3⟩ := hq3
    have p1 := isPart_of hl3 e1
    have p2 := isPart_of hh e2
    have hk := push_keeps s₃.heap { cls := .type "slice", data := .fields #[vl, vu, .none] }
    have sub : ∀ a b, subscripted (.Slice lo hi none p) false a b = operate [b, a] (getItem a b) := fun _ _ => rfl
    have hR4 := hR3.keeps hk
    have hx04 : Ext No s.heap σ (s₃.heap.push { cls := .type "slice", data := .fields #[vl, vu, .none] }) σ₃ := hx03.trans (.keeps hk)
    have hs04 : Same s { s₃ with heap := s₃.heap.push { cls := .type "slice", data := .fields #[vl, vu, .none] } } := hs03.trans ⟨rfl, rfl, rfl⟩
    have cutL : ∀ (a : Addr) (ob : Obj) (vs : Array Value) (n : Nat) (xs : List V), s₃.heap.get? a = some ob → ob.cls = .type "list" → ob.data = .seq vs n → Fits xs.length → VRs g s₃.heap xs vs.toList →
        (∀ a, σ₃ a = none → Q (.ref a) (σ₃.set a (.list (cutV l hb xs)))) →
        wpAny (model g.prog g.w) A (subscriptTail e (.Slice lo hi none p) (.ref a) (.ref s₃.heap.objs.size)) (PostE g s σ Q) (PostX g A s σ E) { s₃ with heap := s₃.heap.push { cls := .type "slice", data := .fields #[vl, vu, .none] } } := by
      intro a ob vs n xs hob hc hd hf hvs hQ
      have hlen := VRs_length hvs
      simp only [Array.length_toList] at hlen
      refine tail_any (typeIs_at (s := { s₃ with heap := s₃.heap.push { cls := .type "slice", data := .fields #[vl, vu, .none] } }) (hk _ _ hob) hc) slot_list_getitem.lookup ?_ (sub _ _)
      refine wpAny_getItem_list_slice (s := { s₃ with heap := s₃.heap.push { cls := .type "slice", data := .fields #[vl, vu, .none] } }) ⟨ob, hk _ _ hob, hc, n, hd⟩ (Heap.IsSliceOf.new ..) p1 p2 .none (by simp) ?_ (by rw [← hlen]; exact hf.line)
      refine post_newList (vs := (slicePick vs l hb none).toList) (n := 0) (s₁ := { s₃ with heap := s₃.heap.push { cls := .type "slice", data := .fields #[vl, vu, .none] } }) hx04 hs04 hR4 ?_ (hf.le (cutV_length ..)) hQ rfl
      rw [slicePick_cut vs n1 n2]
      exact VRs_cut _ _ (VRs.mono (fun a o _ _ _ e _ _ => .of (hk a o e)) hvs)
    split at hq3
    · rename_i xs
      rw [VR_tup] at hu3; obtain ⟨hf, a, ob, vs, n, rfl, nh, hob, hc, hd, hvs⟩ := hu3
      have hlen := VRs_length hvs
      simp only [Array.length_toList] at hlen
      have ht : IsTup (s₃.heap.push { cls := .type "slice", data := .fields #[vl, vu, .none] }) a vs := ⟨ob, hk _ _ hob, hc, n, hd⟩
      have hvs4 := VRs.mono (g := g) (h' := s₃.heap.push { cls := .type "slice", data := .fields #[vl, vu, .none] }) (fun a o _ _ _ e _ _ => .of (hk a o e)) hvs
      refine tail_any (typeIs_at (s := { s₃ with heap := s₃.heap.push { cls := .type "slice", data := .fields #[vl, vu, .none] } }) (hk _ _ hob) hc) slot_tuple_getitem.lookup ?_ (sub _ _)
      refine getItem_tuple_cut (s := { s₃ with heap := s₃.heap.push { cls := .type "slice", data := .fields #[vl, vu, .none] } }) ht (Heap.IsSliceOf.new ..) p1 p2 n1 n2 (fun ec => ?_) ?_ (by rw [← hlen]; exact hf.line)
      · have : cutV l hb xs = xs := by
          apply List.ext_getElem?
          have h1 := VRs_length (VRs_cut l hb hvs)
          rw [ec] at h1
          have h2 : (cutV l hb xs).length = xs.length := by rw [h1]; simp [hlen]
          intro i
          unfold cutV at h2 ⊢
          rw [List.length_drop] at h2
          have h4 : (takeV xs hb).length ≤ xs.length := by
            cases hb with
            | none => exact Nat.le_refl _
            | some b => simp only [takeV]; rw [List.length_take]; omega
          by_cases h5 : xs.length = 0
          · have : xs = [] := List.length_eq_zero_iff.mp h5
            subst this
            cases hb <;> simp [takeV]
          · have h6 : loN l = 0 := by omega
            rw [h6, List.drop_zero]
            cases hb with
            | none => rfl
            | some b =>
              simp only [takeV] at h2 h4 ⊢
              rw [h6, List.length_take] at h2
              rw [List.take_of_length_le (by omega)]
        rw [this] at hq3
        exact ⟨.tup xs, σ₃, VR_tup.mpr ⟨hf, a, ob, vs, n, rfl, nh, hk _ _ hob, hc, hd, hvs4⟩, hR4, hx04, hs04, hq3⟩
      · exact post_newTuple (s₁ := { s₃ with heap := s₃.heap.push { cls := .type "slice", data := .fields #[vl, vu, .none] } }) (n := 0) hx04 hs04 hR4 (VRs_cut l hb hvs4) (hf.le (cutV_length ..)) hq3 rfl
    · rename_i xs
      rw [VR_frz] at hu3; obtain ⟨hf, a, ob, vs, n, rfl, hob, hc, hd, hvs⟩ := hu3
      exact cutL a ob vs n xs (hR3.base _ _ hob) hc hd hf hvs hq3
    · rename_i a
      rw [VR_ref] at hu3; subst hu3
      split at hq3
      · rename_i xs ea
        obtain ⟨_, hf, vs, n, hob, hvs⟩ := hR3.own a _ ea
        exact cutL a _ vs n xs hob rfl rfl hf hvs hq3
      · exact hq3.elim
    · exact hq3.elim
  · exact hq3.elim
end
section
open PySem PyProof.Rows
variable {g : Gr} {sc : Scope} {r : Nat} {c : Bool}
theorem ofString_inj {a b : String} (h : Str.ofString a = Str.ofString b) : a = b := by
  rw [Str.ofString_eq_toList, Str.ofString_eq_toList] at h
  have h1 : (a.toList.map Char.toNat).toArray = (b.toList.map Char.toNat).toArray := Str.mk.inj h
  have h2 : a.toList.map Char.toNat = b.toList.map Char.toNat := by simpa using h1
  have h3 : a.toList = b.toList := by
    have inj : ∀ (x y : List Char), x.map Char.toNat = y.map Char.toNat → x = y := by
      intro x
      induction x with
      | nil => intro y e; cases y with | nil => rfl | cons _ _ => simp at e
      | cons c x ih =>
        intro y e
        cases y with
        | nil => simp at e
        | cons d y =>
          simp only [List.map_cons, List.cons.injEq] at e
          have : c = d := Char.toNat_inj.mp e.1
          rw [this, ih y e.2]
    exact inj _ _ h2
  exact String.toList_inj.mp h3
/-! ## statements -/
inductive Fl where
  | next
  | brk
  | cont
  | ret (v : V)
noncomputable def FRel (g : Gr) (h : Heap) : Fl → Flow → Prop
  | .next, f => f = .next
  | .brk, f => f = .brk
  | .cont, f => f = .cont
  | .ret v, f => ∃ u, f = .ret u ∧ VR g h v u
noncomputable abbrev TS := Loc → AH → (Fl → Loc → AH → Prop) → (Addr → Loc → AH → Prop) → Prop
/-- what a block may write: its own names -/
noncomputable def Own (env : Env) : Addr → Prop := fun a => a = env.locals ∨ ∃ x, env.cells.lookup x = some a
noncomputable def PostS (g : Gr) (env : Env) (s : Shared) (σ : AH) (Q : Fl → Loc → AH → Prop) (f : Flow) (s' : Shared) : Prop :=
  ∃ f' ℓ' σ', FRel g s'.heap f' f ∧ LR g s'.heap σ' env ℓ' ∧ Rel g s'.heap σ' ∧ Ext (Own env) s.heap σ s'.heap σ' ∧ Same s s' ∧ Q f' ℓ' σ'
noncomputable def PostXS (g : Gr) (A : Around) (env : Env) (s : Shared) (σ : AH) (E : Addr → Loc → AH → Prop) (e : Value) (s' : Shared) : Prop :=
  ∃ C ℓ' σ', XAt g A s'.heap e C σ' ∧ LR g s'.heap σ' env ℓ' ∧ Rel g s'.heap σ' ∧ Ext (Own env) s.heap σ s'.heap σ' ∧ Same s s' ∧ E C ℓ' σ'
section
variable (g : Gr) (sc : Scope) (r : Nat) (c : Bool)
structure SndS (st : Stmt) (t : TS) : Prop where
  run : ∀ A env s ℓ σ Q E, Cx g sc r c A env s.heap σ ℓ → t ℓ σ Q E → wpAny (model g.prog g.w) A (exec st env) (PostS g env s σ Q) (PostXS g A env s σ E) s
structure SndSs (st : List Stmt) (t : TS) : Prop where
  run : ∀ A env s ℓ σ Q E, Cx g sc r c A env s.heap σ ℓ → t ℓ σ Q E → wpAny (model g.prog g.w) A (execs st env) (PostS g env s σ Q) (PostXS g A env s σ E) s
end
section
variable {A : Around} {env : Env} {s s₁ : Shared} {σ σ₁ : AH} {ℓ ℓ₁ : Loc}
theorem LR.noSeq {h : Heap} (L : LR g h σ env ℓ) : NoSeq (Own env) h := by
  rintro a o (rfl | ⟨x, e⟩) ho vs n hd
  · obtain ⟨m, ⟨o', es, ep, ho', hd', _⟩, _⟩ := L.ns
    rw [ho] at ho'; cases ho'; rw [hd] at hd'; cases hd'
  · obtain ⟨o', u, ho', hd'⟩ := L.cell x a e
    rw [ho] at ho'; cases ho'; rw [hd] at hd'; cases hd'
theorem LR.noFields {h : Heap} (L : LR g h σ env ℓ) {a : Addr} (w : Own env a) : ∃ o, h.get? a = some o ∧ ∀ vs, o.data ≠ .fields vs := by
  rcases w with rfl | ⟨x, e⟩
  · obtain ⟨m, ⟨o', es, ep, ho', hd', _⟩, _⟩ := L.ns
    exact ⟨o', ho', fun vs q => by rw [q] at hd'; cases hd'⟩
  · obtain ⟨o', u, ho', hd'⟩ := L.cell x a e
    exact ⟨o', ho', fun vs q => by rw [q] at hd'; cases hd'⟩
/-- the block goes on behind a statement -/
theorem Cx.stepS (X : Cx g sc r c A env s.heap σ ℓ) (L : LR g s₁.heap σ₁ env ℓ₁) (R : Rel g s₁.heap σ₁) (x : Ext (Own env) s.heap σ s₁.heap σ₁) : Cx g sc r c A env s₁.heap σ₁ ℓ₁ :=
  ⟨X.gok, X.ok, L, X.fr.step x (fun a o w _ _ => L.noFields w), X.room, R⟩
theorem PostS.back {Q : Fl → Loc → AH → Prop} (x : Ext (Own env) s.heap σ s₁.heap σ₁) (y : Same s s₁) {f : Flow} {s' : Shared} (p : PostS g env s₁ σ₁ Q f s') : PostS g env s σ Q f s' :=
  let ⟨a, b, d, h1, h2, h3, h4, h5, h6⟩ := p; ⟨a, b, d, h1, h2, h3, x.trans h4, y.trans h5, h6⟩
theorem PostXS.back {E : Addr → Loc → AH → Prop} (x : Ext (Own env) s.heap σ s₁.heap σ₁) (y : Same s s₁) {f : Value} {s' : Shared} (p : PostXS g A env s₁ σ₁ E f s') : PostXS g A env s σ E f s' :=
  let ⟨a, b, d, h1, h2, h3, h4, h5, h6⟩ := p; ⟨a, b, d, h1, h2, h3, x.trans h4, y.trans h5, h6⟩
theorem ws_back {M : Model} {t : Sem Flow} {Q : Fl → Loc → AH → Prop} {E : Addr → Loc → AH → Prop} (x : Ext (Own env) s.heap σ s₁.heap σ₁) (y : Same s s₁) (h : wpAny M A t (PostS g env s₁ σ₁ Q) (PostXS g A env s₁ σ₁ E) s₁) : wpAny M A t (PostS g env s σ Q) (PostXS g A env s σ E) s₁ :=
  wpAny_mono h (fun _ _ p => p.back x y) fun _ _ p => p.back x y
theorem Ext.own {h h' : Heap} (x : Ext No h σ h' σ₁) : Ext (Own env) h σ h' σ₁ := x.weaken fun _ n => n.elim
/-- an exception of an expression is one of the statement -/
theorem PostX.toS {E : Addr → Loc → AH → Prop} (X : Cx g sc r c A env s.heap σ ℓ) {e : Value} {s' : Shared} (p : PostX g A s σ (fun C σ' => E C ℓ σ') e s') : PostXS g A env s σ E e s' :=
  let ⟨C, σ', h1, h2, h3, h4, h5⟩ := p; ⟨C, ℓ, σ', h1, X.loc.step X.rel h3, h2, h3.own, h4, h5⟩
/-- a name is bound -/
theorem store_ok {n : String} {k : NameKind} {x : V} {u : Value} {P : Unit → Shared → Prop} {E : Value → Shared → Prop} (X : Cx g sc r c A env s.heap σ ℓ) (hm : (Str.ofString n, k) ∈ sc.names) (hk : (k == .local || k == .cell) = true) (hv : VR g s.heap x u)
    (h : ∀ s' a, (k = .local → a = env.locals) → (k = .cell → env.cells.lookup (Str.ofString n) = some a) → Own env a → LR g s'.heap σ env (ℓ.set n x) → Rel g s'.heap σ → Ext (· = a) s.heap σ s'.heap σ → Same s s' → P () s') : wpAny (model g.prog g.w) A (storeName env (Str.ofString n) u) P E s := by
  have hcls : (env.scope.kind == .class || (env.scope.kind == .module && env.locals != env.globals)) = false := by rw [X.ok.kind]; rfl
  have kd : env.kindOf (Str.ofString n) = some k := by
    rcases X.ok.kinds _ _ hm with q | ⟨q, _⟩
    · exact q
    · subst q; cases hk
  have relOf : ∀ (a : Addr) (h' : Heap), Own env a → Heap.SameBut a s.heap h' → (∃ o, h'.get? a = some o) → Rel g h' σ := fun a h' w hs hp => by
    have hoff : σ a = none ∧ g.b0.get? a = none := by
      rcases w with rfl | ⟨y, e⟩
      · exact X.loc.off
      · exact ⟨(X.loc.offc y a e).1, (X.loc.offc y a e).2.2⟩
    have hne : ∀ b, b = a → σ b = none := fun b q => by rw [q]; exact hoff.1
    refine ⟨fun b hb => ?_, fun b o q => (hs.2 b fun z => ?_).trans (X.rel.base b o q), fun b bo q => ⟨(X.rel.own b bo q).1, OR_mono (fun d o vs m _ y t dd => .of ((hs.2 d fun z => ?_).trans y)) (fun o y => (hs.2 b fun z => ?_).trans y) (X.rel.own b bo q).2⟩⟩
    · by_cases z : b = a
      · rw [z]; exact hp
      · obtain ⟨o, q⟩ := X.rel.hid b hb; exact ⟨o, (hs.2 b z).trans q⟩
    · rw [z, hoff.2] at q; cases q
    · exact X.loc.noSeq d o (by rw [z]; exact w) y vs m dd
    · rw [z, hoff.1] at q; cases q
  have extOf : ∀ (a : Addr) (h' : Heap), Own env a → Heap.SameBut a s.heap h' → (∃ o, h'.get? a = some o) → Ext (· = a) s.heap σ h' σ := fun a h' w hs hp =>
    ⟨fun b o q _ nw => .of ((hs.2 b fun z => nw z).trans q), fun b o q => by
      by_cases z : b = a
      · rw [z]; exact hp
      · exact ⟨o, (hs.2 b z).trans q⟩, fun b q => .inl q⟩
  cases k with
  | «local» =>
    obtain ⟨m, hn, hmm⟩ := X.loc.ns
    refine wpAny_storeName_local kd hn (fun h' hn' hs' => ?_) hcls
    have w : Own env env.locals := .inl rfl
    have pr : ∃ o, h'.get? env.locals = some o := let ⟨o, _, _, e, _⟩ := hn'; ⟨o, e⟩
    have R' := relOf _ h' w hs' pr
    have x' := extOf _ h' w hs' pr
    have kv : ∀ {v : V} {u : Value}, VR g s.heap v u → VR g h' v u := x'.vr X.rel fun b o z => X.loc.noSeq b o (z ▸ w)
    refine h { s with heap := h', toks := s.toks + 1 } env.locals (fun _ => rfl) (fun z => nomatch z) w ⟨⟨_, hn', fun y v e kk => ?_⟩, fun y cc e => ?_, fun y v e kk => ?_, X.loc.off, X.loc.offc, X.loc.apart, X.loc.has⟩ R' x' ⟨rfl, rfl, rfl⟩
    · unfold Loc.set at e
      split at e
      · rename_i z; subst z; cases e; exact ⟨u, by simp, kv hv⟩
      · rename_i z
        obtain ⟨u', e1, e2⟩ := hmm y v e kk
        exact ⟨u', by rw [if_neg fun q => z (ofString_inj q)]; exact e1, kv e2⟩
    · obtain ⟨o, u', ho, hd⟩ := X.loc.cell y cc e
      exact ⟨o, u', (hs'.2 cc (X.loc.offc y cc e).2.1).trans ho, hd⟩
    · unfold Loc.set at e
      split at e
      · rename_i z; subst z; rw [kd] at kk; rcases kk with kk | kk <;> cases kk
      · obtain ⟨cc, u', e1, ho, hu⟩ := X.loc.cells y v e kk
        obtain ⟨o, e2, e3⟩ := ho
        exact ⟨cc, u', e1, ⟨o, (hs'.2 cc (X.loc.offc _ cc e1).2.1).trans e2, e3⟩, kv hu⟩
  | cell =>
    have : ∃ cc, env.cells.lookup (Str.ofString n) = some cc := X.loc.has _ (.inl kd)
    obtain ⟨cc, ec⟩ := this
    obtain ⟨o, v0, ho, hd⟩ := X.loc.cell _ cc ec
    refine wpAny_storeName_cell X.ok.kind kd ec ⟨o, ho, hd⟩ fun h' hc' hs' => ?_
    have w : Own env cc := .inr ⟨_, ec⟩
    have pr : ∃ o, h'.get? cc = some o := let ⟨o, e, _⟩ := hc'; ⟨o, e⟩
    have R' := relOf _ h' w hs' pr
    have x' := extOf _ h' w hs' pr
    have kv : ∀ {v : V} {u : Value}, VR g s.heap v u → VR g h' v u := x'.vr X.rel fun b o z => X.loc.noSeq b o (z ▸ w)
    have hnl : env.locals ≠ cc := fun q => (X.loc.offc _ cc ec).2.1 q.symm
    obtain ⟨m, hn, hmm⟩ := X.loc.ns
    refine h { s with heap := h' } cc (fun z => nomatch z) (fun _ => ec) w ⟨⟨m, hn.sameBut hs' hnl, fun y v e kk => ?_⟩, fun y cc' e => ?_, fun y v e kk => ?_, X.loc.off, X.loc.offc, X.loc.apart, X.loc.has⟩ R' x' ⟨rfl, rfl, rfl⟩
    · unfold Loc.set at e
      split at e
      · rename_i z; subst z; rw [kd] at kk; cases kk
      · obtain ⟨u', e1, e2⟩ := hmm y v e kk
        exact ⟨u', e1, kv e2⟩
    · by_cases z : cc' = cc
      · obtain ⟨o', e1, e2⟩ := hc'; exact ⟨o', _, by rw [z]; exact e1, e2⟩
      · obtain ⟨o', u', ho', hd'⟩ := X.loc.cell y cc' e
        exact ⟨o', u', (hs'.2 cc' z).trans ho', hd'⟩
    · unfold Loc.set at e
      split at e
      · rename_i z; subst z; cases e; exact ⟨cc, u, ec, hc', kv hv⟩
      · rename_i z
        obtain ⟨c2, u', e1, ho', hu⟩ := X.loc.cells y v e kk
        obtain ⟨o2, e2, e3⟩ := ho'
        have ne : c2 ≠ cc := fun q => z (ofString_inj (X.loc.apart _ _ cc (q ▸ e1) ec))
        exact ⟨c2, u', e1, ⟨o2, (hs'.2 c2 ne).trans e2, e3⟩, kv hu⟩
  | _ => cases hk
end
end
section
open PySem PyProof.Rows
variable {g : Gr} {sc : Scope} {r : Nat} {c : Bool}
section
variable {A : Around} {env : Env} {s s₁ : Shared} {σ σ₁ : AH} {ℓ ℓ₁ : Loc} {Q : Fl → Loc → AH → Prop} {E : Addr → Loc → AH → Prop}
/-- an exception goes on: it is noted at the frame -/
theorem PostXS.noted {e : Value} {s' : Shared} (p : PostXS g A env s σ E e s') {P : Value → Shared → Prop} (k : ∀ e s', PostXS g A env s σ E e s' → P e s') : notedBy (model g.prog g.w) A env P e s' :=
  let ⟨_, _, _, h1, _⟩ := p; h1.elim
theorem PostXS.came {e : Value} {s' : Shared} (p : PostXS g A env s σ E e s') {P : Value → Shared → Prop} (k : ∀ e s', PostXS g A env s σ E e s' → P e s') : cameBackBy (model g.prog g.w) A env P e s' :=
  let ⟨_, _, _, h1, _⟩ := p; h1.elim
/-- nothing is done -/
theorem PostS.here {f : Fl} {u : Flow} (X : Cx g sc r c A env s.heap σ ℓ) (hf : FRel g s.heap f u) (h : Q f ℓ σ) : PostS g env s σ Q u s := ⟨f, ℓ, σ, hf, X.loc, X.rel, .refl, .refl, h⟩
end
/-! ## blocks -/
noncomputable def tNop : TS := fun ℓ σ Q _ => Q .next ℓ σ
noncomputable def tSeq (t ts : TS) : TS := fun ℓ σ Q E => t ℓ σ (fun f ℓ' σ' => match f with | .next => ts ℓ' σ' Q E | f => Q f ℓ' σ') E
theorem sndSs_nil : SndSs g sc r c [] tNop := .mk fun A env s ℓ σ Q E X h => wpAny_execs_nil (.here (f := .next) X rfl h)
theorem sndSs_cons {st : Stmt} {rest : List Stmt} {t ts : TS} (h1 : SndS g sc r c st t) (h2 : SndSs g sc r c rest ts) : SndSs g sc r c (st :: rest) (tSeq t ts) := .mk fun A env s ℓ σ Q E X h => by
  refine wpAny_execs_cons (wpAny_mono (h1.run A env s ℓ σ _ E X h) (fun f s₁ p => ?_) fun _ _ p => p)
  obtain ⟨f', ℓ', σ', hf, hL, hR, hx, hs, hq⟩ := p
  cases f' with
  | next => cases hf; exact ws_back hx hs (h2.run A env s₁ ℓ' σ' Q E (X.stepS hL hR hx) hq)
  | brk => cases hf; exact ⟨.brk, ℓ', σ', rfl, hL, hR, hx, hs, hq⟩
  | cont => cases hf; exact ⟨.cont, ℓ', σ', rfl, hL, hR, hx, hs, hq⟩
  | ret v => obtain ⟨u, rfl, hv⟩ := hf; exact ⟨.ret v, ℓ', σ', ⟨u, rfl, hv⟩, hL, hR, hx, hs, hq⟩
noncomputable def tFlow (f : Fl) : TS := fun ℓ σ Q _ => Q f ℓ σ
noncomputable def tRet (t : TE) : TS := fun ℓ σ Q E => t ℓ σ (fun v σ' => Q (.ret v) ℓ σ') fun C σ' => E C ℓ σ'
theorem sndS_return {e : Expr} {t : TE} {pos : Pos} (h1 : SndE g sc r c e t) : SndS g sc r c (.Return (some e) pos) (tRet t) := .mk fun A env s ℓ σ Q E X h => by
  refine wpAny_Return_some (wpAny_mono (h1.run A env s ℓ σ _ _ X h) (fun v s₁ p => ?_) fun _ _ p => p.toS X)
  obtain ⟨x, σ₁, hv, hR, hx, hs, hq⟩ := p
  exact ⟨.ret x, ℓ, σ₁, ⟨v, rfl, hv⟩, X.loc.step X.rel hx, hR, hx.own, hs, hq⟩
noncomputable def tDo (t : TE) : TS := fun ℓ σ Q E => t ℓ σ (fun _ σ' => Q .next ℓ σ') fun C σ' => E C ℓ σ'
theorem EnvOk.notInteractive {env : Env} (k : EnvOk sc env) : interactive env = false := by
  unfold interactive; simp [k.kind]
theorem sndS_expr {e : Expr} {t : TE} {pos : Pos} (h1 : SndE g sc r c e t) (hs : ∀ env, swapsWith e none pos.line env = pure false) : SndS g sc r c (.Expr e pos) (tDo t) := .mk fun A env s ℓ σ Q E X h => by
  refine wpAny_Expr_any (wpAny_mono (h1.run A env s ℓ σ _ _ X h) (fun v s₁ p => ?_) fun _ _ p => p.toS X) X.ok.notInteractive (hs env)
  obtain ⟨x, σ₁, hv, hR, hx, hs, hq⟩ := p
  exact ⟨.next, ℓ, σ₁, rfl, X.loc.step X.rel hx, hR, hx.own, hs, hq⟩
noncomputable def tIfS (t : TB) (a b : TS) : TS := fun ℓ σ Q E => t ℓ σ (fun x σ' => match x with | true => a ℓ σ' Q E | false => b ℓ σ' Q E) fun C σ' => E C ℓ σ'
theorem sndS_if {e : Expr} {t : TB} {body orelse : List Stmt} {a b : TS} {pos : Pos} (h1 : SndB g sc r c e t) (h2 : SndSs g sc r c body a) (h3 : SndSs g sc r c orelse b) : SndS g sc r c (.If e body orelse pos) (tIfS t a b) := .mk fun A env s ℓ σ Q E X h => by
  refine wpAny_If (wpAny_mono (h1.run A env s ℓ σ _ _ X h) (fun v s₁ p => ?_) fun _ _ p => p.toS X)
  obtain ⟨x, σ₁, rfl, hR, hx, hs, hq⟩ := p
  cases x with
  | true => exact ws_back hx.own hs (h2.run A env s₁ ℓ σ₁ Q E (X.step hR hx) hq)
  | false => exact ws_back hx.own hs (h3.run A env s₁ ℓ σ₁ Q E (X.step hR hx) hq)
/-! ## binding -/
noncomputable def tAssign (n : String) (t : TE) : TS := fun ℓ σ Q E => t ℓ σ (fun v σ' => Q .next (ℓ.set n v) σ') fun C σ' => E C ℓ σ'
theorem sndS_assign {n : String} {k : NameKind} {p' pos : Pos} {e : Expr} {t : TE} (hm : (Str.ofString n, k) ∈ sc.names) (hk : (k == .local || k == .cell) = true) (h1 : SndE g sc r c e t)
    (hs : ∀ env, swapsWith e (some (.Name (Str.ofString n) p')) pos.line env = pure false) : SndS g sc r c (.Assign [.Name (Str.ofString n) p'] e pos) (tAssign n t) := .mk fun A env s ℓ σ Q E X h => by
  refine wpAny_Assign_Name (wpAny_mono (h1.run A env s ℓ σ _ _ X h) (fun v s₁ p => ?_) fun _ _ p => p.toS X) (hs env)
  obtain ⟨x, σ₁, hv, hR, hx, hs, hq⟩ := p
  exact store_ok (X.step hR hx) hm hk hv fun s' a _ _ w hL hR' hx' hs' => ⟨.next, _, σ₁, rfl, hL, hR', hx.own.trans (hx'.weaken fun b z => z ▸ w), hs.trans hs', hq⟩
/-! ## targets -/
inductive Tgt where
  | name (n : String)
  | tup (ns : List String)
noncomputable def Loc.setAll (ℓ : Loc) : List String → List V → Loc
  | n :: ns, v :: vs => (ℓ.set n v).setAll ns vs
  | _, _ => ℓ
/-- what a target takes apart -/
noncomputable def partsV (v : V) (σ : AH) : Option (List V) := match v with
  | .tup vs => some vs
  | .frz vs => some vs
  | .ref a => match σ a with | some (.list vs) => some vs | _ => none
  | _ => none
noncomputable def bindV (t : Tgt) (v : V) (ℓ : Loc) (σ : AH) (P : Loc → Prop) : Prop := match t with
  | .name n => P (ℓ.set n v)
  | .tup ns => match partsV v σ with | some vs => vs.length = ns.length ∧ P (ℓ.setAll ns vs) | none => False
/-- the names of a tuple target -/
inductive NamesAre (sc : Scope) : List Expr → List String → Prop
  | nil : NamesAre sc [] []
  | cons {n : String} {k : NameKind} {pos : Pos} {es : List Expr} {ns : List String} (hm : (Str.ofString n, k) ∈ sc.names) (hk : (k == .local || k == .cell) = true) (h : NamesAre sc es ns) : NamesAre sc (.Name (Str.ofString n) pos :: es) (n :: ns)
/-- the target's form in the program -/
inductive TgtIs (sc : Scope) : Expr → Tgt → Prop
  | name {n : String} {k : NameKind} {pos : Pos} (hm : (Str.ofString n, k) ∈ sc.names) (hk : (k == .local || k == .cell) = true) : TgtIs sc (.Name (Str.ofString n) pos) (.name n)
  | tup {es : List Expr} {ns : List String} {k : Nat} {pos : Pos} (h : NamesAre sc es ns) : TgtIs sc (.Tuple es k pos) (.tup ns)
section
variable {A : Around} {env : Env} {s : Shared} {σ : AH} {ℓ : Loc} {E : Value → Shared → Prop}
/-- names were bound -/
noncomputable def Bound (g : Gr) (W : Addr → Prop) (env : Env) (s : Shared) (σ : AH) (P : Loc → Prop) (s' : Shared) : Prop := ∃ ℓ', LR g s'.heap σ env ℓ' ∧ Rel g s'.heap σ ∧ Ext W s.heap σ s'.heap σ ∧ Same s s' ∧ P ℓ'
/-- where the names of a scope are kept -/
noncomputable def Writes (W : Addr → Prop) (sc : Scope) (env : Env) : Prop := (∀ a, W a → Own env a) ∧ ∀ n k a, (Str.ofString n, k) ∈ sc.names → (k = .local → a = env.locals) → (k = .cell → env.cells.lookup (Str.ofString n) = some a) → (k == .local || k == .cell) = true → W a
theorem writes_own {env : Env} : Writes (Own env) sc env := ⟨fun _ w => w, fun n k a hm h1 h2 hk => by
  cases k <;> first | exact .inl (h1 rfl) | exact .inr ⟨_, h2 rfl⟩ | cases hk⟩
theorem NamesAre.length {es : List Expr} {ns : List String} (h : NamesAre sc es ns) (env : Env) : (assignEach es env).length = ns.length := by
  induction h with
  | nil => rfl
  | cons hm hk h ih => show (_ :: assignEach _ env).length = _; simp [ih]
theorem NamesAre.noStar {es : List Expr} {ns : List String} (h : NamesAre sc es ns) (env : Env) : (assignEach es env).findIdx? (·.1) = none := by
  induction h with
  | nil => rfl
  | @cons n k pos es ns hm hk h ih => show ((false, assign (.Name (Str.ofString n) pos) env) :: assignEach es env).findIdx? (·.1) = none; simp [List.findIdx?_cons, ih]
theorem inOrder_ok {W : Addr → Prop} (hW : Writes W sc env) {P : Loc → Prop} {es : List Expr} {ns : List String} (hn : NamesAre sc es ns) : ∀ {s : Shared} {ℓ : Loc} {xs : List V} {us : List Value}, Cx g sc r c A env s.heap σ ℓ → VRs g s.heap xs us → xs.length = ns.length → P (ℓ.setAll ns xs) →
    wpAny (model g.prog g.w) A (assignInOrder ((assignEach es env).map (·.2)) us) (fun _ s' => Bound g W env s σ P s') E s := by
  induction hn with
  | nil =>
    intro s ℓ xs us X hv hl h
    have : xs = [] := List.length_eq_zero_iff.mp hl
    subst this
    rw [VRs_nil_inv hv]
    exact wpAny_pure ⟨ℓ, X.loc, X.rel, .refl, .refl, h⟩
  | @cons n k pos es ns hm hk hn ih =>
    intro s ℓ xs us X hv hl h
    cases xs with
    | nil => simp at hl
    | cons x xs =>
      obtain ⟨u, us, rfl, hx, hxs⟩ := VRs_cons_inv hv
      show wpAny _ A (do holding us (assign (.Name (Str.ofString n) pos) env u); assignInOrder ((assignEach es env).map (·.2)) us) _ E s
      refine wpAny_bind (wpAny_holding (wpAny_assign_Name (store_ok X hm hk hx fun s' a q1 q2 w hL hR hx' hs' => ?_)))
      replace hx' := hx'.weaken (W' := W) fun b z => z ▸ hW.2 n k a hm q1 q2 hk
      have hx'' := hx'.weaken (W' := Own env) hW.1
      refine wpAny_mono (ih (X.stepS hL hR hx'') (hx''.vrs X.rel X.loc.noSeq hxs) (by simpa using hl) h) (fun _ s'' p => ?_) fun _ _ p => p
      obtain ⟨ℓ', h1, h2, h3, h4, h5⟩ := p
      exact ⟨ℓ', h1, h2, hx'.trans h3, hs'.trans h4, h5⟩
theorem draw_list {it l : Addr} {items : Array Value} (hne : l ≠ it) : ∀ (n i : Nat) (s : Shared) (Q : List Value → Shared → Prop), s.heap.IsListIter it l i → s.heap.IsList l items → i + n ≤ items.size →
    (∀ h', h'.IsListIter it l (i + n) → Heap.SameBut it s.heap h' → Q ((items.toList.drop i).take n) { s with heap := h' }) → wpAny (model g.prog g.w) A (draw (.ref it) n) Q E s
  | 0, i, s, Q, hit, _, _, hQ => by
    show wpAny _ _ (pure []) Q E s
    exact wpAny_pure (by simpa using hQ s.heap hit (Heap.SameBut.refl ..))
  | n + 1, i, s, Q, hit, ht, hle, hQ => by
    have hlt : i < items.size := by omega
    show wpAny _ _ (pyNext (.ref it) >>= _) Q E s
    refine wpAny_bind (wpAny_pyNext_list_item hit ht (x := items[i]) (by simp [hlt]) fun h₁ hit₁ hs₁ => ?_)
    refine wpAny_bind (wpAny_holding (draw_list hne n (i + 1) _ _ hit₁ (ht.extBut hs₁.extBut hne) (by omega) fun h₂ hit₂ hs₂ => wpAny_pure ?_))
    have hd : items.toList.drop i = items[i] :: items.toList.drop (i + 1) := by simp [List.drop_eq_getElem_cons, hlt]
    have := hQ h₂ (by rw [show i + (n + 1) = i + 1 + n by omega]; exact hit₂) (hs₁.trans hs₂)
    rw [hd, List.take_succ_cons] at this
    exact this
theorem unpackItems_list {t : Addr} {items : Array Value} {Q : List Value → Shared → Prop} (hh : A.handled = none) (ht : s.heap.IsList t items)
    (hQ : ∀ h', Heap.ExtBut s.heap.objs.size s.heap h' → Q items.toList { s with heap := h' }) : wpAny (model g.prog g.w) A (unpackItems (.ref t) items.size none) Q E s := by
  have hlt : t ≠ s.heap.objs.size := by obtain ⟨o, ho, _⟩ := ht; exact Nat.ne_of_lt (Heap.lt_size ho)
  unfold unpackItems
  refine wpAny_bind ?_
  · unfold notIterableAtAll
    refine wpAny_bind (wpAny_specialOf ht.typeIs slot_list_iter.lookup ?_)
    refine wpAny_pure ?_
    simp only [Bool.false_eq_true, if_false]
    refine wpAny_bind (wpAny_holding (wpAny_pyIter_list ht ?_))
    refine wpAny_bind (wpAny_holding (draw_list hlt items.size 0 _ _ ⟨_, Heap.get?_push_size _ rfl, rfl, rfl⟩ (ht.push _) (by omega) fun h₁ hit₁ hs₁ => ?_))
    have hall : List.take items.size (List.drop 0 items.toList) = items.toList := by
      rw [List.drop_zero]; exact List.take_of_length_le (by simp)
    rw [hall]
    rw [if_neg (by simp)]
    have ht₁ : h₁.IsList t items := (ht.push _).extBut hs₁.extBut hlt
    refine wpAny_bind (wpAny_holding (wpAny_pyNext_list_end hh hit₁ ht₁ (by simp) fun h₂ he₂ => ?_))
    simp only [Option.isSome_none, Bool.false_eq_true, if_false]
    refine wpAny_pure (hQ h₂ fun b o hb e => he₂ b o hb (hs₁.extBut b o hb (Heap.get?_push_of_some _ e)))
theorem extBut_keeps {h h' : Heap} (k : Heap.ExtBut h.objs.size h h') : ∀ a o, h.get? a = some o → h'.get? a = some o := fun a o e => k a o (Nat.ne_of_lt (Heap.lt_size e)) e
/-- the parts of a value -/
theorem parts_ok {v : V} {u : Value} {xs : List V} {n : Nat} {Q : List Value → Shared → Prop} (X : Cx g sc r c A env s.heap σ ℓ) (hh : A.handled = none) (hv : VR g s.heap v u) (hp : partsV v σ = some xs) (hn : xs.length = n)
    (h : ∀ us h', (∀ a o, s.heap.get? a = some o → h'.get? a = some o) → VRs g h' xs us → Q us { s with heap := h' }) : wpAny (model g.prog g.w) A (unpackItems u n none) Q E s := by
  have key : ∀ (a : Addr) (o : Obj) (vs : Array Value) (m : Nat), s.heap.get? a = some o → (o.cls = .type "tuple" ∨ o.cls = .type "list") → o.data = .seq vs m → VRs g s.heap xs vs.toList → wpAny (model g.prog g.w) A (unpackItems (.ref a) n none) Q E s := fun a o vs m ho hc hd hvs => by
    have hz : n = vs.size := by rw [← hn, VRs_length hvs]; simp
    subst hz
    have fin : ∀ h', Heap.ExtBut s.heap.objs.size s.heap h' → Q vs.toList { s with heap := h' } := fun h' k => h _ h' (extBut_keeps k) (VRs.mono (fun b o _ _ _ e _ _ => .of (extBut_keeps k b o e)) hvs)
    rcases hc with hc | hc
    · exact wpAny_unpackItems_tuple hh ⟨o, ho, hc, m, hd⟩ fin
    · exact unpackItems_list hh ⟨o, ho, hc, m, hd⟩ fin
  cases v with
  | tup vs =>
    obtain ⟨_, a, o, us, m, rfl, _, ho, hc, hd, hvs⟩ := VR_tup.mp hv
    cases hp; exact key a o us m ho (.inl hc) hd hvs
  | frz vs =>
    obtain ⟨_, a, o, us, m, rfl, ho, hc, hd, hvs⟩ := VR_frz.mp hv
    cases hp; exact key a o us m (X.rel.base a o ho) (.inr hc) hd hvs
  | ref a =>
    rw [VR_ref.mp hv]
    simp only [partsV] at hp
    split at hp
    · rename_i vs e
      cases hp
      obtain ⟨_, us, m, ho, hvs⟩ := (X.rel.own a _ e).2
      exact key a _ us m ho (.inr rfl) rfl hvs
    · cases hp
  | _ => cases hp
theorem assign_ok {W : Addr → Prop} (hW : Writes W sc env) {e : Expr} {t : Tgt} {x : V} {u : Value} {P : Loc → Prop} (X : Cx g sc r true A env s.heap σ ℓ) (ht : TgtIs sc e t) (hv : VR g s.heap x u) (hb : bindV t x ℓ σ P) :
    wpAny (model g.prog g.w) A (assign e env u) (fun _ s' => Bound g W env s σ P s') E s := by
  cases ht with
  | name hm hk => exact wpAny_assign_Name (store_ok X hm hk hv fun s' a q1 q2 _ h1 h2 h3 h4 => ⟨_, h1, h2, h3.weaken fun b z => z ▸ hW.2 _ _ a hm q1 q2 hk, h4, hb⟩)
  | @tup es ns k pos hn =>
    simp only [bindV] at hb
    split at hb
    · rename_i xs hp
      rw [arm_assign_Tuple]
      refine wpAny_bind (wpAny_standAt ?_)
      unfold unpack
      rw [hn.length env, hn.noStar env]
      refine wpAny_bind (wpAny_holding (parts_ok X (X.room.calm rfl) hv hp hb.1 fun us h' hk hvs => ?_))
      have X' : Cx g sc r true A env h' σ ℓ := X.step (X.rel.keeps hk) (.keeps hk)
      refine wpAny_mono (inOrder_ok hW (s := { s with heap := h' }) hn X' hvs hb.1 hb.2) (fun _ s' p => ?_) fun _ _ p => p
      obtain ⟨ℓ', h1, h2, h3, h4, h5⟩ := p
      exact ⟨ℓ', h1, h2, Ext.trans (.keeps hk) h3, Same.trans ⟨rfl, rfl, rfl⟩ h4, h5⟩
    · exact hb.elim
end
noncomputable def tAssignT (t : Tgt) (te : TE) : TS := fun ℓ σ Q E => te ℓ σ (fun v σ' => bindV t v ℓ σ' fun ℓ' => Q .next ℓ' σ') fun C σ' => E C ℓ σ'
theorem sndS_assignT {es : List Expr} {k : Nat} {ns : List String} {p' pos : Pos} {e : Expr} {t : TE} (ht : NamesAre sc es ns) (h1 : SndE g sc r true e t)
    (hs : ∀ env, swapsWithSole [.Tuple es k p'] e pos.line env = pure false) (hw : ∀ env, swappedStores [.Tuple es k p'] e env = pure none) : SndS g sc r true (.Assign [.Tuple es k p'] e pos) (tAssignT (.tup ns) t) := .mk fun A env s ℓ σ Q E X h => by
  refine Assign_Tuple (wpAny_mono (h1.run A env s ℓ σ _ _ X h) (fun v s₁ p => ?_) fun _ _ p => p.toS X) (hs env) (hw env)
  obtain ⟨x, σ₁, hv, hR, hx, hs, hq⟩ := p
  refine wpAny_mono (assign_ok writes_own (X.step hR hx) (.tup ht) hv hq) (fun _ s' p => ?_) fun _ _ p => p
  obtain ⟨ℓ', h1, h2, h3, h4, h5⟩ := p
  exact ⟨.next, ℓ', σ₁, rfl, h1, h2, hx.own.trans h3, hs.trans h4, h5⟩
end
section
open PySem PyProof.Rows
variable {g : Gr} {sc : Scope} {r : Nat} {c : Bool}
/-- what a step of an iterator keeps: all but its own objects -/
noncomputable def KeptBut (fp : Addr → Prop) (h h' : Heap) : Prop := ∀ b o, ¬ fp b → h.get? b = some o → h'.get? b = some o
/-- the iterator I, made of the objects fp, walks through items while inv holds -/
structure Iters (g : Gr) (items : List V) (inv : AH → Prop) (I : Addr) (fp : Addr → Prop) (St : Nat → Heap → Prop) (tup : Bool) : Prop where
  stab : ∀ k h h', St k h → TupsKept g h h' → (∀ a o, fp a → h.get? a = some o → h'.get? a = some o) → St k h'
  flds : ∀ k h a, St k h → fp a → ∃ o, h.get? a = some o ∧ (g.hid a ∨ ∃ vs, o.data = .fields vs)
  self : ∀ k A E s (Q : Value → Shared → Prop), St k s.heap → Q (.ref I) s → wpAny (model g.prog g.w) A (pyIter (.ref I)) Q E s
  item : ∀ k x A E s σ target (Q : Value → Shared → Prop), items[k]? = some x → St k s.heap → Rel g s.heap σ → inv σ → (∀ a, fp a → σ a = none) → (tup = true → ∃ es m p, target = .Tuple es m p) →
    (∀ v s', KeptBut fp s.heap s'.heap → Same s s' → St (k + 1) s'.heap → VR g s'.heap x v → Q v s') →
    wpAny (model g.prog g.w) A (pyNext (.ref I)) (fun r s₁ => match r with | none => False | some v => wpAny (model g.prog g.w) A (letOwnedTupleGo target (.ref I) v) (fun _ => Q v) E s₁) E s
  last : ∀ k A E s σ (Q : Option Value → Shared → Prop), items.length ≤ k → A.handled = none → St k s.heap → Rel g s.heap σ → inv σ → (∀ a, fp a → σ a = none) →
    (∀ s', KeptBut fp s.heap s'.heap → Same s s' → Q none s') → wpAny (model g.prog g.w) A (pyNext (.ref I)) Q E s
/-- an iterator has been made -/
noncomputable def PostI (g : Gr) (s : Shared) (σ : AH) (Q : List V → (AH → Prop) → Bool → AH → Prop) (it : Value) (s' : Shared) : Prop :=
  ∃ items inv I fp St tup σ', it = .ref I ∧ Iters g items inv I fp St tup ∧ St 0 s'.heap ∧ Rel g s'.heap σ' ∧ Ext No s.heap σ s'.heap σ' ∧ Same s s' ∧ (∀ a, fp a → s.heap.get? a = none ∧ σ' a = none) ∧ Fits items.length ∧ Q items inv tup σ'
noncomputable abbrev TI := Loc → AH → (List V → (AH → Prop) → Bool → AH → Prop) → (Addr → AH → Prop) → Prop
structure SndI (g : Gr) (sc : Scope) (r : Nat) (c : Bool) (e : Expr) (t : TI) : Prop where
  run : ∀ A env s ℓ σ Q E, Cx g sc r c A env s.heap σ ℓ → t ℓ σ Q E →
  wpAny (model g.prog g.w) A (eval e env) (fun x s₁ => wpAny (model g.prog g.w) A (pyIter x) (PostI g s σ Q) (PostX g A s σ E) s₁) (PostX g A s σ E) s
theorem letGo_plain {A : Around} {E : Value → Shared → Prop} {s : Shared} {target : Expr} {I : Addr} {o : Obj} {T : String} {vs : Array Value} {v : Value} {Q : Unit → Shared → Prop} (ho : s.heap.get? I = some o) (hc : o.cls = .type T) (hd : o.data = .fields vs)
    (hT : (["enumerate", "zip", "dict_itemiterator", "dict_reverseitemiterator", "odict_iterator", "itertools.zip_longest", "itertools.pairwise"].contains T) = false) (h : Q () s) :
    wpAny (model g.prog g.w) A (letOwnedTupleGo target (.ref I) v) Q E s := by
  have key : ∀ (a : Addr), wpAny (model g.prog g.w) A (load I >>= fun o => (match o.cls, o.data with
      | .type n, .fields vs =>
        if ["enumerate", "zip", "dict_itemiterator", "dict_reverseitemiterator", "odict_iterator", "itertools.zip_longest", "itertools.pairwise"].contains n && vs[0]? == some (rawInt a) then (do
          rule "for.unpacks-the-owned-tuple"
          updateField I 0 .none) else pure ()
      | _, _ => pure ())) Q E s := fun a => by
    refine wpAny_bind (wpAny_load ho ?_)
    rw [hc, hd]
    show wpAny _ A (if (_ && _) = true then _ else _) Q E s
    rw [if_neg (by rw [hT, Bool.false_and]; exact Bool.false_ne_true)]
    exact wpAny_pure h
  unfold letOwnedTupleGo
  split
  · cases v <;> first | exact key _ | exact wpAny_pure h
  · cases v <;> first | exact key _ | exact wpAny_pure h
  · exact wpAny_pure h
theorem VRs_getA {g : Gr} {h : Heap} {xs : List V} {vs : Array Value} (a : VRs g h xs vs.toList) {i : Nat} {x : V} (e : xs[i]? = some x) : ∃ v, vs[i]? = some v ∧ VR g h x v := by
  obtain ⟨v, h1, h2⟩ := VRs_get a e; exact ⟨v, by simpa using h1, h2⟩
theorem VRs_noneA {g : Gr} {h : Heap} {xs : List V} {vs : Array Value} (a : VRs g h xs vs.toList) {i : Nat} (e : xs.length ≤ i) : vs[i]? = none := by
  have := VRs_length a; simp at this ⊢; omega
theorem tupsKept_one {I : Addr} {h h' : Heap} {o : Obj} {vs : Array Value} (ho : h.get? I = some o) (hd : o.data = .fields vs) (k : ∀ b o, b ≠ I → h.get? b = some o → h'.get? b = some o) : TupsKept g h h' := fun a o' xs n _ e _ d => by
  refine .of (k a o' (fun z => ?_) e)
  subst z; rw [ho] at e; cases e; rw [hd] at d; cases d
/-- a list is walked through; it must stand at each turn -/
theorem iters_list (a I : Addr) (xs : List V) : Iters g xs (fun σ => σ a = some (.list xs)) I (· = I) (fun k h => h.IsListIter I a k) false where
  stab := fun k h h' st _ kp => st.at fun o e => kp I o rfl e
  flds := fun k h b st e => by subst e; obtain ⟨o, ho, _, hd⟩ := st; exact ⟨o, ho, .inr ⟨_, hd⟩⟩
  self := fun k A E s Q st h => wpAny_pyIter_listiter st h
  item := fun k x A E s σ target Q hx st R iv off _ h => by
    obtain ⟨hf, vs, n, ho, hv⟩ := (R.own a _ iv).2
    obtain ⟨v, e, hxv⟩ := VRs_getA hv hx
    obtain ⟨oI, hoI, hcI, hdI⟩ := id st
    refine wpAny_pyNext_list_item st ⟨_, ho, rfl, n, rfl⟩ e fun h' st' sb => ?_
    obtain ⟨o', ho', hc', hd'⟩ := id st'
    refine letGo_plain ho' hc' hd' (by decide) (h v _ (fun b o nb e => sb.extBut b o nb e) ⟨rfl, rfl, rfl⟩ st' (VR.mono (tupsKept_one hoI hdI sb.extBut) hxv))
  last := fun k A E s σ Q hk hh st R iv off h => by
    obtain ⟨hf, vs, n, ho, hv⟩ := (R.own a _ iv).2
    exact wpAny_pyNext_list_end hh st ⟨_, ho, rfl, n, rfl⟩ (VRs_noneA hv hk) fun h' eb => h { s with heap := h' } (fun b o nb e => eb b o nb e) ⟨rfl, rfl, rfl⟩
/-- a tuple is walked through -/
theorem iters_tuple (t I : Addr) (xs : List V) : Iters g xs (fun _ => True) I (· = I) (fun k h => h.IsTupleIter I t k ∧ VR g h (.tup xs) (.ref t)) false where
  stab := fun k h h' st tk kp => ⟨st.1.at fun o e => kp I o rfl e, VR.mono tk st.2⟩
  flds := fun k h b st e => by subst e; obtain ⟨⟨o, ho, _, hd⟩, _⟩ := st; exact ⟨o, ho, .inr ⟨_, hd⟩⟩
  self := fun k A E s Q st h => wpAny_pyIter_tupleiter st.1 h
  item := fun k x A E s σ target Q hx st R iv off _ h => by
    obtain ⟨hf, t', o, vs, n, et, _, ho, hc, hd, hv⟩ := VR_tup.mp st.2
    cases et
    obtain ⟨v, e, hxv⟩ := VRs_getA hv hx
    obtain ⟨oI, hoI, hcI, hdI⟩ := id st.1
    refine wpAny_pyNext_tuple_item st.1 ⟨_, ho, hc, n, hd⟩ e fun h' st' sb => ?_
    obtain ⟨o', ho', hc', hd'⟩ := id st'
    have tk : TupsKept g s.heap h' := tupsKept_one hoI hdI sb.extBut
    exact letGo_plain ho' hc' hd' (by decide) (h v _ (fun b o nb e => sb.extBut b o nb e) ⟨rfl, rfl, rfl⟩ ⟨st', VR.mono tk st.2⟩ (VR.mono tk hxv))
  last := fun k A E s σ Q hk hh st R iv off h => by
    obtain ⟨hf, t', o, vs, n, et, _, ho, hc, hd, hv⟩ := VR_tup.mp st.2
    cases et
    exact wpAny_pyNext_tuple_end hh st.1 ⟨_, ho, hc, n, hd⟩ (VRs_noneA hv hk) fun h' eb => h { s with heap := h' } (fun b o nb e => eb b o nb e) ⟨rfl, rfl, rfl⟩
/-- the items of a range -/
noncomputable def rangeV (lo : Int) (n : Nat) : List V := (List.range n).map fun (i : Nat) => .int (lo + (i : Int))
theorem iters_range (I : Addr) (lo : Int) (n : Nat) : Iters g (rangeV lo n) (fun _ => True) I (· = I) (fun k h => IsRangeIter h I (lo + (k : Int)) ((n : Int) - k) 1) false where
  stab := fun k h h' st _ kp => kp I _ rfl st
  flds := fun k h b st e => by subst e; exact ⟨_, st, .inr ⟨_, rfl⟩⟩
  self := fun k A E s Q st h => wpAny_pyIter_rangeiter st h
  item := fun k x A E s σ target Q hx st R iv off _ h => by
    have hk : k < n := by
      rcases Nat.lt_or_ge k n with q | q
      · exact q
      · rw [List.getElem?_eq_none (by simp [rangeV]; exact q)] at hx; cases hx
    have hx' : x = .int (lo + (k : Int)) := by simp [rangeV, hk] at hx; exact hx.symm
    subst hx'
    refine wpAny_pyNext_range_item st (by omega) fun h' st' sb => ?_
    have st'' : IsRangeIter h' I (lo + ((k + 1 : Nat) : Int)) ((n : Int) - ((k + 1 : Nat) : Int)) 1 := by
      have e1 : lo + ((k + 1 : Nat) : Int) = lo + (k : Int) + 1 := by push_cast; omega
      have e2 : (n : Int) - ((k + 1 : Nat) : Int) = (n : Int) - k - 1 := by push_cast; omega
      rw [e1, e2]; exact st'
    exact letGo_plain st' rfl rfl (by decide) (h _ _ (fun b o nb e => sb.extBut b o nb e) ⟨rfl, rfl, rfl⟩ st'' (VR_int.mpr ⟨_, rfl⟩))
  last := fun k A E s σ Q hk hh st R iv off h => by
    have : n ≤ k := by simpa [rangeV] using hk
    exact wpAny_pyNext_range_end hh st (by omega) fun h' eb => h { s with heap := h' } (fun b o nb e => eb b o nb e) ⟨rfl, rfl, rfl⟩
/-- the items of an enumeration -/
noncomputable def enumV (i : Nat) : List V → List V
  | [] => []
  | x :: xs => .tup [.int (i : Int), x] :: enumV (i + 1) xs
end
section
open PySem PyProof.Rows
variable {g : Gr} {sc : Scope} {r : Nat} {c : Bool}
/-- a loop over items, each bound to the target -/
noncomputable def loopT (t : Tgt) (inv : AH → Prop) (tb : TS) : List V → TS
  | [], ℓ, σ, Q, _ => inv σ ∧ Q .next ℓ σ
  | x :: xs, ℓ, σ, Q, E => inv σ ∧ bindV t x ℓ σ fun ℓ₁ => tb ℓ₁ σ (fun f ℓ₂ σ₂ => match f with
    | .next => loopT t inv tb xs ℓ₂ σ₂ Q E
    | .cont => loopT t inv tb xs ℓ₂ σ₂ Q E
    | .brk => Q .next ℓ₂ σ₂
    | .ret v => Q (.ret v) ℓ₂ σ₂) E
noncomputable def Tgt.isTup : Tgt → Bool
  | .name _ => false
  | .tup _ => true
noncomputable def tFor (t : Tgt) (ti : TI) (tb : TS) : TS := fun ℓ σ Q E => ti ℓ σ (fun items inv tup σ₁ => (tup = true → t.isTup = true) ∧ loopT t inv tb items ℓ σ₁ Q E) fun C σ' => E C ℓ σ'
section
variable {A : Around} {env : Env} {s s₁ : Shared} {σ σ₁ : AH} {ℓ ℓ₁ : Loc} {h h' : Heap}
/-- what the loop's iterator did -/
structure Walked (g : Gr) (fp : Addr → Prop) (h : Heap) (σ : AH) : Prop where
  off : ∀ a, fp a → σ a = none
  flds : ∀ a, fp a → ∃ o, h.get? a = some o ∧ (g.hid a ∨ ∃ vs, o.data = .fields vs)
  base : ∀ a, fp a → g.b0.get? a = none
theorem Walked.tups {fp : Addr → Prop} (w : Walked g fp h σ) (k : KeptBut fp h h') : TupsKept g h h' := fun a o vs n nh e _ d => by
  refine .of (k a o (fun q => ?_) e)
  obtain ⟨o', e', z⟩ := w.flds a q
  rw [e] at e'; cases e'
  rcases z with z | ⟨us, z⟩
  · exact nh z
  · rw [d] at z; cases z
theorem Walked.rel {fp : Addr → Prop} (w : Walked g fp h σ) (R : Rel g h σ) (k : KeptBut fp h h') (hh : ∀ a, g.hid a → fp a → ∃ o, h'.get? a = some o) : Rel g h' σ := by
  refine ⟨fun a ha => ?_, fun a o e => k a o (fun q => ?_) (R.base a o e), fun a ao e => ⟨(R.own a ao e).1, OR_mono (w.tups k) (fun o e' => k a o (fun q => ?_) e') (R.own a ao e).2⟩⟩
  · by_cases q : fp a
    · exact hh a ha q
    · obtain ⟨o, e⟩ := R.hid a ha; exact ⟨o, k a o q e⟩
  · rw [w.base a q] at e; cases e
  · rw [w.off a q] at e; cases e
theorem Walked.loc {fp : Addr → Prop} (w : Walked g fp h σ) (L : LR g h σ env ℓ) (k : KeptBut fp h h') (ho : ∀ a, fp a → ¬ Own env a) : LR g h' σ env ℓ := by
  have kv : ∀ {v : V} {u : Value}, VR g h v u → VR g h' v u := VR.mono (w.tups k)
  obtain ⟨m, hn, hm⟩ := L.ns
  refine ⟨⟨m, ns_upTo hn fun o e => .of (k _ o (fun q => ho _ q (.inl rfl)) e), fun y v a b => let ⟨u, e, f⟩ := hm y v a b; ⟨u, e, kv f⟩⟩, fun y c e => ?_, fun y v a kk => ?_, L.off, L.offc, L.apart, L.has⟩
  · obtain ⟨o, u, e1, e2⟩ := L.cell y c e
    exact ⟨o, u, k c o (fun q => ho _ q (.inr ⟨y, e⟩)) e1, e2⟩
  · obtain ⟨c, u, e, hc, hv⟩ := L.cells y v a kk
    exact ⟨c, u, e, cell_upTo hc fun o z => .of (k _ o (fun q => ho _ q (.inr ⟨_, e⟩)) z), kv hv⟩
theorem Own.present {a : Addr} (L : LR g h σ env ℓ) (w : Own env a) : ∃ o, h.get? a = some o := let ⟨o, e, _⟩ := L.noFields w; ⟨o, e⟩
/-- the iterator's objects stand behind a step of the block -/
theorem Walked.stand {fp : Addr → Prop} (w : Walked g fp h σ) (x : Ext (Own env) h σ h' σ₁) (ho : ∀ a, fp a → ¬ Own env a) (hh : ∀ a, fp a → g.hid a → ∀ o, h.get? a = some o → ∀ es n, o.data ≠ .dict es n) : ∀ a o, fp a → h.get? a = some o → h'.get? a = some o := fun a o q e => by
  refine (x.keep a o e (w.off a q) (ho a q)).exact fun es n d => ?_
  obtain ⟨o', e', z⟩ := w.flds a q
  rw [e] at e'; cases e'
  rcases z with z | ⟨us, z⟩
  · exact hh a q z o e es n d
  · rw [d] at z; cases z
end
theorem sndS_for {target iter : Expr} {body : List Stmt} {pos : Pos} {t : Tgt} {ti : TI} {tb : TS} (hi : SndI g sc r true iter ti) (ht : TgtIs sc target t) (hb : SndSs g sc r true body tb)
    (hf : ∀ env x, foldedSetIterable iter env x = pure x) : SndS g sc r true (.For target iter body [] pos) (tFor t ti tb) := .mk fun A env s ℓ σ Q E X h => by
  refine wpAny_For (wpAny_mono (hi.run A env s ℓ σ _ _ X h) (fun x s₁ p => wpAny_mono p (fun it s₂ p => ?_) fun _ _ p => p.toS X) fun _ _ p => p.toS X) (hf env)
  obtain ⟨items, inv, I, fp, St, tup, σ₁, rfl, IT, hst, hR, hx, hsm, hfp, hft, htt, hl⟩ := p
  have hb0 : ∀ a, fp a → g.b0.get? a = none := fun a q => by
    cases e : g.b0.get? a with
    | none => rfl
    | some o => exact absurd (hfp a q).1 (by rw [X.rel.base a o e]; simp)
  have hown : ∀ a, fp a → ¬ Own env a := fun a q w => by
    obtain ⟨o, e⟩ := Own.present X.loc w
    rw [(hfp a q).1] at e; cases e
  have hhid : ∀ a, fp a → ¬ g.hid a := fun a q w => by
    obtain ⟨o, e⟩ := X.rel.hid a w
    rw [(hfp a q).1] at e; cases e
  have target_tup : tup = true → ∃ es m p, target = .Tuple es m p := fun q => by
    have := htt q
    cases ht with
    | name _ _ => cases this
    | tup _ => exact ⟨_, _, _, rfl⟩
  refine codeAny_forLoop_any (fun n s' => ∃ k ℓ' σ', k ≤ items.length ∧ n = items.length - k ∧ St k s'.heap ∧ LR g s'.heap σ' env ℓ' ∧ Rel g s'.heap σ' ∧ Ext (Own env) s.heap σ s'.heap σ' ∧ Same s s' ∧ (∀ a, fp a → σ' a = none) ∧
    loopT t inv tb (items.drop k) ℓ' σ' Q E) ?_ items.length ⟨0, ℓ, σ₁, Nat.zero_le _, rfl, hst, X.loc.step X.rel hx, hR, hx.own, hsm, fun a q => (hfp a q).2, by simpa using hl⟩
  rintro n s' ⟨k, ℓ', σ', hk, rfl, hst, hL, hR, hx, hsm, hoff, hl⟩
  have W : Walked g fp s'.heap σ' := ⟨hoff, fun a q => IT.flds k _ a hst q, hb0⟩
  have X' : Cx g sc r true A env s'.heap σ' ℓ' := X.stepS hL hR hx
  -- behind a step of the iterator
  have behind : ∀ {s'' : Shared}, KeptBut fp s'.heap s''.heap → LR g s''.heap σ' env ℓ' ∧ Rel g s''.heap σ' ∧ Ext (Own env) s.heap σ s''.heap σ' := fun {s''} kb => by
    refine ⟨W.loc hL kb hown, W.rel hR kb fun a q w => absurd q (hhid a w), ⟨fun a o e n nw => ?_, fun a o e => ?_, hx.dom⟩⟩
    · refine (hx.keep a o e n nw).then fun o' e' => .of (kb a o' (fun q => ?_) e')
      rw [(hfp a q).1] at e; cases e
    · obtain ⟨o', e'⟩ := hx.pres a o e
      refine ⟨o', kb a o' (fun q => ?_) e'⟩
      rw [(hfp a q).1] at e; cases e
  rcases Nat.lt_or_ge k items.length with hlt | hge
  · have hd : items.drop k = items[k] :: items.drop (k + 1) := List.drop_eq_getElem_cons hlt
    rw [hd] at hl
    obtain ⟨hinv, hbind⟩ := hl
    refine wpAny_mono (IT.item k items[k] A (fun e s' => False) s' σ' target (fun v s₁ => ∃ (kb : KeptBut fp s'.heap s₁.heap), Same s' s₁ ∧ St (k + 1) s₁.heap ∧ VR g s₁.heap items[k] v) (by simp [hlt]) hst hR hinv hoff target_tup
      fun v s₁ a b d e => ⟨a, b, d, e⟩) (fun rr s₁ p => ?_) fun _ _ p => p.elim
    cases rr with
    | none => exact p.elim
    | some v =>
      refine wpAny_mono p (fun _ s₂ p => ?_) fun _ _ p => p.elim
      obtain ⟨kb, hs2, hst2, hv⟩ := p
      obtain ⟨hL2, hR2, hx2⟩ := behind kb
      have X2 : Cx g sc r true A env s₂.heap σ' ℓ' := X.stepS hL2 hR2 hx2
      have W2 : Walked g fp s₂.heap σ' := ⟨hoff, fun a q => IT.flds _ _ a hst2 q, hb0⟩
      refine wpAny_mono (assign_ok writes_own (E := fun _ _ => False) X2 ht hv hbind) (fun _ s₃ p => ?_) fun _ _ p => p.elim
      obtain ⟨ℓ₃, hL3, hR3, hx3, hs3, hbody⟩ := p
      have hst3 : St (k + 1) s₃.heap := IT.stab _ _ _ hst2 (hx3.tuples hR2 hL2.noSeq) (W2.stand hx3 hown fun a q w => absurd w (hhid a q))
      have X3 : Cx g sc r true A env s₃.heap σ' ℓ₃ := X2.stepS hL3 hR3 hx3
      have W3 : Walked g fp s₃.heap σ' := ⟨hoff, fun a q => IT.flds _ _ a hst3 q, hb0⟩
      have hx03 : Ext (Own env) s.heap σ s₃.heap σ' := hx2.trans hx3
      have hs03 : Same s s₃ := (hsm.trans hs2).trans hs3
      refine wpAny_mono (hb.run A env s₃ ℓ₃ σ' _ E X3 hbody) (fun f s₄ p => ?_) fun e s₄ p => (p.back hx03 hs03).noted fun e s' p => p.came fun e s' p => p
      obtain ⟨f', ℓ₄, σ₄, hf', hL4, hR4, hx4, hs4, hq⟩ := p
      have again : loopT t inv tb (items.drop (k + 1)) ℓ₄ σ₄ Q E → ∃ m, m < items.length - k ∧ ∃ k' ℓ' σ', k' ≤ items.length ∧ m = items.length - k' ∧ St k' s₄.heap ∧ LR g s₄.heap σ' env ℓ' ∧ Rel g s₄.heap σ' ∧ Ext (Own env) s.heap σ s₄.heap σ' ∧ Same s s₄ ∧ (∀ a, fp a → σ' a = none) ∧
          loopT t inv tb (items.drop k') ℓ' σ' Q E := fun hl => by
        refine ⟨items.length - (k + 1), by omega, k + 1, ℓ₄, σ₄, hlt, rfl, ?_, hL4, hR4, hx03.trans hx4, hs03.trans hs4, fun a q => ?_, hl⟩
        · exact IT.stab _ _ _ hst3 (hx4.tuples hR3 hL3.noSeq) (W3.stand hx4 hown fun a q w => absurd w (hhid a q))
        · obtain ⟨o, e, _⟩ := W3.flds a q
          exact hx4.off e (hoff a q)
      cases f' with
      | next => cases hf'; exact again hq
      | cont => cases hf'; exact again hq
      | brk => cases hf'; exact ⟨.next, ℓ₄, σ₄, rfl, hL4, hR4, hx03.trans hx4, hs03.trans hs4, hq⟩
      | ret v => obtain ⟨u, rfl, hu⟩ := hf'; exact ⟨.ret v, ℓ₄, σ₄, ⟨u, rfl, hu⟩, hL4, hR4, hx03.trans hx4, hs03.trans hs4, hq⟩
  · have hd : items.drop k = [] := List.drop_eq_nil_of_le hge
    rw [hd] at hl
    refine IT.last k A _ s' σ' _ hge (X.room.calm rfl) hst hR hl.1 hoff fun s'' kb hs'' => wpAny_execs_nil ?_
    obtain ⟨hL2, hR2, hx2⟩ := behind kb
    exact ⟨.next, ℓ', σ', rfl, hL2, hR2, hx2, hsm.trans hs'', hl.2⟩
end
section
open PySem PyProof.Rows
variable {g : Gr} {sc csc : Scope} {r : Nat} {c : Bool}
/-! ## the block of a comprehension -/
noncomputable def Loc.bare (ℓ : Loc) : Loc := fun n => if n = ".0" then none else ℓ n
/-- what is asked of a comprehension's scope; checked by computation -/
noncomputable def namesApart : List (Str × NameKind) → Bool
  | [] => true
  | (x, _) :: rest => (rest.all fun y => y.1 != x) && namesApart rest
noncomputable def scopeOk (sc csc : Scope) : Bool :=
  csc.kind == .function && namesApart csc.names && (csc.names.all fun x => x.2 != .cell && x.1 != ("__debug__" : Str) && x.1 != ("__classdict__" : Str)) &&
  (csc.names.all fun x => x.2 != .free || sc.names.any fun y => y.1 == x.1 && (y.2 == .cell || y.2 == .free))
theorem lookup_of_apart : ∀ {names : List (Str × NameKind)} {x : Str} {k : NameKind}, namesApart names = true → (x, k) ∈ names → names.lookup x = some k
  | (y, j) :: rest, x, k, h, hm => by
    simp only [namesApart, Bool.and_eq_true] at h
    cases hm with
    | head => simp [List.lookup_cons]
    | tail _ hm =>
      have hne : (x == y) = false := by
        have := List.all_eq_true.mp h.1 _ hm
        simpa using this
      rw [List.lookup_cons, hne]
      exact lookup_of_apart h.2 hm
theorem mem_of_lookup : ∀ {names : List (Str × NameKind)} {x : Str} {k : NameKind}, names.lookup x = some k → (x, k) ∈ names
  | [], x, k, h => by simp at h
  | (y, j) :: rest, x, k, h => by
    rw [List.lookup_cons] at h
    split at h
    · rename_i e; cases h; rw [eq_of_beq e]; exact .head _
    · exact .tail _ (mem_of_lookup h)
theorem closureFor_ok {scope : Scope} {env : Env} (h : ∀ x ∈ scope.names, x.2 = .free → ∃ a, env.cells.lookup x.1 = some a) :
    ∃ cl, closureFor scope env = pure cl ∧ (∀ n a, cl.lookup n = some a → env.cells.lookup n = some a) ∧ ∀ n, (n, NameKind.free) ∈ scope.names → cl.lookup n = env.cells.lookup n := by
  have key : ∀ (names : List (Str × NameKind)) (cs : List (Str × Addr)), (∀ x ∈ names, x.2 = .free → ∃ a, env.cells.lookup x.1 = some a) → (∀ n a, cs.lookup n = some a → env.cells.lookup n = some a) →
      ∃ cl, (forIn names cs fun x cs => if (x.2 == NameKind.free) = true then (do let a ← cellOf env x.1; pure (ForInStep.yield ((x.1, a) :: cs))) else pure (ForInStep.yield cs) : Sem (List (Str × Addr))) = pure cl ∧
        (∀ n a, cl.lookup n = some a → env.cells.lookup n = some a) ∧ (∀ n, (n, NameKind.free) ∈ names ∨ cs.lookup n ≠ none → cl.lookup n = env.cells.lookup n) := by
    intro names
    induction names with
    | nil =>
      intro cs _ hcs
      refine ⟨cs, rfl, hcs, fun n q => ?_⟩
      rcases q with q | q
      · cases q
      · cases e : cs.lookup n with
        | none => exact absurd e q
        | some a => rw [hcs n a e]
    | cons x names ih =>
      intro cs hx hcs
      obtain ⟨n, k⟩ := x
      cases hk : k == NameKind.free with
      | true =>
        obtain ⟨a, ha⟩ := hx (n, k) (.head _) (eq_of_beq hk)
        have hcs' : ∀ m b, ((n, a) :: cs).lookup m = some b → env.cells.lookup m = some b := fun m b q => by
          rw [List.lookup_cons] at q
          split at q
          · rename_i e; cases q; rw [eq_of_beq e]; exact ha
          · exact hcs m b q
        obtain ⟨cl, h1, h2, h3⟩ := ih ((n, a) :: cs) (fun y hy => hx y (.tail _ hy)) hcs'
        refine ⟨cl, ?_, h2, fun m q => h3 m ?_⟩
        · rw [List.forIn_cons]
          simp only [hk, if_true]
          unfold cellOf
          rw [ha]
          exact h1
        · rcases q with q | q
          · cases q with
            | head => right; simp [List.lookup_cons]
            | tail _ q => exact .inl q
          · right
            rw [List.lookup_cons]
            split
            · simp
            · exact q
      | false =>
        obtain ⟨cl, h1, h2, h3⟩ := ih cs (fun y hy => hx y (.tail _ hy)) hcs
        refine ⟨cl, ?_, h2, fun m q => h3 m ?_⟩
        · rw [List.forIn_cons]
          simp only [hk, Bool.false_eq_true, if_false]
          exact h1
        · rcases q with q | q
          · cases q with
            | head => cases hk
            | tail _ q => exact .inl q
          · exact .inr q
  obtain ⟨cl, h1, h2, h3⟩ := key scope.names [] h (fun n a q => by simp at q)
  refine ⟨cl, ?_, h2, fun n q => h3 n (.inl q)⟩
  unfold closureFor
  have : (pure cl : Sem (List (Str × Addr))) = (pure cl >>= fun cs => pure cs) := rfl
  rw [this, ← h1]
theorem LR.forget {h : Heap} {σ : AH} {env : Env} {ℓ ℓ' : Loc} (L : LR g h σ env ℓ) (k : ∀ n v, ℓ' n = some v → ℓ n = some v) : LR g h σ env ℓ' := by
  obtain ⟨m, h1, h2⟩ := L.ns
  exact ⟨⟨m, h1, fun n v e kd => h2 n v (k n v e) kd⟩, L.cell, fun n v e kd => L.cells n v (k n v e) kd, L.off, L.offc, L.apart, L.has⟩
theorem Rel.claim {h : Heap} {σ : AH} {a : Addr} {ao : AO} (R : Rel g h σ) (hb : g.b0.get? a = none) (x : OR g h a ao) : Rel g h (σ.set a ao) := by
  refine ⟨R.hid, R.base, fun b bo e => ?_⟩
  unfold AH.set at e
  split at e
  · rename_i q; subst q; cases e; exact ⟨hb, x⟩
  · exact R.own b bo e
section
variable {A : Around} {env : Env} {s : Shared} {σ : AH} {ℓ : Loc} {h : Heap} {cl : List (Str × Addr)} {C : Addr}
theorem kindOf_comp (cl : List (Str × Addr)) (C : Addr) (env : Env) (x : Str) : (compEnvC csc cl C env).kindOf x = (csc.names.lookup x).map fun k => if (k == .free && env.scope.kind == .function && env.kindOf x == some .cell) then .cell else k := by
  show ((relabel csc env).names).lookup x = _
  unfold relabel
  simp only
  generalize csc.names = names
  induction names with
  | nil => rfl
  | cons y rest ih =>
    obtain ⟨n, k⟩ := y
    rw [List.map_cons, List.lookup_cons]
    by_cases hx : x = n
    · subst hx
      by_cases hc : (k == NameKind.free && env.scope.kind == .function && env.kindOf x == some .cell) = true
      · simp only [hc, if_true, List.lookup_cons, beq_self_eq_true, Option.map_some]
      · simp only [hc, if_false, List.lookup_cons, beq_self_eq_true, Option.map_some]
        simp
    · have hb : (x == n) = false := by simpa using hx
      by_cases hc : (k == NameKind.free && env.scope.kind == .function && env.kindOf n == some .cell) = true
      · simp only [hc, if_true, List.lookup_cons, hb]; exact ih
      · simp only [hc, if_false, List.lookup_cons, hb]; simp only [Bool.false_eq_true, if_false, List.lookup_cons, hb]; exact ih
theorem comp_env (X : Cx g sc r c A env h σ ℓ) (ok : scopeOk sc csc = true) : EnvOk csc (compEnvC csc cl C env) := by
  simp only [scopeOk, Bool.and_eq_true] at ok
  obtain ⟨⟨⟨ok1, ok2⟩, ok3⟩, ok4⟩ := ok
  refine ⟨fun x k hm => ?_, fun x k hm => ?_, by show (relabel csc env).kind = _; exact eq_of_beq ok1, X.ok.globals, X.ok.builtins⟩
  · rw [kindOf_comp, lookup_of_apart ok2 hm]
    simp only [Option.map_some]
    split
    · rename_i hc
      simp only [Bool.and_eq_true] at hc
      exact .inr ⟨eq_of_beq hc.1.1, rfl⟩
    · exact .inl rfl
  · have := List.all_eq_true.mp ok3 _ hm
    simp only [Bool.and_eq_true] at this
    exact ⟨by simpa using this.1.2, by simpa using this.2⟩
theorem comp_loc (X : Cx g sc r c A env h σ ℓ) (ok : scopeOk sc csc = true) (hcl : ∀ n a, cl.lookup n = some a → env.cells.lookup n = some a) (hcl' : ∀ n, (n, NameKind.free) ∈ csc.names → cl.lookup n = env.cells.lookup n)
    {m : Str → Option Value} (hn : h.Ns C m) (hC : σ C = none) (hCb : g.b0.get? C = none) (hCn : ∀ x a, env.cells.lookup x = some a → a ≠ C)
    {ℓ' : Loc} (hl : ∀ n v, ℓ' n = some v → csc.names.lookup (Str.ofString n) = some .local → ∃ u, m (Str.ofString n) = some u ∧ VR g h v u)
    (hf : ∀ n v, ℓ' n = some v → csc.names.lookup (Str.ofString n) = some .free → ℓ n = some v) : LR g h σ (compEnvC csc cl C env) ℓ' := by
  simp only [scopeOk, Bool.and_eq_true] at ok
  obtain ⟨⟨⟨ok1, ok2⟩, ok3⟩, ok4⟩ := ok
  -- the kind of a name in the comprehension's scope
  have kd : ∀ x k, (compEnvC csc cl C env).kindOf x = some k → (k = .local → csc.names.lookup x = some .local) ∧ (k = .cell ∨ k = .free → csc.names.lookup x = some .free) := fun x k e => by
    rw [kindOf_comp] at e
    cases q : csc.names.lookup x with
    | none => rw [q] at e; cases e
    | some j =>
      rw [q] at e
      simp only [Option.map_some, Option.some.injEq] at e
      have hj : j ≠ .cell := fun z => by
        subst z
        have := List.all_eq_true.mp ok3 _ (mem_of_lookup q)
        simp at this
      split at e
      · rename_i hc
        simp only [Bool.and_eq_true] at hc
        have : j = .free := eq_of_beq hc.1.1
        subst this; subst e
        exact ⟨fun z => (nomatch z), fun _ => rfl⟩
      · subst e
        exact ⟨fun z => by rw [z], fun z => by rcases z with z | z <;> first | exact absurd z hj | rw [z]⟩
  -- free names have cells outside
  have out : ∀ x, csc.names.lookup x = some .free → env.kindOf x = some .cell ∨ env.kindOf x = some .free := fun x e => by
    have := List.all_eq_true.mp ok4 _ (mem_of_lookup e)
    simp only [bne_self_eq_false, Bool.false_or, List.any_eq_true, Bool.and_eq_true] at this
    obtain ⟨⟨y, j⟩, hy, h1, h2⟩ := this
    have hyx : y = x := eq_of_beq h1
    subst hyx
    rcases X.ok.kinds _ _ hy with q | ⟨_, q⟩
    · rw [q]
      cases j <;> simp at h2 <;> simp
    · exact .inl q
  refine ⟨⟨m, hn, fun n v e k => hl n v e ((kd _ _ k).1 rfl)⟩, fun x a e => X.loc.cell x a (hcl x a e), fun n v e k => ?_, ⟨hC, hCb⟩, fun x a e => ?_, fun x y a e1 e2 => X.loc.apart x y a (hcl x a e1) (hcl y a e2), fun x k => ?_⟩
  · have hfree : csc.names.lookup (Str.ofString n) = some .free := by
      rcases k with k | k
      · exact (kd _ _ k).2 (.inl rfl)
      · exact (kd _ _ k).2 (.inr rfl)
    obtain ⟨a, u, h1, h2, h3⟩ := X.loc.cells n v (hf n v e hfree) (out _ hfree)
    exact ⟨a, u, (hcl' _ (mem_of_lookup hfree)).trans h1, h2, h3⟩
  · obtain ⟨h1, h2, h3⟩ := X.loc.offc x a (hcl x a e)
    exact ⟨h1, hCn x a (hcl x a e), h3⟩
  · have hfree : csc.names.lookup x = some .free := by
      rcases k with k | k
      · exact (kd _ _ k).2 (.inl rfl)
      · exact (kd _ _ k).2 (.inr rfl)
    obtain ⟨a, ha⟩ := X.loc.has x (out x hfree)
    exact ⟨a, (hcl' _ (mem_of_lookup hfree)).trans ha⟩
theorem comp_cells (X : Cx g sc r c A env h σ ℓ) (ok : scopeOk sc csc = true) : ∀ x ∈ csc.names, x.2 = .free → ∃ a, env.cells.lookup x.1 = some a := fun x hx e => by
  simp only [scopeOk, Bool.and_eq_true] at ok
  have := List.all_eq_true.mp ok.2 _ hx
  rw [e] at this
  simp only [bne_self_eq_false, Bool.false_or, List.any_eq_true, Bool.and_eq_true] at this
  obtain ⟨⟨y, j⟩, hy, h1, h2⟩ := this
  have hyx : y = x.1 := eq_of_beq h1
  subst hyx
  refine X.loc.has _ ?_
  rcases X.ok.kinds _ _ hy with q | ⟨_, q⟩
  · rw [q]
    cases j <;> simp at h2 <;> simp
  · exact .inl q
end
end
section
open PySem PyProof.Rows
variable {g : Gr} {sc csc : Scope} {r : Nat} {c : Bool}
noncomputable def compT (t : Tgt) (inv : AH → Prop) (tifs : TB) (telt : TE) (ℓ : Loc) : List V → List V → AH → (List V → AH → Prop) → (Addr → AH → Prop) → Prop
  | [], acc, σ, Q, _ => inv σ ∧ Q acc σ
  | x :: xs, acc, σ, Q, E => inv σ ∧ bindV t x ℓ.bare σ fun ℓ₁ => tifs ℓ₁ σ (fun b σ₁ => match b with
      | true => telt ℓ₁ σ₁ (fun v σ₂ => compT t inv tifs telt ℓ xs (acc ++ [v]) σ₂ Q E) E
      | false => compT t inv tifs telt ℓ xs acc σ₁ Q E) E
/-- the list that a comprehension makes, before anybody holds it -/
noncomputable def tComp (t : Tgt) (ti : TI) (tifs : TB) (telt : TE) : Loc → AH → (List V → AH → Prop) → (Addr → AH → Prop) → Prop := fun ℓ σ Q E =>
  ti ℓ σ (fun items inv tup σ₁ => (tup = true → t.isTup = true) ∧ compT t inv tifs telt ℓ items [] σ₁ Q E) E
/-- the tests of a clause -/
structure SndT (g : Gr) (sc : Scope) (r : Nat) (c : Bool) (ifs : List Expr) (t : TB) : Prop where
  run : ∀ A env s ℓ σ Q E, Cx g sc r c A env s.heap σ ℓ → t ℓ σ Q E →
  wpAny (model g.prog g.w) A (forIn ifs true fun c r => if r = true then do let ok ← isTrue c env (eval c env); pure (ForInStep.yield ok) else pure (ForInStep.yield r)) (PostB g s σ Q) (PostX g A s σ E) s
theorem sndT_nil : SndT g sc r c [] (tConstB true) := .mk fun A env s ℓ σ Q E X h => wpAny_tests_nil (.here rfl X.rel h)
theorem sndT_one {e : Expr} {t : TB} (h1 : SndB g sc r c e t) : SndT g sc r c [e] t := .mk fun A env s ℓ σ Q E X h => wpAny_tests_one (h1.run A env s ℓ σ Q E X h)
theorem compLoop_own {prog : Program} {w : World} {A : Around} {R : Result → Shared → Prop} {s : Shared} {elt target iter : Expr} {ifs : List Expr} {scope : Scope} {pos : Pos} {it acc : Value} {env : Env} (I : Nat → Shared → Prop)
    (turn : ∀ n s, I n s → wpAny (model prog w) A (pyNext it) (fun r s₁ => match r with
      | none => R (.ok .next) s₁
      | some v => wpAny (model prog w) A (letOwnedTupleGo target it v) (fun _ s₁ => wpAny (model prog w) A (assign target env v) (fun _ s₂ =>
          wpAny (model prog w) A (forIn ifs true fun c r => if r = true then do let ok ← isTrue c env (eval c env); pure (ForInStep.yield ok) else pure (ForInStep.yield r)) (fun ok s₃ =>
            if ok = true then wpAny (model prog w) A (eval elt env) (fun x s₄ =>
              wpAny (model prog w) A (call (.builtin "list.append") [acc, x]) (fun _ s₅ => ∃ m, m < n ∧ I m s₅) (notedBy (model prog w) A env fun e s' => R (.error e) s') s₄) (notedBy (model prog w) A env fun e s' => R (.error e) s') s₃
            else ∃ m, m < n ∧ I m s₃) (notedBy (model prog w) A env fun e s' => R (.error e) s') s₂) (notedBy (model prog w) A env fun e s' => R (.error e) s') s₁) (notedBy (model prog w) A env fun e s' => R (.error e) s') s₁) (notedBy (model prog w) A env fun e s' => R (.error e) s') s)
    (n : Nat) (h : I n s) :
    codeAny (model prog w) A (.compLoop (.ListComp elt [⟨target, iter, ifs, 0⟩] scope pos) 0 it acc env) R s := by
  refine codeAny_loop rfl I (fun n s hI => ?_) n h
  show wpAny _ A ((compTurn (.ListComp elt [⟨target, iter, ifs, 0⟩] scope pos) 0 it acc env).onRaise (fun x => do noteFrame x env; theTreesLotGoes x)) _ _ s
  refine wpAny_noted ?_
  rw [compTurn_list]
  refine wpAny_bind (wpAny_standAt (wpAny_bind (wpAny_mono (turn n s hI) (fun r s₁ h₁ => ?_) fun _ _ h' => h')))
  cases r with
  | none => exact wpAny_pure h₁
  | some v =>
    refine wpAny_bind (wpAny_mono h₁ (fun _ s₁ h₁ => ?_) fun _ _ h' => h')
    refine wpAny_bind (wpAny_mono h₁ (fun _ s₂ h₂ => wpAny_bind (wpAny_mono h₂ (fun ok s₃ h₃ => ?_) fun _ _ h' => h')) fun _ _ h' => h')
    cases ok with
    | false => exact wpAny_pure ⟨rfl, h₃⟩
    | true =>
      exact wpAny_bind (wpAny_bind (wpAny_mono h₃ (fun x s₄ h₄ => wpAny_bind (wpAny_mono h₄ (fun _ s₅ h₅ => wpAny_pure (wpAny_pure ⟨rfl, h₅⟩)) fun _ _ h' => h')) fun _ _ h' => h'))
noncomputable def Tgt.names : Tgt → List String
  | .name n => [n]
  | .tup ns => ns
/-- the block's own names are the target's; checked by computation -/
noncomputable def locOk (csc : Scope) (t : Tgt) : Bool := csc.names.all fun x => x.2 != .local || x.1 == Str.ofString ".0" || t.names.any fun n => x.1 == Str.ofString n
/-- what the block sees of the names outside -/
noncomputable def Loc.outer (csc : Scope) (ℓ : Loc) : Loc := fun n => if csc.names.lookup (Str.ofString n) = some .local then none else ℓ n
theorem setAll_sub : ∀ {ns : List String} {vs : List V} {ℓa ℓb : Loc}, vs.length = ns.length → (∀ n v, n ∉ ns → ℓa n = some v → ℓb n = some v) → ∀ n v, ℓa.setAll ns vs n = some v → ℓb.setAll ns vs n = some v
  | [], vs, ℓa, ℓb, hl, h, n, v, e => by
    cases vs with
    | nil => exact h n v (by simp) e
    | cons _ _ => simp at hl
  | m :: ns, [], ℓa, ℓb, hl, h, n, v, e => by simp at hl
  | m :: ns, x :: vs, ℓa, ℓb, hl, h, n, v, e => by
    refine setAll_sub (ns := ns) (vs := vs) (ℓa := ℓa.set m x) (ℓb := ℓb.set m x) (by simpa using hl) (fun k u hk q => ?_) n v e
    unfold Loc.set at q ⊢
    split
    · rename_i z; rw [if_pos z] at q; exact q
    · rename_i z; rw [if_neg z] at q; exact h k u (by simp [z, hk]) q
theorem bind_outer {csc : Scope} {t : Tgt} (lk : locOk csc t = true) {x : V} {ℓ : Loc} {σ : AH} {P : Loc → Prop} (h : bindV t x ℓ.bare σ P) : bindV t x (ℓ.outer csc) σ fun ℓ' => ∃ ℓ'', (∀ n v, ℓ'' n = some v → ℓ' n = some v) ∧ P ℓ'' := by
  have sub : ∀ n v, n ∉ t.names → ℓ.bare n = some v → ℓ.outer csc n = some v := fun n v hn e => by
    unfold Loc.bare at e
    split at e
    · cases e
    · rename_i z
      unfold Loc.outer
      rw [if_neg ?_]; exact e
      intro q
      have := List.all_eq_true.mp lk _ (mem_of_lookup q)
      simp only [bne_self_eq_false, Bool.false_or, Bool.or_eq_true, List.any_eq_true] at this
      rcases this with w | ⟨m, hm, w⟩
      · exact z (ofString_inj (eq_of_beq w))
      · exact hn (ofString_inj (eq_of_beq w) ▸ hm)
  cases t with
  | name m =>
    refine ⟨_, fun n v e => ?_, h⟩
    unfold Loc.set at e ⊢
    split
    · rename_i z; rw [if_pos z] at e; exact e
    · rename_i z; rw [if_neg z] at e; exact sub n v (by simp [Tgt.names, z]) e
  | tup ns =>
    simp only [bindV] at h ⊢
    split at h
    · rename_i vs e
      exact ⟨h.1, _, setAll_sub h.1 sub, h.2⟩
    · exact h.elim
theorem Ext.absorb {W : Addr → Prop} {h0 h h' : Heap} {σ0 σ σ' : AH} (x : Ext No h0 σ0 h σ) (y : Ext W h σ h' σ') (hw : ∀ a, W a → h0.get? a = none) : Ext No h0 σ0 h' σ' := by
  refine ⟨fun a o e n nw => ?_, fun a o e => ?_, fun a q => ?_⟩
  · exact (x.keep a o e n nw).then fun o' e' => y.keep a o' e' (x.off e n) fun w => by rw [hw a w] at e; cases e
  · obtain ⟨o', e'⟩ := x.pres a o e; exact y.pres a o' e'
  · rcases y.dom a q with z | z
    · exact x.dom a z
    · cases e : h0.get? a with
      | none => exact .inr rfl
      | some o => obtain ⟨o', e'⟩ := x.pres a o e; rw [e'] at z; cases z
/-- what stands in the block of a comprehension -/
structure Blk (g : Gr) (csc : Scope) (cl : List (Str × Addr)) (env : Env) (s : Shared) (σ : AH) (fp : Addr → Prop) (St : Nat → Heap → Prop) (D C : Addr) (k : Nat) (acc : List V) (ℓ' : Loc) (s' : Shared) (σ' : AH) : Prop where
  st : St k s'.heap
  dl : ∃ vs n, s'.heap.get? D = some { cls := .type "list", data := .seq vs n } ∧ VRs g s'.heap acc vs.toList
  loc : LR g s'.heap σ' (compEnvC csc cl C env) ℓ'
  rel : Rel g s'.heap σ'
  ext : Ext No s.heap σ s'.heap σ'
  same : Same s s'
  off : ∀ a, fp a → σ' a = none
  offD : σ' D = none
section
variable {A : Around} {env : Env} {s : Shared} {σ : AH} {ℓ : Loc} {cl : List (Str × Addr)} {items : List V} {inv : AH → Prop} {I : Addr} {fp : Addr → Prop} {St : Nat → Heap → Prop} {tup : Bool} {D C : Addr}
theorem comp_core {s₂ : Shared} {σ₁ : AH} {elt target iter : Expr} {ifs : List Expr} {pos : Pos} {t : Tgt} {tifs : TB} {telt : TE} {Q : List V → AH → Prop} {E : Addr → AH → Prop} {EE : Value → Shared → Prop} {RR : Value → Addr → Result → Shared → Prop}
    (X : Cx g sc r true A env s.heap σ ℓ) (ok : scopeOk sc csc = true) (IT : Iters g items inv I fp St tup) (hst : St 0 s₂.heap) (hR : Rel g s₂.heap σ₁) (hx : Ext No s.heap σ s₂.heap σ₁) (hsm : Same s s₂) (hfp : ∀ a, fp a → s.heap.get? a = none ∧ σ₁ a = none)
    (hft : Fits items.length) (htt : tup = true → t.isTup = true) (ht : TgtIs csc target t) (lk : locOk csc t = true) (h1 : SndT g csc r true ifs tifs) (h2 : SndE g csc r true elt telt)
    (hcl : ∀ n a, cl.lookup n = some a → env.cells.lookup n = some a) (hcl' : ∀ n, (n, NameKind.free) ∈ csc.names → cl.lookup n = env.cells.lookup n)
    (h : compT t inv tifs telt ℓ items [] σ₁ Q E)
    (hRR : ∀ D C s' σ' xs, s.heap.get? D = none → s.heap.get? C = none → D ≠ C → (∃ m, s'.heap.Ns C m) → OR g s'.heap D (.list xs) → Rel g s'.heap σ' → Ext No s.heap σ s'.heap σ' → Same s s' → σ' D = none → σ' C = none → Q xs σ' → RR (.ref D) C (.ok .next) s')
    (hEE : ∀ D C e s', PostX g A s σ E e s' → notedBy (model g.prog g.w) A (compEnvC csc cl C env) (fun e s' => RR (.ref D) C (.error e) s') e s') :
    wpAny (model g.prog g.w) A (newList []) (fun acc s₃ => wpAny (model g.prog g.w) A (newFunctionEnv csc env.globals cl [] env.qual none .none (some env)) (fun cenv s₄ =>
      codeAny (model g.prog g.w) A (.compStart (.ListComp elt [⟨target, iter, ifs, 0⟩] csc pos) 0 (.ref I) acc { cenv with scope := relabel csc env }) (RR acc cenv.locals) s₄) EE s₃) EE s₂ := by
  have ok' := ok
  simp only [scopeOk, Bool.and_eq_true] at ok'
  obtain ⟨⟨⟨ok1, ok2⟩, ok3⟩, ok4⟩ := ok'
  have hcell : ∀ y ∈ csc.names, y.2 ≠ .cell := fun y hy e => by
    have := List.all_eq_true.mp ok3 _ hy
    rw [e] at this; simp at this
  refine wpAny_newObj_type (wpAny_newFunctionEnv hcell (by intro y hy; simp at hy) (fun h₁ hns₁ hsb₁ => ?_) (eq_of_beq ok1))
  dsimp only at hns₁ hsb₁ ⊢
  generalize hH2 : s₂.heap.push { cls := .type "list", dict := none, data := .seq ([] : List Value).toArray } = H2 at hns₁ hsb₁ ⊢
  generalize hDd : s₂.heap.objs.size = D at *
  generalize hCd : H2.objs.size = C at *
  have hCD : C = D + 1 := by rw [← hCd, ← hH2, Heap.size_push, hDd]
  have hDC : D ≠ C := by omega
  have lt2 : ∀ b o, s₂.heap.get? b = some o → b < D := fun b o e => by rw [← hDd]; exact Heap.lt_size e
  have old : ∀ b o, s₂.heap.get? b = some o → h₁.get? b = some o := fun b o e => hsb₁.extBut b o (by rw [hCD]; exact Nat.ne_of_lt (Nat.lt_succ_of_lt (lt2 b o e))) (Heap.get?_push_of_some _ (hH2 ▸ Heap.get?_push_of_some _ e))
  have hacc : h₁.get? D = some { cls := .type "list", data := .seq #[] } := hsb₁.extBut _ _ hDC (Heap.get?_push_of_some _ (hH2 ▸ (hDd ▸ Heap.get?_push_size _ rfl)))
  have fresh2 : ∀ a, D ≤ a → s₂.heap.get? a = none := fun a ha => by
    cases e : s₂.heap.get? a with
    | none => rfl
    | some o' => exact absurd (lt2 a o' e) (Nat.not_lt.mpr ha)
  have fresh : ∀ a, D ≤ a → s.heap.get? a = none := fun a ha => by
    cases e : s.heap.get? a with
    | none => rfl
    | some o => obtain ⟨o', e'⟩ := hx.pres a o e; rw [fresh2 a ha] at e'; cases e'
  have hDs := fresh D (Nat.le_refl _)
  have hCs := fresh C (by omega)
  have b0 : ∀ a, s.heap.get? a = none → g.b0.get? a = none := fun a e => by
    cases q : g.b0.get? a with
    | none => rfl
    | some o => rw [X.rel.base a o q] at e; cases e
  have hhid : ∀ a, s.heap.get? a = none → ¬ g.hid a := fun a e w => by
    obtain ⟨o, e'⟩ := X.rel.hid a w; rw [e] at e'; cases e'
  have fpD : ∀ a, fp a → a < D := fun a q => by obtain ⟨o, e, _⟩ := IT.flds 0 _ a hst q; exact lt2 a o e
  have cellsIn : ∀ x a, env.cells.lookup x = some a → ∃ o, s.heap.get? a = some o := fun x a e => let ⟨o, u, h1, _⟩ := X.loc.cell x a e; ⟨o, h1⟩
  have ownC : ∀ a, Own (compEnvC csc cl C env) a → a = C ∨ ∃ o, s.heap.get? a = some o := fun a w => by
    rcases w with w | ⟨x, e⟩
    · exact .inl w
    · exact .inr (cellsIn x a (hcl x a e))
  have fpOwn : ∀ a, fp a → ¬ Own (compEnvC csc cl C env) a := fun a q w => by
    rcases ownC a w with z | ⟨o, z⟩
    · have q' := fpD a q; rw [z, hCD] at q'; exact absurd q' (Nat.not_lt.mpr (Nat.le_succ D))
    · rw [(hfp a q).1] at z; cases z
  have DOwn : ¬ Own (compEnvC csc cl C env) D := fun w => by
    rcases ownC D w with z | ⟨o, z⟩
    · exact hDC z
    · rw [hDs] at z; cases z
  have writes : Writes (· = C) csc (compEnvC csc cl C env) := ⟨fun a q => .inl q, fun n k a hm q1 q2 hk => by
    cases k with
    | «local» => exact q1 rfl
    | cell => exact absurd rfl (hcell _ hm)
    | _ => cases hk⟩
  have target_tup : tup = true → ∃ es m p, target = .Tuple es m p := fun q => by
    have := htt q
    cases ht with
    | name _ _ => cases this
    | tup _ => exact ⟨_, _, _, rfl⟩
  have XC : ∀ {k acc ℓ' s' σ'}, Blk g csc cl env s σ fp St D C k acc ℓ' s' σ' → Cx g csc r true A (compEnvC csc cl C env) s'.heap σ' ℓ' := fun {k acc ℓ' s' σ'} b =>
    ⟨X.gok, comp_env X ok, b.loc, X.fr.step b.ext (fun _ _ n => n.elim), X.room, b.rel⟩
  -- a step that keeps what is not owned
  have stepE : ∀ {k acc ℓ' s' σ' s'' σ''}, Blk g csc cl env s σ fp St D C k acc ℓ' s' σ' → Ext No s'.heap σ' s''.heap σ'' → Rel g s''.heap σ'' → Same s' s'' → Blk g csc cl env s σ fp St D C k acc ℓ' s'' σ'' := fun {k acc ℓ' s' σ' s'' σ''} b x R hs => by
    have tk : TupsKept g s'.heap s''.heap := x.tuples b.rel noSeq_no
    obtain ⟨vs, n, e, hv⟩ := b.dl
    refine ⟨IT.stab _ _ _ b.st tk fun a o q e => ?_, ⟨vs, n, (x.keep D _ e b.offD id).exact (fun _ _ => Data.noConfusion), VRs.mono tk hv⟩, b.loc.step b.rel x, R, b.ext.trans x, b.same.trans hs, fun a q => ?_, x.off e b.offD⟩
    · refine (x.keep a o e (b.off a q) id).exact fun es m d => ?_
      obtain ⟨o', e', z⟩ := IT.flds _ _ a b.st q
      rw [e] at e'; cases e'
      rcases z with z | ⟨us, z⟩
      · exact hhid a (hfp a q).1 z
      · rw [d] at z; cases z
    · obtain ⟨o', e', z⟩ := IT.flds _ _ a b.st q
      exact x.off e' (b.off a q)
  have loop : ∀ s₃ : Shared, s₃ = { s₂ with heap := h₁, toks := s₂.toks + ([] : List (Str × Value)).length } →
      codeAny (model g.prog g.w) A (.compLoop (.ListComp elt [⟨target, iter, ifs, 0⟩] csc pos) 0 (.ref I) (.ref D) (compEnvC csc cl C env)) (RR (.ref D) C) s₃ := by
    rintro s₃ rfl
    have B0 : Blk g csc cl env s σ fp St D C 0 [] (ℓ.outer csc) { s₂ with heap := h₁, toks := s₂.toks + ([] : List (Str × Value)).length } σ₁ := by
      have k1 : ∀ a o, s₂.heap.get? a = some o → h₁.get? a = some o := old
      have X1 : Cx g sc r true A env h₁ σ₁ ℓ := X.step (hR.keeps k1) (hx.trans (.keeps k1))
      refine ⟨IT.stab _ _ _ hst (fun a o _ _ _ e _ _ => .of (k1 a o e)) fun a o _ e => k1 a o e, ⟨#[], 0, hacc, VRs_nil⟩, ?_, hR.keeps k1, hx.trans (.keeps k1), hsm.trans ⟨rfl, rfl, rfl⟩, fun a q => (hfp a q).2, hR.fresh (fresh2 D (Nat.le_refl _))⟩
      refine comp_loc X1 ok hcl hcl' hns₁ (hR.fresh (fresh2 C (by omega))) (b0 C hCs) (fun x a e z => ?_) (fun n v e q => ?_) (fun n v e q => ?_)
      · obtain ⟨o, e'⟩ := cellsIn x a e; rw [z, hCs] at e'; cases e'
      · unfold Loc.outer at e; rw [if_pos q] at e; cases e
      · unfold Loc.outer at e; split at e
        · cases e
        · exact e
    refine compLoop_own (fun n s' => ∃ k acc σ', k ≤ items.length ∧ n = items.length - k ∧ Blk g csc cl env s σ fp St D C k acc (ℓ.outer csc) s' σ' ∧ acc.length ≤ k ∧ compT t inv tifs telt ℓ (items.drop k) acc σ' Q E) ?_ items.length
      ⟨0, [], σ₁, Nat.zero_le _, rfl, B0, Nat.le_refl _, by simpa using h⟩
    rintro n s' ⟨k, acc, σ', hk, rfl, B, hal, hl⟩
    have W : Walked g fp s'.heap σ' := ⟨B.off, fun a q => IT.flds k _ a B.st q, fun a q => b0 a (hfp a q).1⟩
    have hne : ∀ a, fp a → a ≠ D := fun a q => Nat.ne_of_lt (fpD a q)
    have extK : ∀ {s'' : Shared}, KeptBut fp s'.heap s''.heap → Ext No s.heap σ s''.heap σ' := fun {s''} kb => by
      refine ⟨fun a o e n nw => ?_, fun a o e => ?_, B.ext.dom⟩
      · refine (B.ext.keep a o e n nw).then fun o' e' => .of (kb a o' (fun q => ?_) e')
        rw [(hfp a q).1] at e; cases e
      · obtain ⟨o', e'⟩ := B.ext.pres a o e
        refine ⟨o', kb a o' (fun q => ?_) e'⟩
        rw [(hfp a q).1] at e; cases e
    obtain ⟨vs, nn, eD, hvs⟩ := B.dl
    rcases Nat.lt_or_ge k items.length with hlt | hge
    · have hd : items.drop k = items[k] :: items.drop (k + 1) := List.drop_eq_getElem_cons hlt
      rw [hd] at hl
      obtain ⟨hinv, hbind⟩ := hl
      refine wpAny_mono (IT.item k items[k] A (fun e s' => False) s' σ' target (fun v s₁ => ∃ (kb : KeptBut fp s'.heap s₁.heap), Same s' s₁ ∧ St (k + 1) s₁.heap ∧ VR g s₁.heap items[k] v) (by simp [hlt]) B.st B.rel hinv B.off target_tup
        fun v s₁ a b d e => ⟨a, b, d, e⟩) (fun rr s₁ p => ?_) fun _ _ p => p.elim
      cases rr with
      | none => exact p.elim
      | some v =>
        refine wpAny_mono p (fun _ s₂ p => ?_) fun _ _ p => p.elim
        obtain ⟨kb, hs2, hst2, hv⟩ := p
        have B2 : Blk g csc cl env s σ fp St D C (k + 1) acc (ℓ.outer csc) s₂ σ' :=
          ⟨hst2, ⟨vs, nn, kb D _ (fun q => hne D q rfl) eD, VRs.mono (W.tups kb) hvs⟩, W.loc B.loc kb fpOwn, W.rel B.rel kb fun a q w => absurd q (hhid a (hfp a w).1), extK kb, B.same.trans hs2, B.off, B.offD⟩
        refine wpAny_mono (assign_ok writes (E := fun _ _ => False) (XC B2) ht hv (bind_outer lk hbind)) (fun _ s₃ p => ?_) fun _ _ p => p.elim
        obtain ⟨ℓ₃, hL3, hR3, hx3, hs3, ℓ₄, hsub, hbody⟩ := p
        have noseq : NoSeq (· = C) s₂.heap := fun a o w => B2.loc.noSeq a o (.inl w)
        have tk3 : TupsKept g s₂.heap s₃.heap := hx3.tuples B2.rel noseq
        have B3 : Blk g csc cl env s σ fp St D C (k + 1) acc ℓ₄ s₃ σ' := by
          obtain ⟨vs2, nn2, eD2, hvs2⟩ := B2.dl
          refine ⟨IT.stab _ _ _ hst2 tk3 fun a o q e => ?_, ⟨vs2, nn2, (hx3.keep D _ eD2 B2.offD hDC).exact (fun _ _ => Data.noConfusion), VRs.mono tk3 hvs2⟩, hL3.forget hsub, hR3, B2.ext.absorb hx3 (fun a w => w ▸ hCs), B2.same.trans hs3, B2.off, B2.offD⟩
          refine (hx3.keep a o e (B2.off a q) fun w => fpOwn a q (.inl w)).exact fun es m d => ?_
          obtain ⟨o', e', z⟩ := IT.flds _ _ a hst2 q
          rw [e] at e'; cases e'
          rcases z with z | ⟨us, z⟩
          · exact hhid a (hfp a q).1 z
          · rw [d] at z; cases z
        -- what is left of a turn
        have again : ∀ {s₅ : Shared} {σ₅ : AH} {acc' : List V}, Blk g csc cl env s σ fp St D C (k + 1) acc' ℓ₄ s₅ σ₅ → acc'.length ≤ k + 1 → compT t inv tifs telt ℓ (items.drop (k + 1)) acc' σ₅ Q E →
            ∃ m, m < items.length - k ∧ ∃ k' acc σ', k' ≤ items.length ∧ m = items.length - k' ∧ Blk g csc cl env s σ fp St D C k' acc (ℓ.outer csc) s₅ σ' ∧ acc.length ≤ k' ∧ compT t inv tifs telt ℓ (items.drop k') acc σ' Q E := fun {s₅ σ₅ acc'} b hle hc => by
          refine ⟨items.length - (k + 1), by omega, k + 1, acc', σ₅, hlt, rfl, ⟨b.st, b.dl, ?_, b.rel, b.ext, b.same, b.off, b.offD⟩, hle, hc⟩
          have X5 : Cx g sc r true A env s₅.heap σ₅ ℓ := X.step b.rel b.ext
          obtain ⟨m, hn5, _⟩ := b.loc.ns
          refine comp_loc X5 ok hcl hcl' hn5 b.loc.off.1 (b0 C hCs) (fun x a e z => ?_) (fun n v e q => ?_) (fun n v e q => ?_)
          · obtain ⟨o, e'⟩ := cellsIn x a e; have z' : a = C := z; rw [z', hCs] at e'; cases e'
          · unfold Loc.outer at e; rw [if_pos q] at e; cases e
          · unfold Loc.outer at e; split at e
            · cases e
            · exact e
        refine wpAny_mono (h1.run A _ s₃ ℓ₄ σ' _ E (XC B3) hbody) (fun b s₄ p => ?_) fun e s₄ p => hEE D C e s₄ (p.back B3.ext B3.same)
        obtain ⟨b', σ₄, rfl, hR4, hx4, hs4, hq⟩ := p
        have B4 := stepE B3 hx4 hR4 hs4
        cases b' with
        | false => exact again B4 (by omega) hq
        | true =>
          rw [if_pos rfl]
          refine wpAny_mono (h2.run A _ s₄ ℓ₄ σ₄ _ E (XC B4) hq) (fun y s₅ p => ?_) fun e s₅ p => hEE D C e s₅ (p.back B4.ext B4.same)
          obtain ⟨y', σ₅, hy, hR5, hx5, hs5, hq⟩ := p
          have B5 := stepE B4 hx5 hR5 hs5
          obtain ⟨vs5, nn5, eD5, hvs5⟩ := B5.dl
          have hsz : vs5.size ≤ sizeLine := by
            have := VRs_length hvs5
            have h2 := hft.line
            simp at this; omega
          refine wpAny_list_append_plain ⟨nn5, eD5⟩ (fun h' hpl sb => ?_) hsz
          obtain ⟨n6, eD6⟩ := hpl
          have tk6 : TupsKept g s₅.heap h' := fun a o us m _ e cc d => by
            refine .of (sb.extBut a o (fun z => ?_) e)
            subst z; rw [eD5] at e; cases e; exact absurd cc (by simp)
          have pD : ∃ o, h'.get? D = some o := ⟨_, eD6⟩
          have x6 : Ext (· = D) s₅.heap σ₅ h' σ₅ := ⟨fun a o e _ nw => .of (sb.extBut a o nw e), fun a o e => by
            by_cases z : a = D
            · rw [z]; exact pD
            · exact ⟨o, sb.extBut a o z e⟩, fun a q => .inl q⟩
          have R6 : Rel g h' σ₅ := by
            refine ⟨fun a ha => ?_, fun a o e => sb.extBut a o (fun z => ?_) (hR5.base a o e), fun a ao e => ⟨(hR5.own a ao e).1, OR_mono tk6 (fun o e' => sb.extBut a o (fun z => ?_) e') (hR5.own a ao e).2⟩⟩
            · obtain ⟨o, e⟩ := hR5.hid a ha
              exact x6.pres a o e
            · rw [z, b0 D hDs] at e; cases e
            · rw [z, B5.offD] at e; cases e
          have L6 : LR g h' σ₅ (compEnvC csc cl C env) ℓ₄ := by
            have kv : ∀ {v : V} {u : Value}, VR g s₅.heap v u → VR g h' v u := VR.mono tk6
            obtain ⟨m, hn, hm⟩ := B5.loc.ns
            have hCD' : (compEnvC csc cl C env).locals ≠ D := fun z => hDC z.symm
            refine ⟨⟨m, ns_upTo hn fun o e => .of (sb.extBut _ o hCD' e), fun y v a b => let ⟨u, e, f⟩ := hm y v a b; ⟨u, e, kv f⟩⟩, fun y c e => ?_, fun y v a kk => ?_, B5.loc.off, B5.loc.offc, B5.loc.apart, B5.loc.has⟩
            · obtain ⟨o, u, e1, e2⟩ := B5.loc.cell y c e
              exact ⟨o, u, sb.extBut c o (fun z => DOwn (z ▸ .inr ⟨y, e⟩)) e1, e2⟩
            · obtain ⟨c, u, e, hc, hv⟩ := B5.loc.cells y v a kk
              exact ⟨c, u, e, cell_upTo hc fun o z => .of (sb.extBut _ o (fun z => DOwn (z ▸ .inr ⟨_, e⟩)) z), kv hv⟩
          have hvs6 : VRs g h' (acc ++ [y']) (vs5.push y).toList := by
            rw [Array.toList_push]
            exact VRs_snoc (VRs.mono tk6 hvs5) (VR.mono tk6 hy)
          refine again (s₅ := { s₅ with heap := h' }) ⟨IT.stab _ _ _ B5.st tk6 fun a o q e => sb.extBut a o (hne a q) e, ⟨_, n6, eD6, hvs6⟩, L6, R6, B5.ext.absorb x6 (fun a w => w ▸ hDs), B5.same.trans ⟨rfl, rfl, rfl⟩, B5.off, B5.offD⟩ (by simp; omega) hq
    · have hd : items.drop k = [] := List.drop_eq_nil_of_le hge
      rw [hd] at hl
      refine IT.last k A _ s' σ' _ hge (X.room.calm rfl) B.st B.rel hl.1 B.off fun s'' kb hs'' => ?_
      have hL := W.loc B.loc kb fpOwn
      obtain ⟨m, hn, _⟩ := hL.ns
      exact hRR D C s'' σ' acc hDs hCs hDC ⟨m, hn⟩ ⟨hft.le (by omega), vs, nn, kb D _ (fun q => hne D q rfl) eD, VRs.mono (W.tups kb) hvs⟩ (W.rel B.rel kb fun a q w => absurd q (hhid a (hfp a w).1)) (extK kb) (B.same.trans hs'') B.offD hL.off.1 hl.2
  exact codeAny_compStart_list (loop _ rfl) (IT.self 0 _ _ _ _ (IT.stab _ _ _ hst (fun a o _ _ _ e _ _ => .of (old a o e)) fun a o _ e => old a o e) (loop _ rfl))
end
/-! ## the comprehension as an expression, and bound to a name -/
noncomputable def tListComp (tc : Loc → AH → (List V → AH → Prop) → (Addr → AH → Prop) → Prop) : TE := fun ℓ σ Q E => tc ℓ σ (fun xs σ₁ => ∀ a, σ₁ a = none → Q (.ref a) (σ₁.set a (.list xs))) E
theorem sameBut_rel {C : Addr} {h h' : Heap} {σ : AH} (R : Rel g h σ) (hn : ∃ m, h.Ns C m) (sb : Heap.SameBut C h h') (hC : σ C = none) (hb : g.b0.get? C = none) (hh : ¬ g.hid C) : Rel g h' σ ∧ TupsKept g h h' := by
  obtain ⟨m, oC, es, ep, eC, dC, _⟩ := hn
  have tk : TupsKept g h h' := fun a o us n _ e _ d => by
    refine .of (sb.extBut a o (fun z => ?_) e)
    subst z; rw [eC] at e; cases e; rw [dC] at d; cases d
  refine ⟨⟨fun a ha => ?_, fun a o e => sb.extBut a o (fun z => ?_) (R.base a o e), fun a ao e => ⟨(R.own a ao e).1, OR_mono tk (fun o e' => sb.extBut a o (fun z => ?_) e') (R.own a ao e).2⟩⟩, tk⟩
  · obtain ⟨o, e⟩ := R.hid a ha
    exact ⟨o, sb.extBut a o (fun z => hh (z ▸ ha)) e⟩
  · rw [z, hb] at e; cases e
  · rw [z, hC] at e; cases e
theorem hnames_of (ok : scopeOk sc csc = true) : ∀ x ∈ csc.names, x.2 = .local → csc.names.lookup x.1 = some .local := fun x hx e => by
  simp only [scopeOk, Bool.and_eq_true] at ok
  exact lookup_of_apart ok.1.1.2 (e ▸ hx)
theorem sndE_comp {elt target iter : Expr} {ifs : List Expr} {pos : Pos} {t : Tgt} {ti : TI} {tifs : TB} {telt : TE} (ok : scopeOk sc csc = true) (hi : SndI g sc r true iter ti) (ht : TgtIs csc target t) (lk : locOk csc t = true) (h1 : SndT g csc r true ifs tifs) (h2 : SndE g csc r true elt telt)
    (hf : ∀ env x, foldedSetIterable iter env x = pure x) : SndE g sc r true (.ListComp elt [⟨target, iter, ifs, 0⟩] csc pos) (tListComp (tComp t ti tifs telt)) := .mk fun A env s ℓ σ Q E X h => by
  obtain ⟨cl, hclos, hcl, hcl'⟩ := closureFor_ok (comp_cells X ok)
  have b0 : ∀ a, s.heap.get? a = none → g.b0.get? a = none := fun a e => by
    cases q : g.b0.get? a with
    | none => rfl
    | some o => rw [X.rel.base a o q] at e; cases e
  have hhid : ∀ a, s.heap.get? a = none → ¬ g.hid a := fun a e w => by
    obtain ⟨o, e'⟩ := X.rel.hid a w; rw [e] at e'; cases e'
  have hk : csc.kind = .function := by simp only [scopeOk, Bool.and_eq_true] at ok; exact eq_of_beq ok.1.1.1
  rw [eval_ListComp]
  refine wpAny_comprehension_free (use := none) rfl (hf env) hclos hk (hnames_of ok) (wpAny_mono (hi.run A env s ℓ σ _ _ X h) (fun x s₁ p => wpAny_mono p (fun it s₂ p => ?_) fun _ _ p => p) fun _ _ p => p)
  obtain ⟨items, inv, I, fp, St, tup, σ₁, rfl, IT, hst, hR, hx, hsm, hfp, hft, htt, hl⟩ := p
  refine comp_core (RR := fun acc C => compPost (model g.prog g.w) A (PostX g A s σ E) none (PostE g s σ Q) acc C) X ok IT hst hR hx hsm hfp hft htt ht lk h1 h2 hcl hcl' hl (fun D C s' σ' xs hD hC hDC hn ho hR' hx' hs' oD oC hq => ?_) fun D C e s' p => ?_
  · obtain ⟨m, hn⟩ := hn
    refine ⟨m, hn, fun h' sb => ?_⟩
    obtain ⟨R2, tk⟩ := sameBut_rel hR' ⟨m, hn⟩ sb oC (b0 C hC) (hhid C hC)
    have ho' : OR g h' D (.list xs) := OR_mono tk (fun o e => sb.extBut D o hDC e) ho
    refine ⟨.ref D, σ'.set D (.list xs), VR_ref.mpr rfl, R2.claim (b0 D hD) ho', ⟨fun a o e n w => (hx'.keep a o e n w).then fun o' e' => .of (sb.extBut a o' (fun z => ?_) e'), fun a o e => ?_, fun a q => ?_⟩, hs'.trans ⟨rfl, rfl, rfl⟩, hq D oD⟩
    · rw [z, hC] at e; cases e
    · obtain ⟨o', e'⟩ := hx'.pres a o e
      exact ⟨o', sb.extBut a o' (fun z => by rw [z, hC] at e; cases e) e'⟩
    · unfold AH.set at q
      by_cases z : a = D
      · rw [z]; exact .inr hD
      · rw [if_neg z] at q; exact hx'.dom a q
  · obtain ⟨_, _, h1, _⟩ := p; exact h1.elim
noncomputable def tAssignComp (n : String) (tc : Loc → AH → (List V → AH → Prop) → (Addr → AH → Prop) → Prop) : TS := fun ℓ σ Q E => tc ℓ σ (fun xs σ₁ => ∀ a, σ₁ a = none → Q .next (ℓ.set n (.ref a)) (σ₁.set a (.list xs))) fun C σ' => E C ℓ σ'
end
section
open PySem PyProof.Rows
variable {g : Gr} {sc csc : Scope} {r : Nat} {c : Bool}
theorem sndS_assignComp {n : String} {k : NameKind} {p' pos spos : Pos} {elt target iter : Expr} {ifs : List Expr} {t : Tgt} {ti : TI} {tifs : TB} {telt : TE} (hm : (Str.ofString n, k) ∈ sc.names) (hk : (k == .local || k == .cell) = true)
    (ok : scopeOk sc csc = true) (hi : SndI g sc r true iter ti) (ht : TgtIs csc target t) (lk : locOk csc t = true) (h1 : SndT g csc r true ifs tifs) (h2 : SndE g csc r true elt telt)
    (hf : ∀ env x, foldedSetIterable iter env x = pure x) : SndS g sc r true (.Assign [.Name (Str.ofString n) p'] (.ListComp elt [⟨target, iter, ifs, 0⟩] csc pos) spos) (tAssignComp n (tComp t ti tifs telt)) := .mk fun A env s ℓ σ Q E X h => by
  have hsw : ∃ b, swapsWith (.ListComp elt [⟨target, iter, ifs, 0⟩] csc pos) (some (.Name (Str.ofString n) p')) spos.line env = pure b := ⟨_, rfl⟩
  obtain ⟨b, hsw⟩ := hsw
  cases b with
  | false =>
    refine wpAny_Assign_Name (wpAny_mono ((sndE_comp (pos := pos) ok hi ht lk h1 h2 hf).run A env s ℓ σ (fun v σ' => Q .next (ℓ.set n v) σ') (fun C σ' => E C ℓ σ') X h) (fun v s₁ p => ?_) fun _ _ p => p.toS X) hsw
    obtain ⟨x, σ₁, hv, hR, hx, hs, hq⟩ := p
    exact store_ok (X.step hR hx) hm hk hv fun s' a _ _ w hL hR' hx' hs' => ⟨.next, _, σ₁, rfl, hL, hR', hx.own.trans (hx'.weaken fun b z => z ▸ w), hs.trans hs', hq⟩
  | true =>
    obtain ⟨cl, hclos, hcl, hcl'⟩ := closureFor_ok (comp_cells X ok)
    have b0 : ∀ a, s.heap.get? a = none → g.b0.get? a = none := fun a e => by
      cases q : g.b0.get? a with
      | none => rfl
      | some o => rw [X.rel.base a o q] at e; cases e
    have hhid : ∀ a, s.heap.get? a = none → ¬ g.hid a := fun a e w => by
      obtain ⟨o, e'⟩ := X.rel.hid a w; rw [e] at e'; cases e'
    have hkd : csc.kind = .function := by simp only [scopeOk, Bool.and_eq_true] at ok; exact eq_of_beq ok.1.1.1
    rw [exec_Assign_Name_used _ _ _ _ hsw]
    refine wpAny_bind (wpAny_standAt (wpAny_bind ?_))
    show wpAny _ A (do let _ ← comprehension (.ListComp elt [⟨target, iter, ifs, 0⟩] csc pos) csc env _ (newList []) false (eval iter env) (some (assign (.Name (Str.ofString n) p') env))) _ _ s
    refine wpAny_bind (wpAny_mono (wpAny_comprehension_free (use := some (assign (.Name (Str.ofString n) p') env)) (Q := fun _ s' => PostS g env s σ Q .next s') (E := PostXS g A env s σ E) rfl (hf env) hclos hkd (hnames_of ok)
      (wpAny_mono (hi.run A env s ℓ σ _ _ X h) (fun x s₁ p => wpAny_mono p (fun it s₂ p => ?_) fun _ _ p => p.toS X) fun _ _ p => p.toS X)) (fun _ s' hq => wpAny_pure (wpAny_pure hq)) fun _ _ e => e)
    obtain ⟨items, inv, I, fp, St, tup, σ₁, rfl, IT, hst, hR, hx, hsm, hfp, hft, htt, hl⟩ := p
    refine comp_core (RR := fun acc C => compPost (model g.prog g.w) A (PostXS g A env s σ E) (some (assign (.Name (Str.ofString n) p') env)) (fun _ s' => PostS g env s σ Q .next s') acc C) X ok IT hst hR hx hsm hfp hft htt ht lk h1 h2 hcl hcl' hl (fun D C s' σ' xs hD hC hDC hn ho hR' hx' hs' oD oC hq => ?_) fun D C e s' p => ?_
    · obtain ⟨m, hn⟩ := hn
      have R1 : Rel g s'.heap (σ'.set D (.list xs)) := hR'.claim (b0 D hD) ho
      have x1 : Ext No s.heap σ s'.heap (σ'.set D (.list xs)) := ⟨hx'.keep, hx'.pres, fun a q => by
        unfold AH.set at q
        by_cases z : a = D
        · rw [z]; exact .inr hD
        · rw [if_neg z] at q; exact hx'.dom a q⟩
      have X1 : Cx g sc r true A env s'.heap (σ'.set D (.list xs)) ℓ := X.step R1 x1
      have oC1 : (σ'.set D (.list xs)) C = none := by unfold AH.set; rw [if_neg (Ne.symm hDC)]; exact oC
      show wpAny _ A (assign (.Name (Str.ofString n) p') env (.ref D)) _ _ _
      refine wpAny_assign_Name (store_ok X1 hm hk (VR_ref.mpr rfl) fun s'' a _ _ w hL hR'' hx'' hs'' => ?_)
      have hCa : C ≠ a := fun z => by
        obtain ⟨o, e⟩ := Own.present X.loc w
        rw [← z, hC] at e; cases e
      have hn'' : s''.heap.Ns C m := ns_upTo hn fun o e => hx''.keep C o e oC1 hCa
      refine ⟨m, hn'', fun h' sb => ?_⟩
      obtain ⟨R2, tk⟩ := sameBut_rel hR'' ⟨m, hn''⟩ sb oC1 (b0 C hC) (hhid C hC)
      have hOC : ¬ Own env C := fun w => by obtain ⟨o, e⟩ := Own.present X.loc w; rw [hC] at e; cases e
      have kv : ∀ {v : V} {u : Value}, VR g s''.heap v u → VR g h' v u := VR.mono tk
      have L2 : LR g h' (σ'.set D (.list xs)) env (ℓ.set n (.ref D)) := by
        obtain ⟨m2, hn2, hm2⟩ := hL.ns
        refine ⟨⟨m2, ns_upTo hn2 fun o e => .of (sb.extBut _ o (fun z => hOC (.inl z.symm)) e), fun y v a b => let ⟨u, e, f⟩ := hm2 y v a b; ⟨u, e, kv f⟩⟩, fun y c e => ?_, fun y v a kk => ?_, hL.off, hL.offc, hL.apart, hL.has⟩
        · obtain ⟨o, u, e1, e2⟩ := hL.cell y c e
          exact ⟨o, u, sb.extBut c o (fun z => hOC (z ▸ .inr ⟨y, e⟩)) e1, e2⟩
        · obtain ⟨c, u, e, hc, hv⟩ := hL.cells y v a kk
          exact ⟨c, u, e, cell_upTo hc fun o z => .of (sb.extBut _ o (fun z => hOC (z ▸ .inr ⟨_, e⟩)) z), kv hv⟩
      have xa : Ext (Own env) s.heap σ s''.heap (σ'.set D (.list xs)) := x1.own.trans (hx''.weaken fun b z => z ▸ w)
      refine ⟨.next, _, _, rfl, L2, R2, ⟨fun a o e n nw => (xa.keep a o e n nw).then fun o' e' => .of (sb.extBut a o' (fun z => ?_) e'), fun a o e => ?_, xa.dom⟩, (hs'.trans hs'').trans ⟨rfl, rfl, rfl⟩, hq D oD⟩
      · rw [z, hC] at e; cases e
      · obtain ⟨o', e'⟩ := xa.pres a o e
        exact ⟨o', sb.extBut a o' (fun z => by rw [z, hC] at e; cases e) e'⟩
    · obtain ⟨_, _, h1, _⟩ := p; exact h1.elim
end
section
open PySem PyProof.Rows
variable {g : Gr} {sc csc : Scope} {r : Nat} {c : Bool}
noncomputable abbrev TF := List V → AH → (V → AH → Prop) → (Addr → AH → Prop) → Prop
/-- the frames of the callers -/
noncomputable def FrL (g : Gr) (A : Around) (h : Heap) (σ : AH) : Prop := ∃ l, A.frames = some l ∧ h.FunFrames g.b0 l ∧ ∀ e ∈ l, ∀ f, e.frame = some f → σ f = none
theorem FrOk.frl {A : Around} {env : Env} {h : Heap} {σ : AH} (F : FrOk g A env h σ) : FrL g A h σ := let ⟨e0, outer, h1, h2, h3, h4, _⟩ := F; ⟨_, h1, h3, h4⟩
/-- a value that is called with values -/
structure SndF (g : Gr) (r : Nat) (f : Value) (t : TF) : Prop where
  run : ∀ A s σ xs vs Q E, GOk g → FrL g A s.heap σ → Room A r true → Rel g s.heap σ → VRs g s.heap xs vs → t xs σ Q E →
  wpAny (model g.prog g.w) A (call f vs []) (PostE g s σ Q) (PostX g A s σ E) s
/-- the same of a function's own code -/
structure SndC (g : Gr) (r : Nat) (f : Value) (t : TF) : Prop where
  run : ∀ A s σ xs vs Q E, GOk g → FrL g A s.heap σ → Room A r true → Rel g s.heap σ → VRs g s.heap xs vs → t xs σ Q E →
  codeAny (model g.prog g.w) A (.call f ⟨vs, []⟩) (fun r s' => match r with | .ok (.ret v) => PostE g s σ Q v s' | .ok _ => False | .error e => PostX g A s σ E e s') s
theorem SndC.toF {r : Nat} {f : Value} {t : TF} (h : SndC g r f t) : SndF g r f t := .mk fun A s σ xs vs Q E G F R Re Vs T => wpAny_call (h.run A s σ xs vs Q E G F R Re Vs T)
theorem SndC.mono {r : Nat} {f : Value} {t t' : TF} (h : SndC g r f t) (k : ∀ xs σ Q E, t' xs σ Q E → t xs σ Q E) : SndC g r f t' := .mk fun A s σ xs vs Q E G F R Re Vs T => h.run A s σ xs vs Q E G F R Re Vs (k _ _ _ _ T)
theorem SndF.le {r r' : Nat} {f : Value} {t : TF} (h : SndF g r f t) (k : r ≤ r') : SndF g r' f t := .mk fun A s σ xs vs Q E G F R => h.run A s σ xs vs Q E G F (R.le k)
/-- what is asked of a function's scope; checked by computation -/
noncomputable def fnOk (sc : Scope) (ps : List String) : Bool := sc.kind == .function && namesApart sc.names && !sc.isGenerator && !sc.isCoroutine &&
  (sc.names.all fun x => x.2 != .free && x.1 != ("__debug__" : Str) && x.1 != ("__classdict__" : Str)) &&
  (ps.all fun p => sc.names.any fun y => y.1 == Str.ofString p && (y.2 == .local || y.2 == .cell))
theorem cellsFrom_has : ∀ (names : List (Str × NameKind)) (b : Nat) (acc : List (Str × Addr)) (x : Str), (x, NameKind.cell) ∈ names ∨ (acc.lookup x).isSome = true → ((cellsFrom b names acc).lookup x).isSome = true
  | [], b, acc, x, h => by
    rcases h with h | h
    · cases h
    · exact h
  | (n, k) :: rest, b, acc, x, h => by
    unfold cellsFrom
    split
    · refine cellsFrom_has rest _ _ x ?_
      rcases h with h | h
      · cases h with
        | head => right; simp [List.lookup_cons]
        | tail _ h => exact .inl h
      · right
        rw [List.lookup_cons]
        split
        · rfl
        · exact h
    · rename_i hk
      refine cellsFrom_has rest _ _ x ?_
      rcases h with h | h
      · cases h with
        | head => simp at hk
        | tail _ h => exact .inl h
      · exact .inr h
noncomputable def Loc.empty : Loc := fun _ => none
/-- the binding of parameters bears the names' values -/
theorem bind_rel {h : Heap} {kd : Str → Option NameKind} : ∀ {ps : List String} {xs : List V} {vs : List Value} {m cm : Str → Option Value} {ℓ : Loc}, (∀ n v, ℓ n = some v → kd (Str.ofString n) = some .local → ∃ u, m (Str.ofString n) = some u ∧ VR g h v u) →
    (∀ n v, ℓ n = some v → kd (Str.ofString n) = some .cell → ∃ u, cm (Str.ofString n) = some u ∧ VR g h v u) → VRs g h xs vs → xs.length = ps.length →
    (∀ n v, ℓ.setAll ps xs n = some v → kd (Str.ofString n) = some .local → ∃ u, bindL kd ((ps.map Str.ofString).zip vs) m (Str.ofString n) = some u ∧ VR g h v u) ∧
    (∀ n v, ℓ.setAll ps xs n = some v → kd (Str.ofString n) = some .cell → ∃ u, bindC kd ((ps.map Str.ofString).zip vs) cm (Str.ofString n) = some u ∧ VR g h v u)
  | [], xs, vs, m, cm, ℓ, h1, h2, hv, hl => by
    cases xs with
    | nil => exact ⟨h1, h2⟩
    | cons _ _ => simp at hl
  | p :: ps, [], vs, m, cm, ℓ, h1, h2, hv, hl => by simp at hl
  | p :: ps, x :: xs, vs, m, cm, ℓ, h1, h2, hv, hl => by
    obtain ⟨v, vs, rfl, hx, hxs⟩ := VRs_cons_inv hv
    show (∀ n w, (ℓ.set p x).setAll ps xs n = some w → _ → ∃ u, bindL kd ((ps.map Str.ofString).zip vs) (if kd (Str.ofString p) = some .local then fun y => if y = Str.ofString p then some v else m y else m) (Str.ofString n) = some u ∧ _) ∧
      (∀ n w, (ℓ.set p x).setAll ps xs n = some w → _ → ∃ u, bindC kd ((ps.map Str.ofString).zip vs) (if kd (Str.ofString p) = some .local then cm else fun y => if y = Str.ofString p then some v else cm y) (Str.ofString n) = some u ∧ _)
    refine bind_rel (fun n w e k => ?_) (fun n w e k => ?_) hxs (by simpa using hl)
    · unfold Loc.set at e
      by_cases z : n = p
      · subst z; rw [if_pos rfl] at e; cases e
        rw [if_pos k]; exact ⟨v, by simp, hx⟩
      · rw [if_neg z] at e
        obtain ⟨u, e1, e2⟩ := h1 n w e k
        refine ⟨u, ?_, e2⟩
        split
        · exact (if_neg fun q => z (ofString_inj q)).trans e1
        · exact e1
    · unfold Loc.set at e
      by_cases z : n = p
      · subst z; rw [if_pos rfl] at e; cases e
        rw [if_neg (by rw [k]; simp)]; exact ⟨v, by simp, hx⟩
      · rw [if_neg z] at e
        obtain ⟨u, e1, e2⟩ := h2 n w e k
        refine ⟨u, ?_, e2⟩
        split
        · exact e1
        · exact (if_neg fun q => z (ofString_inj q)).trans e1
/-- a function with a body -/
noncomputable def tFun (ps : List String) (tb : TS) : TF := fun xs σ Q E => xs.length = ps.length ∧ tb (Loc.empty.setAll ps xs) σ (fun f _ σ' => match f with
  | .ret v => ∃ σ'', (∀ a o, σ'' a = some o → σ' a = some o) ∧ Q v σ''
  | _ => ∃ σ'', (∀ a o, σ'' a = some o → σ' a = some o) ∧ Q .none σ'') fun C _ σ' => ∃ σ'', (∀ a o, σ'' a = some o → σ' a = some o) ∧ E C σ''
theorem sndC_fd {a : Addr} {o : Obj} {fd : FuncData} {body : List Stmt} {ps : List String} {tb : TS} (ho : g.b0.get? a = some o) (hd : o.data = .func fd) (hcd : g.b0.CodeRec fd.code fd.qualname) (hbody : fd.body = .stmts body)
    (hbind : ∀ vs : List Value, vs.length = ps.length → bindArgs fd ⟨vs, []⟩ = pure ((ps.map Str.ofString).zip vs)) (hclo : fd.closure = []) (hgl : fd.globals = mainGlobals) (hbl : fd.builtins = builtinsNs) (ok : fnOk fd.scope ps = true)
    (hb : SndSs g fd.scope r true body tb) : SndC g (r + 1) (.ref a) (tFun ps tb) := .mk fun A s σ xs vs Q E G F Rm R hv h => by
  obtain ⟨hlen, h⟩ := h
  have hlv : vs.length = ps.length := (VRs_length hv) ▸ hlen
  simp only [fnOk, Bool.and_eq_true] at ok
  obtain ⟨⟨⟨⟨⟨ok1, ok2⟩, ok5⟩, ok6⟩, ok3⟩, ok4⟩ := ok
  have hk : fd.scope.kind = .function := eq_of_beq ok1
  have keepCode : s.heap.CodeRec fd.code fd.qualname := hcd.keeps R.base
  have kdOf : ∀ p ∈ ps, fd.scope.names.lookup (Str.ofString p) = some .local ∨ fd.scope.names.lookup (Str.ofString p) = some .cell := fun p hp => by
    have := List.all_eq_true.mp ok4 p hp
    simp only [List.any_eq_true, Bool.and_eq_true] at this
    obtain ⟨⟨y, j⟩, hy, e, hj⟩ := this
    have e' : y = Str.ofString p := eq_of_beq e
    subst e'
    rw [lookup_of_apart ok2 hy]
    cases j <;> simp at hj <;> simp
  refine codeAny_call_cells (body := body) (Rm.room) (R.base a o ho) hd (G.nolimit.keeps R.base) keepCode hbody (hbind vs hlv) hclo (fun x hx => ?_) (fun s₁ IC => ?_) (by simpa using ok6) (by simpa using ok5) hk
  · have hx1 : x.1 ∈ ps.map Str.ofString := List.of_mem_zip (a := x.1) (b := x.2) hx |>.1
    obtain ⟨p, hp, e⟩ := List.mem_map.mp hx1
    rcases kdOf p hp with q | q
    · exact .inl (e ▸ q)
    · exact .inr ⟨e ▸ q, e ▸ cellsFrom_has _ _ _ _ (.inl (mem_of_lookup q))⟩
  · generalize hE : callEnvC fd s.heap.objs.size a = env at IC ⊢
    have hsc : env.scope = fd.scope := by rw [← hE]; rfl
    have hloc : env.locals = s.heap.objs.size := by rw [← hE]; rfl
    have hcs : env.cells = cellsFrom (s.heap.objs.size + 1) fd.scope.names [] := by rw [← hE]; rfl
    have hfrm : env.frame = some s.heap.objs.size := by rw [← hE]; rfl
    have hglo : env.globals = mainGlobals := by rw [← hE]; exact hgl
    have hblt : env.builtins = builtinsNs := by rw [← hE]; exact hbl
    obtain ⟨h1, tk, rfl⟩ := IC.toInCall.same
    have kp := IC.toInCall.keep
    have kdE : ∀ x, env.kindOf x = fd.scope.names.lookup x := fun x => by show env.scope.names.lookup x = _; rw [hsc]
    have above : ∀ x cc, env.cells.lookup x = some cc → s.heap.objs.size < cc := fun x cc e => by rw [← hloc]; exact IC.above x cc (PySem.mem_of_lookup e)
    have freshC : ∀ x cc, env.cells.lookup x = some cc → s.heap.get? cc = none := fun x cc e => Heap.get?_none_of_le (Nat.le_of_lt (above x cc e))
    have freshL : s.heap.get? env.locals = none := by rw [hloc]; exact size_fresh _
    have b0 : ∀ a, s.heap.get? a = none → g.b0.get? a = none := fun a e => by
      cases q : g.b0.get? a with
      | none => rfl
      | some o => rw [R.base a o q] at e; cases e
    have tk1 : TupsKept g s.heap h1 := fun a o _ _ _ e _ _ => .of (kp a o e)
    obtain ⟨br1, br2⟩ := bind_rel (kd := env.kindOf) (ℓ := Loc.empty) (m := fun _ => none) (cm := fun _ => none) (ps := ps) (xs := xs) (vs := vs) (h := h1) (g := g) (fun n v e => nomatch e) (fun n v e => nomatch e) (VRs.mono tk1 hv) hlen
    have noFree : ∀ x, env.kindOf x ≠ some .free := fun x e => by
      rw [kdE] at e
      have := List.all_eq_true.mp ok3 _ (mem_of_lookup e)
      simp at this
    have L1 : LR g h1 σ env (Loc.empty.setAll ps xs) := by
      refine ⟨⟨_, IC.toInCall.ns, br1⟩, fun x cc e => ?_, fun n v e k => ?_, ⟨R.fresh freshL, b0 _ freshL⟩, fun x cc e => ⟨R.fresh (freshC x cc e), ?_, b0 _ (freshC x cc e)⟩, fun x y cc e1 e2 => ?_, fun x k => ?_⟩
      · obtain ⟨o, e1, e2⟩ := IC.cell x cc e; exact ⟨o, _, e1, e2⟩
      · rcases k with k | k
        · obtain ⟨u, e1, e2⟩ := br2 n v e k
          have : ((cellsFrom (s.heap.objs.size + 1) fd.scope.names []).lookup (Str.ofString n)).isSome = true := cellsFrom_has _ _ _ _ (.inl (mem_of_lookup (by rw [← kdE]; exact k)))
          obtain ⟨cc, hcc⟩ := Option.isSome_iff_exists.mp this
          have hcc' : env.cells.lookup (Str.ofString n) = some cc := by rw [hcs]; exact hcc
          exact ⟨cc, u, hcc', e1 ▸ IC.cell _ cc hcc', e2⟩
        · exact absurd k (noFree _)
      · rw [hloc]; exact Nat.ne_of_gt (above x cc e)
      · exact name_of_addr IC.apart (PySem.mem_of_lookup e1) (PySem.mem_of_lookup e2)
      · rcases k with k | k
        · have : ((cellsFrom (s.heap.objs.size + 1) fd.scope.names []).lookup x).isSome = true := cellsFrom_has _ _ _ _ (.inl (mem_of_lookup (by rw [← kdE]; exact k)))
          obtain ⟨cc, hcc⟩ := Option.isSome_iff_exists.mp this
          exact ⟨cc, by rw [hcs]; exact hcc⟩
        · exact absurd k (noFree _)
    have R1 : Rel g h1 σ := R.keeps kp
    have x1 : Ext No s.heap σ h1 σ := .keeps kp
    have F1 : FrOk g (A.deeper env) env h1 σ := by
      obtain ⟨l, hl, ff, off⟩ := F
      have hns : ∃ o, h1.get? env.locals = some o ∧ ∀ vs, o.data ≠ .fields vs := L1.noFields (.inl rfl)
      refine ⟨env, l, by show A.frames.map (env :: ·) = _; rw [hl]; rfl, rfl, ⟨by rw [hsc, hk]; decide, ⟨s.heap.objs.size, ?_⟩, ?_⟩, fun e he f hf => ?_, by rw [hsc]; simpa using ok5, by rw [hsc]; simpa using ok6, hblt, hglo⟩
      · obtain ⟨o, e, d⟩ := hns
        exact ⟨o, hfrm, b0 _ (size_fresh _), hloc ▸ e, d⟩
      · exact ff.of_keeps fun b o e _ => ⟨o, kp b o e, rfl⟩
      · cases he with
        | head => rw [hfrm] at hf; cases hf; exact R.fresh (size_fresh _)
        | tail _ q => exact off e q f hf
    have X1 : Cx g fd.scope r true (A.deeper env) env h1 σ (Loc.empty.setAll ps xs) := by
      refine ⟨G, ⟨fun x k hm => .inl ?_, fun x k hm => ?_, by rw [hsc]; exact hk, hglo, hblt⟩, L1, F1, Rm.deeper env, R1⟩
      · rw [kdE]; exact lookup_of_apart ok2 hm
      · have := List.all_eq_true.mp ok3 _ hm
        simp only [Bool.and_eq_true] at this
        exact ⟨by simpa using this.1.2, by simpa using this.2⟩
    have freshOwn : ∀ b, Own env b → s.heap.get? b = none := fun b w => by
      rcases w with rfl | ⟨x, e⟩
      · exact freshL
      · exact freshC x b e
    refine wpAny_mono (hb.run (A.deeper env) env { s with heap := h1, toks := tk } _ σ _ _ X1 h) (fun f s' p => ?_) fun e s' p => ?_
    · obtain ⟨f', ℓ', σ', hf', _, hR', hx', hs', hq⟩ := p
      have fin : ∀ {x : V} {u : Value}, VR g s'.heap x u → (∃ σ'', (∀ a o, σ'' a = some o → σ' a = some o) ∧ Q x σ'') → PostE g s σ Q u s' := fun {x u} hu q => by
        obtain ⟨σ'', hsub, hq⟩ := q
        exact ⟨x, σ'', hu, hR'.forget hsub, (x1.absorb hx' freshOwn).forget hsub, Same.trans ⟨rfl, rfl, rfl⟩ hs', hq⟩
      cases f' with
      | ret v => obtain ⟨u, rfl, hu⟩ := hf'; exact fin hu hq
      | next => cases hf'; exact fin (VR_none.mpr rfl) hq
      | brk => cases hf'; exact fin (VR_none.mpr rfl) hq
      | cont => cases hf'; exact fin (VR_none.mpr rfl) hq
    · obtain ⟨_, _, _, hX, _⟩ := p; exact hX.elim
theorem sndC_def {a : Addr} {o : Obj} {nm q : Str} {pa : Arguments} {body : List Stmt} {scp : Scope} {gl : Addr} {clo : List (Str × Addr)} {dv kd doc pm : Value} {an : Option Addr} {cd ct : Value} {bl : Addr} {ps : List String} {tb : TS} (ho : g.b0.get? a = some o)
    (hd : o.data = .func ⟨nm, q, pa, .stmts body, scp, gl, clo, dv, kd, doc, pm, an, cd, ct, bl⟩) (hcd : g.b0.CodeRec cd q) (hbody : FuncBody.stmts body = .stmts body)
    (hbind : ∀ vs : List Value, vs.length = ps.length → bindArgs ⟨nm, q, pa, .stmts body, scp, gl, clo, dv, kd, doc, pm, an, cd, ct, bl⟩ ⟨vs, []⟩ = pure ((ps.map Str.ofString).zip vs)) (hclo : clo = []) (hgl : gl = mainGlobals) (hbl : bl = builtinsNs) (ok : fnOk scp ps = true)
    (hb : SndSs g scp r true body tb) : SndC g (r + 1) (.ref a) (tFun ps tb) := sndC_fd ho hd hcd hbody hbind hclo hgl hbl ok hb
end
section
open PySem PyProof.Rows
variable {g : Gr} {sc csc : Scope} {r : Nat} {c : Bool}
/-! ## global names -/
noncomputable def Glo (g : Gr) (n : String) (v : Value) : Prop := ∃ mg, g.b0.Ns mainGlobals mg ∧ mg (Str.ofString n) = some v
noncomputable def Bui (g : Gr) (n : String) (v : Value) : Prop := ∃ mg mb, g.b0.Ns mainGlobals mg ∧ mg (Str.ofString n) = none ∧ g.b0.Ns builtinsNs mb ∧ mb (Str.ofString n) = some v
noncomputable def Known (g : Gr) (n : String) (v : Value) : Prop := Glo g n v ∨ Bui g n v
theorem name_global {A : Around} {env : Env} {s : Shared} {σ : AH} {ℓ : Loc} {n : String} {v : Value} {pos : Pos} {E : Value → Shared → Prop} {Q : Value → Shared → Prop} (X : Cx g sc r c A env s.heap σ ℓ) (hm : (Str.ofString n, NameKind.globalImplicit) ∈ sc.names) (hk : Known g n v) (h : Q v s) :
    wpAny (model g.prog g.w) A (eval (.Name (Str.ofString n) pos) env) Q E s := by
  have kd : env.kindOf (Str.ofString n) = some .globalImplicit := by
    rcases X.ok.kinds _ _ hm with q | ⟨q, _⟩
    · exact q
    · cases q
  refine Calls.Name_function_global X.ok.kind kd ?_ (X.ok.plain _ _ hm).1
  rcases hk with ⟨mg, h1, h2⟩ | ⟨mg, mb, h1, h2, h3, h4⟩
  · exact Calls.loadGlobal_global (by rw [X.ok.globals]; exact h1.at' fun o e => X.rel.base _ o e) h2 h
  · exact Calls.loadGlobal_builtin (by rw [X.ok.globals]; exact h1.at' fun o e => X.rel.base _ o e) h2 (by rw [X.ok.builtins]; exact h3.at' fun o e => X.rel.base _ o e) h4 h
theorem sndE_global {n : String} {pos : Pos} {v : Value} {x : V} (hm : (Str.ofString n, NameKind.globalImplicit) ∈ sc.names) (hk : Known g n v) (hx : ∀ h, VR g h x v) : SndE g sc r c (.Name (Str.ofString n) pos) (tConst x) := .mk fun A env s ℓ σ Q E X h =>
  name_global X hm hk (.here (hx _) X.rel h)
/-! ## calls by name -/
noncomputable def Plain (es : List Expr) : Prop := (es.all fun e => !isStar e) = true
theorem Plain.any : ∀ {es : List Expr}, Plain es → ∀ env, (starEach es env).any (·.1) = false
  | [], _, env => rfl
  | e :: es, h, env => by
    simp only [Plain, List.all_cons, Bool.and_eq_true] at h
    rw [starEach_cons env (by simpa using h.1), List.any_cons, Plain.any h.2 env]; rfl
theorem evalArgs_ok {M : Model} {A : Around} {E : Value → Shared → Prop} {s : Shared} {f : Value} {l : List (Bool × Sem Value)} {Q : Args → Shared → Prop} (hp : l.any (·.1) = false)
    (h : wpAny M A (spliced l) (fun vs s' => Q ⟨vs, []⟩ s') E s) : wpAny M A (evalArgs f true l []) Q E s := by
  match l, hp, h with
  | [], _, h =>
    unfold evalArgs
    show wpAny M A (spliced [] >>= _) Q E s
    refine wpAny_bind (wpAny_mono h (fun vs s' h' => ?_) fun _ _ x => x)
    refine wpAny_bind (wpAny_pure ?_)
    refine wpAny_holding ?_
    exact wpAny_bind (wpAny_pure (wpAny_bind (wpAny_pure (wpAny_pure h'))))
  | (false, x) :: rest, _, h => exact Calls.evalArgs_plain h
  | (true, x) :: rest, hp, _ => simp at hp
theorem backTo_plain {es : List Expr} (hp : Plain es) (pos : Pos) (env : Env) : (backTo pos (starEach es env)).any (·.1) = false := by
  have := hp.any env
  unfold backTo
  rw [List.any_map]
  exact this
/-- what is called by a name: a function, a builtin or a type -/
noncomputable def Callee (g : Gr) (v : Value) : Prop := (∃ a o fd, v = .ref a ∧ g.b0.get? a = some o ∧ o.data = .func fd) ∨ (∃ id, v = .builtin id) ∨ ∃ T, v = .type T
theorem callWith_ok {A : Around} {E : Value → Shared → Prop} {s : Shared} {pos : Pos} {f : Value} {first : List Value} {l : List (Bool × Sem Value)} {Q : Value → Shared → Prop} (hf : Callee g f) (hp : l.any (·.1) = false)
    (h : wpAny (model g.prog g.w) A (spliced l) (fun vs s' => (∀ a o, g.b0.get? a = some o → s'.heap.get? a = some o) ∧ wpAny (model g.prog g.w) A (call f (first ++ vs) []) Q E s') E s) : wpAny (model g.prog g.w) A (callWith pos f first l []) Q E s := by
  rcases hf with ⟨a, o, fd, rfl, ho, hd⟩ | ⟨id, rfl⟩ | ⟨T, rfl⟩
  · exact Calls.callWith_function (o := o) (fd := fd) (evalArgs_ok hp (wpAny_mono h (fun vs s' h' => ⟨⟨h'.1 a o ho, hd⟩, h'.2⟩) fun _ _ x => x))
  · exact Calls.callWith_builtin hp (evalArgs_ok hp (wpAny_mono h (fun vs s' h' => h'.2) fun _ _ x => x))
  · exact PySem.callWith_type hp (evalArgs_ok hp (wpAny_mono h (fun vs s' h' => h'.2) fun _ _ x => x))
noncomputable def tCall (ts : TL) (t : TF) : TE := fun ℓ σ Q E => ts ℓ σ (fun vs σ₁ => t vs σ₁ Q E) E
/-- a thing called by its name -/
noncomputable def FnG (g : Gr) (n : String) (r : Nat) (t : TF) : Prop := ∃ v, Known g n v ∧ Callee g v ∧ SndF g r v t
theorem FnG.le {n : String} {r r' : Nat} {t : TF} (h : FnG g n r t) (k : r ≤ r') : FnG g n r' t := let ⟨v, h1, h2, h3⟩ := h; ⟨v, h1, h2, h3.le k⟩
theorem sndE_call {n : String} {p pos : Pos} {args : List Expr} {ts : TL} {t : TF} (hm : (Str.ofString n, NameKind.globalImplicit) ∈ sc.names) (hf : FnG g n r t) (hL : SndL g sc r true args ts) (hp : Plain args) :
    SndE g sc r true (.Call (.Name (Str.ofString n) p) args [] pos) (tCall ts t) := .mk fun A env s ℓ σ Q E X h => by
  obtain ⟨v, hk, hc, hF⟩ := hf
  show wpAny _ A (do callWith pos (← eval (.Name (Str.ofString n) p) env) [] (backTo pos (starEach args env)) (backToKw pos (keywordEach [] env))) _ _ s
  refine wpAny_bind (name_global X hm hk ?_)
  refine callWith_ok hc (backTo_plain hp pos env) (wpAny_mono (hL.run A env pos s ℓ σ _ E X h) (fun vs s₁ p => ?_) fun _ _ p => p)
  obtain ⟨xs, σ₁, hv, hR, hx, hs, hq⟩ := p
  have X1 := X.step hR hx
  exact ⟨fun a o e => hR.base a o e, wp_back hx hs (hF.run A s₁ σ₁ xs vs Q E X.gok X1.fr.frl X1.room hR hv hq)⟩
/-! ## builtins -/
/-- only tokens were drawn -/
theorem post_value {s s' : Shared} {σ : AH} {Q : V → AH → Prop} {x : V} {v : Value} (R : Rel g s.heap σ) (e : s'.heap = s.heap) (sm : Same s s') (hv : VR g s.heap x v) (h : Q x σ) : PostE g s σ Q v s' :=
  ⟨x, σ, e ▸ hv, e ▸ R, e ▸ .refl, sm, h⟩
noncomputable def lenV (x : V) (σ : AH) : Option Nat := match x with
  | .tup xs => some xs.length
  | .frz xs => some xs.length
  | .ref a => match σ a with
    | some (.list xs) => some xs.length
    | some (.dictI kvs _) => some kvs.length
    | some (.dictS kvs _) => some kvs.length
    | _ => none
  | _ => none
noncomputable def tLen : TF := fun xs σ Q _ => match xs with | [x] => (match lenV x σ with | some n => Q (.int n) σ | none => False) | _ => False
theorem sndF_len : SndF g r (.builtin "len") tLen := .mk fun A s σ xs vs Q E G F Rm R hv h => by
  match xs, hv, h with
  | [x], hv, h =>
    obtain ⟨v, _, rfl, hx, hr⟩ := VRs_cons_inv hv
    rw [VRs_nil_inv hr]
    simp only [tLen] at h
    split at h
    · rename_i n e
      have key : ∀ (m : Nat) (tk tk' : Nat), m = n → PostE g s σ Q (.int m tk) { s with toks := tk' } := fun m tk tk' q => by subst q; exact post_value R rfl ⟨rfl, rfl, rfl⟩ (VR_int.mpr ⟨_, rfl⟩) h
      cases x with
      | tup ys =>
        obtain ⟨hf, a, o, us, m, rfl, _, ho, hc, hd, hvs⟩ := VR_tup.mp hx
        cases e
        have hl : ys.length = us.size := by rw [VRs_length hvs]; simp
        exact PyProof.Rows.len_tuple ⟨o, ho, hc, m, hd⟩ (hl ▸ hf.fit) (key _ _ _ hl.symm)
      | frz ys =>
        obtain ⟨hf, a, o, us, m, rfl, ho, hc, hd, hvs⟩ := VR_frz.mp hx
        cases e
        have hl : ys.length = us.size := by rw [VRs_length hvs]; simp
        exact PySem.Calls.call_len_list ⟨o, R.base a o ho, hc, m, hd⟩ (hl ▸ hf.fit) (key _ _ _ hl.symm)
      | ref a =>
        rw [VR_ref.mp hx]
        simp only [lenV] at e
        split at e
        · rename_i ys q
          cases e
          obtain ⟨hf, us, m, ho, hvs⟩ := (R.own a _ q).2
          have hl : ys.length = us.size := by rw [VRs_length hvs]; simp
          exact PySem.Calls.call_len_list ⟨_, ho, rfl, m, rfl⟩ (hl ▸ hf.fit) (key _ _ _ hl.symm)
        · rename_i kvs ep q
          cases e
          obtain ⟨hf, us, hd, hk, hvs⟩ := (R.own a _ q).2
          have hl : kvs.length = us.length := by have := congrArg List.length hk; simpa using this.symm
          exact call_len_dict (sysMod_ne G R q) hd.dictOf (hl ▸ hf.fit) (key _ _ _ hl.symm)
        · rename_i kvs ep q
          cases e
          obtain ⟨hf, us, hd, hk, hvs⟩ := (R.own a _ q).2
          have hl : kvs.length = us.length := by have := congrArg List.length hk; simpa using this.symm
          exact call_len_dict (sysMod_ne G R q) hd.dictOf (hl ▸ hf.fit) (key _ _ _ hl.symm)
        · cases e
      | _ => cases e
    · exact h.elim
  | [], _, h => exact h.elim
  | _ :: _ :: _, _, h => exact h.elim
end
section
open PySem PyProof.Rows
variable {g : Gr} {sc csc : Scope} {r : Nat} {c : Bool}
/-! ## max and min of ints -/
noncomputable def intsV : List V → Option (List Int)
  | [] => some []
  | .int i :: xs => (intsV xs).map (i :: ·)
  | _ => none
theorem intsV_get : ∀ {xs : List V} {ns : List Int}, intsV xs = some ns → xs = ns.map V.int
  | [], ns, h => by cases h; rfl
  | x :: xs, ns, h => by
    cases x with
    | int i =>
      simp only [intsV] at h
      cases e : intsV xs with
      | none => rw [e] at h; cases h
      | some ms => rw [e] at h; cases h; rw [intsV_get e]; rfl
    | _ => cases h
theorem intsV_map (ns : List Int) : intsV (ns.map V.int) = some ns := by
  induction ns with
  | nil => rfl
  | cons n ns ih => simp [intsV, ih]
theorem VRs_ints {h : Heap} : ∀ {ns : List Int} {vs : List Value}, VRs g h (ns.map V.int) vs → ∀ (i : Nat) (v : Value), vs[i]? = some v → ∃ t, v = Value.int (ns.getD i 0) t
  | [], vs, a, i, v, e => by rw [VRs_nil_inv a] at e; cases e
  | n :: ns, vs, a, i, v, e => by
    obtain ⟨u, us, rfl, hu, hus⟩ := VRs_cons_inv a
    cases i with
    | zero => cases e; obtain ⟨t, rfl⟩ := VR_int.mp hu; exact ⟨t, rfl⟩
    | succ i => exact VRs_ints hus i v (by simpa using e)
theorem argBest_le (bt : Nat → Nat → Bool) : ∀ k, argBest bt k ≤ k
  | 0 => Nat.le_refl _
  | k + 1 => by
    unfold argBest
    split
    · exact Nat.le_refl _
    · exact Nat.le_succ_of_le (argBest_le bt k)
theorem argBest_gt (val : Nat → Int) : ∀ k i, i ≤ k → val i ≤ val (argBest (fun i j => decide (val i > val j)) k)
  | 0, i, h => by have : i = 0 := by omega
                  subst this; exact Int.le_refl _
  | k + 1, i, h => by
    have ih := argBest_gt val k
    unfold argBest
    by_cases q : val (k + 1) > val (argBest (fun i j => decide (val i > val j)) k)
    · rw [if_pos (by simpa using q)]
      rcases Nat.lt_or_ge i (k + 1) with w | w
      · have := ih i (by omega); omega
      · have : i = k + 1 := by omega
        subst this; omega
    · rw [if_neg (by simpa using q)]
      rcases Nat.lt_or_ge i (k + 1) with w | w
      · exact ih i (by omega)
      · have : i = k + 1 := by omega
        subst this; omega
/-- the ints of a list object -/
noncomputable def listInts (x : V) (σ : AH) : Option (List Int) := match x with
  | .ref a => match σ a with | some (.list xs) => intsV xs | _ => none
  | _ => none
noncomputable def tMax : TF := fun xs σ Q _ => match xs with
  | [x] => match listInts x σ with | some ns => ns ≠ [] ∧ ∀ m, m ∈ ns → (∀ n ∈ ns, n ≤ m) → Q (.int m) σ | none => False
  | _ => False
noncomputable def tMin : TF := fun xs σ Q _ => match xs with
  | [x] => match listInts x σ with | some ns => ns ≠ [] ∧ ∀ m, m ∈ ns → (∀ n ∈ ns, m ≤ n) → Q (.int m) σ | none => False
  | _ => False
theorem listInts_at {h : Heap} {σ : AH} {x : V} {v : Value} {ns : List Int} (R : Rel g h σ) (hv : VR g h x v) (e : listInts x σ = some ns) : ∃ a vs n, v = .ref a ∧ h.get? a = some { cls := .type "list", data := .seq vs n } ∧ VRs g h (ns.map V.int) vs.toList := by
  cases x with
  | ref a =>
    simp only [listInts] at e
    split at e
    · rename_i xs q
      obtain ⟨_, vs, n, ho, hvs⟩ := (R.own a _ q).2
      rw [intsV_get e] at hvs
      exact ⟨a, vs, n, VR_ref.mp hv, ho, hvs⟩
    · cases e
  | _ => cases e
theorem best_mem {ns : List Int} {k : Nat} (h : k < ns.length) : ns.getD k 0 ∈ ns := by
  rw [List.getD_eq_getElem?_getD, List.getElem?_eq_getElem h]; exact List.getElem_mem h
theorem mem_getD {ns : List Int} {n : Int} (h : n ∈ ns) : ∃ i, i < ns.length ∧ ns.getD i 0 = n := by
  obtain ⟨i, hi, e⟩ := List.getElem_of_mem h
  exact ⟨i, hi, by rw [List.getD_eq_getElem?_getD, List.getElem?_eq_getElem hi]; exact e⟩
theorem sndF_max : SndF g r (.builtin "max") tMax := .mk fun A s σ xs vs Q E G F Rm R hv h => by
  match xs, hv, h with
  | [x], hv, h =>
    obtain ⟨v, _, rfl, hx, hr⟩ := VRs_cons_inv hv
    rw [VRs_nil_inv hr]
    simp only [tMax] at h
    split at h
    · rename_i ns e
      obtain ⟨a, us, n, rfl, ho, hus⟩ := listInts_at R hx e
      have hlen : ns.length = us.size := by have := VRs_length hus; simpa using this
      have hpos : 0 < ns.length := List.length_pos_iff.mpr h.1
      have hne : a ≠ s.heap.objs.size := Nat.ne_of_lt (Heap.lt_size ho)
      refine call_max_walk (wpAny_pyIter_list ⟨_, ho, rfl, n, rfl⟩ ?_)
      refine ⟨s.heap.objs.size, _, _, us.size, _, _, _, rfl, Walks.list (by show A.handled = none; exact Rm.calm rfl) _ a hne us, ⟨⟨_, Heap.get?_push_size _ rfl, rfl, rfl⟩, ⟨_, Heap.get?_push_of_some _ ho, rfl, n, rfl⟩⟩, ?_, by omega,
        CmpOf.ints_gt (fun i => ns.getD i 0) (fun i v q => VRs_ints hus i v (by simpa using q)), fun v h' tk q kp => ?_⟩
      · intro b hb
        simp at hb
        rcases hb with rfl | rfl
        · rw [Heap.size_push]; exact Nat.lt_succ_self _
        · rw [Heap.size_push]; exact Nat.lt_succ_of_lt (Heap.lt_size ho)
      · obtain ⟨t, rfl⟩ := VRs_ints hus (argBest (fun i j => decide (ns.getD i 0 > ns.getD j 0)) (us.size - 1)) v (by rw [Array.getElem?_toList]; exact q)
        have hb := argBest_le (fun i j => decide (ns.getD i 0 > ns.getD j 0)) (us.size - 1)
        refine .keeps (fun b o e => kp b o (fun hm => ?_) (Heap.get?_push_of_some _ e)) ⟨rfl, rfl, rfl⟩ (VR_int.mpr ⟨t, rfl⟩) R (h.2 _ (best_mem (by omega)) fun m hm => ?_)
        · simp at hm; subst hm; rw [size_fresh] at e; cases e
        · obtain ⟨i, hi, rfl⟩ := mem_getD hm
          exact argBest_gt (fun i => ns.getD i 0) (us.size - 1) i (by omega)
    · exact h.elim
  | [], _, h => exact h.elim
  | _ :: _ :: _, _, h => exact h.elim
/-! ## list() of a list or a tuple -/
noncomputable def tListOf : TF := fun xs σ Q _ => match xs with
  | [x] => match partsV x σ with | some vs => ∀ a, σ a = none → Q (.ref a) (σ.set a (.list vs)) | none => False
  | _ => False
theorem parts_at {h : Heap} {σ : AH} {x : V} {v : Value} {xs : List V} (R : Rel g h σ) (hv : VR g h x v) (e : partsV x σ = some xs) : Fits xs.length ∧ ∃ a o T vs n, v = .ref a ∧ (T = "list" ∨ T = "tuple") ∧ h.get? a = some o ∧ o.cls = .type T ∧ o.data = .seq vs n ∧ VRs g h xs vs.toList := by
  cases x with
  | tup ys => obtain ⟨hf, a, o, us, m, rfl, _, ho, hc, hd, hvs⟩ := VR_tup.mp hv; cases e; exact ⟨hf, a, o, _, us, m, rfl, .inr rfl, ho, hc, hd, hvs⟩
  | frz ys => obtain ⟨hf, a, o, us, m, rfl, ho, hc, hd, hvs⟩ := VR_frz.mp hv; cases e; exact ⟨hf, a, o, _, us, m, rfl, .inl rfl, R.base a o ho, hc, hd, hvs⟩
  | ref a =>
    simp only [partsV] at e
    split at e
    · rename_i ys q
      cases e
      obtain ⟨hf, us, n, ho, hvs⟩ := (R.own a _ q).2
      exact ⟨hf, a, _, _, us, n, VR_ref.mp hv, .inl rfl, ho, rfl, rfl, hvs⟩
    · cases e
  | _ => cases e
theorem sndF_list : SndF g r (.type "list") tListOf := .mk fun A s σ xs vs Q E G F Rm R hv h => by
  match xs, hv, h with
  | [x], hv, h =>
    obtain ⟨v, _, rfl, hx, hr⟩ := VRs_cons_inv hv
    rw [VRs_nil_inv hr]
    simp only [tListOf] at h
    split at h
    · rename_i ys e
      obtain ⟨hf, a, o, T, us, n, rfl, hT, ho, hc, hd, hus⟩ := parts_at R hx e
      have hlen : ys.length = us.size := by have := VRs_length hus; simpa using this
      refine call_list_seq a hT ho hc hd (fun h' c' kp hn => ?_) (by rw [← hlen]; exact hf.line)
      refine ⟨.ref _, _, VR_ref.mpr rfl, R.alloc (ao := .list ys) kp (size_fresh _) ⟨hf, us, c', hn, VRs.mono (fun a o _ _ _ e _ _ => .of (kp a o e)) hus⟩, .alloc kp (size_fresh _), ⟨rfl, rfl, rfl⟩, h _ (R.fresh (size_fresh _))⟩
    · exact h.elim
  | [], _, h => exact h.elim
  | _ :: _ :: _, _, h => exact h.elim
/-! ## isinstance -/
noncomputable def isiV (T : String) (v : V) (σ : AH) : Option Bool := match v with
  | .int _ => if T = "int" then some true else if T = "bool" ∨ T = "str" ∨ T = "tuple" ∨ T = "list" then some false else none
  | .bool _ => if T = "int" ∨ T = "bool" then some true else if T = "str" ∨ T = "tuple" ∨ T = "list" then some false else none
  | .str _ => if T = "str" then some true else if T = "int" ∨ T = "bool" ∨ T = "tuple" ∨ T = "list" then some false else none
  | .tup _ => if T = "tuple" then some true else if T = "list" then some false else none
  | .ref a => match σ a with
    | some (.list _) => if T = "list" then some true else if T = "tuple" ∨ T = "int" then some false else none
    | _ => none
  | _ => none
noncomputable def tIsI (T : String) (t : TE) : TE := fun ℓ σ Q E => t ℓ σ (fun v σ₁ => match isiV T v σ₁ with | some b => Q (.bool b) σ₁ | none => False) E
theorem isi_ok {A : Around} {E : Value → Shared → Prop} {s : Shared} {σ : AH} {T : String} {x : V} {v : Value} {b : Bool} {Q : V → AH → Prop} (R : Rel g s.heap σ) (hx : VR g s.heap x v) (e : isiV T x σ = some b) (h : Q (.bool b) σ) :
    wpAny (model g.prog g.w) A (call (.builtin "isinstance") [v, .type T]) (PostE g s σ Q) E s := by
  have key : ∀ tk, PostE g s σ Q (.bool b) { s with toks := tk } := fun tk => post_value R rfl ⟨rfl, rfl, rfl⟩ (VR_bool.mpr rfl) h
  have key0 : PostE g s σ Q (.bool b) s := key s.toks
  cases x with
  | int i =>
    obtain ⟨t, rfl⟩ := VR_int.mp hx
    simp only [isiV] at e
    split at e
    · rename_i q; subst q; cases e; exact IsiPair.int_int key0
    · split at e
      · rename_i q; cases e
        rcases q with rfl | rfl | rfl | rfl
        · exact IsiPair.int_bool (key _)
        · exact IsiPair.int_str (key _)
        · exact IsiPair.int_tuple (key _)
        · exact IsiPair.int_list (key _)
      · cases e
  | bool i =>
    rw [VR_bool.mp hx]
    simp only [isiV] at e
    split at e
    · rename_i q; cases e
      rcases q with rfl | rfl
      · exact IsiPair.bool_int key0
      · exact IsiPair.bool_bool key0
    · split at e
      · rename_i q; cases e
        rcases q with rfl | rfl | rfl
        · exact IsiPair.bool_str (key _)
        · exact IsiPair.bool_tuple (key _)
        · exact IsiPair.bool_list (key _)
      · cases e
  | str i =>
    obtain ⟨_, t, rfl⟩ := VR_str.mp hx
    simp only [isiV] at e
    split at e
    · rename_i q; subst q; cases e; exact IsiPair.str_str key0
    · split at e
      · rename_i q; cases e
        rcases q with rfl | rfl | rfl | rfl
        · exact IsiPair.str_int (key _)
        · exact IsiPair.str_bool (key _)
        · exact IsiPair.str_tuple (key _)
        · exact IsiPair.str_list (key _)
      · cases e
  | tup ys =>
    obtain ⟨_, a, o, us, m, rfl, _, ho, hc, hd, _⟩ := VR_tup.mp hx
    simp only [isiV] at e
    split at e
    · rename_i q; subst q; cases e; exact IsiPair.tuple_tuple ho hc key0
    · split at e
      · rename_i q; subst q; cases e; exact IsiPair.tuple_list ho hc (key _)
      · cases e
  | ref a =>
    rw [VR_ref.mp hx]
    simp only [isiV] at e
    split at e
    · rename_i ys q
      obtain ⟨_, us, n, ho, _⟩ := (R.own a _ q).2
      split at e
      · rename_i q; subst q; cases e; exact IsiPair.list_list ho rfl key0
      · split at e
        · rename_i q; cases e
          rcases q with rfl | rfl
          · exact IsiPair.list_tuple ho rfl (key _)
          · exact IsiPair.list_int ho rfl (key _)
        · cases e
    · cases e
  | _ => cases e
theorem sndE_isinstance {T : String} {e : Expr} {p p' pos : Pos} {t : TE} (hm : (Str.ofString "isinstance", NameKind.globalImplicit) ∈ sc.names) (hb : Known g "isinstance" (.builtin "isinstance")) (hm' : (Str.ofString T, NameKind.globalImplicit) ∈ sc.names) (hb' : Known g T (.type T))
    (h1 : SndE g sc r true e t) (hs : isStar e = false) :
    SndE g sc r true (.Call (.Name (Str.ofString "isinstance") p) [e, .Name (Str.ofString T) p'] [] pos) (tIsI T t) := .mk fun A env s ℓ σ Q E X h => by
  show wpAny _ A (do callWith pos (← eval (.Name (Str.ofString "isinstance") p) env) [] (backTo pos (starEach [e, .Name (Str.ofString T) p'] env)) (backToKw pos (keywordEach [] env))) _ _ s
  refine wpAny_bind (name_global X hm hb ?_)
  rw [starEach_cons env hs, starEach_cons (es := []) env rfl]
  refine callWith_ok (.inr (.inl ⟨_, rfl⟩)) rfl ?_
  show wpAny _ A (spliced [(false, eval e env), (false, eval (.Name (Str.ofString T) p') env)]) _ _ s
  refine Calls.spliced_cons (wpAny_mono (h1.run A env s ℓ σ _ E X h) (fun v s₁ p => ?_) fun _ _ p => p)
  obtain ⟨x, σ₁, hv, hR, hx, hs1, hq⟩ := p
  refine Calls.spliced_cons (name_global (X.step hR hx) hm' hb' (Calls.spliced_nil ⟨fun a o e => hR.base a o e, ?_⟩))
  split at hq
  · rename_i b e
    exact wp_back hx hs1 (isi_ok hR hv e hq)
  · exact hq.elim
end
section
open PySem PyProof.Rows
variable {g : Gr} {sc csc : Scope} {r : Nat} {c : Bool}
/-! ## what is walked through -/
/-- one object that nobody owns was made -/
theorem postI_one {s s₁ : Shared} {σ σ₁ : AH} {Q : List V → (AH → Prop) → Bool → AH → Prop} {items : List V} {inv : AH → Prop} {St : Nat → Heap → Prop} {tup : Bool} {o : Obj} (hR : Rel g s₁.heap σ₁) (hx : Ext No s.heap σ s₁.heap σ₁) (hs : Same s s₁)
    (IT : Iters g items inv s₁.heap.objs.size (· = s₁.heap.objs.size) St tup) (hst : St 0 (s₁.heap.push o)) (hf : Fits items.length) (hq : Q items inv tup σ₁) : PostI g s σ Q (.ref s₁.heap.objs.size) { s₁ with heap := s₁.heap.push o } := by
  have kp := push_keeps s₁.heap o
  refine ⟨items, inv, _, _, St, tup, σ₁, rfl, IT, hst, hR.keeps kp, hx.trans (.keeps kp), hs.trans ⟨rfl, rfl, rfl⟩, fun a e => ?_, hf, hq⟩
  subst e
  refine ⟨?_, hR.fresh (size_fresh _)⟩
  cases e : s.heap.get? s₁.heap.objs.size with
  | none => rfl
  | some o => obtain ⟨o', e'⟩ := hx.pres _ o e; rw [size_fresh] at e'; cases e'
/-- what a value offers to a walk -/
noncomputable def walkV (x : V) (σ : AH) (Q : List V → (AH → Prop) → Bool → AH → Prop) : Prop := match x with
  | .tup xs => Q xs (fun _ => True) false σ
  | .ref a => match σ a with
    | some (.list xs) => Q xs (fun σ => σ a = some (.list xs)) false σ
    | _ => False
  | _ => False
noncomputable def tIter (t : TE) : TI := fun ℓ σ Q E => t ℓ σ (fun x σ₁ => walkV x σ₁ Q) E
theorem sndI_value {e : Expr} {t : TE} (h1 : SndE g sc r c e t) : SndI g sc r c e (tIter t) := .mk fun A env s ℓ σ Q E X h => by
  refine wpAny_mono (h1.run A env s ℓ σ _ E X h) (fun v s₁ p => ?_) fun _ _ p => p
  obtain ⟨x, σ₁, hv, hR, hx, hs, hq⟩ := p
  cases x with
  | tup xs =>
    obtain ⟨hf, a, o, us, m, rfl, nh, ho, hc, hd, hvs⟩ := VR_tup.mp hv
    refine wpAny_pyIter_tuple ⟨o, ho, hc, m, hd⟩ (postI_one hR hx hs (iters_tuple a _ xs) ⟨⟨_, Heap.get?_push_size _ rfl, rfl, rfl⟩, ?_⟩ hf hq)
    exact VR.mono (fun a o _ _ _ e _ _ => .of (push_keeps _ _ a o e)) hv
  | ref a =>
    rw [VR_ref.mp hv]
    simp only [walkV] at hq
    split at hq
    · rename_i xs e
      obtain ⟨hf, us, n, ho, hvs⟩ := (hR.own a _ e).2
      exact wpAny_pyIter_list ⟨_, ho, rfl, n, rfl⟩ (postI_one hR hx hs (iters_list a _ xs) ⟨_, Heap.get?_push_size _ rfl, rfl, rfl⟩ hf hq)
    · exact hq.elim
  | _ => exact hq.elim
/-- range(n) -/
noncomputable def tRange1 (t : TE) : TI := fun ℓ σ Q E => t ℓ σ (fun x σ₁ => match x with | .int n => 0 ≤ n ∧ Fits n.toNat ∧ Q (rangeV 0 n.toNat) (fun _ => True) false σ₁ | _ => False) E
theorem range_iter {A : Around} {s s₁ : Shared} {σ σ₁ : AH} {Q : List V → (AH → Prop) → Bool → AH → Prop} {E : Value → Shared → Prop} {lo hi : Int} {rr : Addr} {t u v : Tok} (hr : IsRange s₁.heap rr lo hi 1 t u v) (hlo : -(2 ^ 62) ≤ lo ∧ lo < 2 ^ 62) (hhi : -(2 ^ 62) ≤ hi ∧ hi < 2 ^ 62) (hR : Rel g s₁.heap σ₁) (hx : Ext No s.heap σ s₁.heap σ₁) (hs : Same s s₁)
    (hf : Fits (hi - lo).toNat) (hq : Q (rangeV lo (hi - lo).toNat) (fun _ => True) false σ₁) : wpAny (model g.prog g.w) A (pyIter (.ref rr)) (PostI g s σ Q) E s₁ := by
  refine wpAny_pyIter_range hr (small_one hlo.1 hlo.2 hhi.1 hhi.2) (postI_one hR hx hs (iters_range _ lo (hi - lo).toNat) ?_ (by simpa [rangeV] using hf) hq)
  have hsz : Builtin.Range.rangeSize lo hi 1 = (((hi - lo).toNat : Nat) : Int) := by rw [rangeSize_one]; split <;> omega
  have e1 : lo + ((0 : Nat) : Int) = lo := by simp
  have e2 : (((hi - lo).toNat : Nat) : Int) - ((0 : Nat) : Int) = Builtin.Range.rangeSize lo hi 1 := by rw [hsz]; simp
  show IsRangeIter _ _ (lo + ((0 : Nat) : Int)) ((((hi - lo).toNat : Nat) : Int) - ((0 : Nat) : Int)) 1
  rw [e1, e2]
  exact Heap.get?_push_size _ rfl
theorem sndI_range1 {e : Expr} {p pos : Pos} {t : TE} (hm : (Str.ofString "range", NameKind.globalImplicit) ∈ sc.names) (hb : Known g "range" (.type "range")) (h1 : SndE g sc r c e t) (hs : isStar e = false) :
    SndI g sc r c (.Call (.Name (Str.ofString "range") p) [e] [] pos) (tRange1 t) := .mk fun A env s ℓ σ Q E X h => by
  show wpAny _ A (do callWith pos (← eval (.Name (Str.ofString "range") p) env) [] (backTo pos (starEach [e] env)) (backToKw pos (keywordEach [] env))) _ _ s
  refine wpAny_bind (name_global X hm hb ?_)
  rw [starEach_cons (es := []) env hs]
  refine callWith_ok (.inr (.inr ⟨_, rfl⟩)) rfl ?_
  show wpAny _ A (spliced [(false, eval e env)]) _ _ s
  refine Calls.spliced_cons (wpAny_mono (h1.run A env s ℓ σ _ E X h) (fun v s₁ p => ?_) fun _ _ p => p)
  obtain ⟨x, σ₁, hv, hR, hx, hs1, hq⟩ := p
  refine Calls.spliced_nil ⟨fun a o e => hR.base a o e, ?_⟩
  cases x with
  | int n =>
    obtain ⟨t, rfl⟩ := VR_int.mp hv
    refine call_range_1 ?_
    have kp := push_keeps s₁.heap { cls := .type "range", data := .fields #[.int 0 s₁.toks, .int n t, .int 1 (s₁.toks + 1)] }
    have hn : n.toNat ≤ 1000000 := hq.2.1
    have hz : (n - 0).toNat = n.toNat := by simp
    exact range_iter (lo := 0) (hi := n) (IsRange.new ..) (by decide) ⟨by have := hq.1; omega, by have := hq.1; omega⟩ (hR.keeps kp) (hx.trans (.keeps kp)) (hs1.trans ⟨rfl, rfl, rfl⟩) (hz ▸ hq.2.1) (hz ▸ hq.2.2)
  | _ => exact hq.elim
/-- enumerate(list) -/
noncomputable def tEnum (t : TE) : TI := fun ℓ σ Q E => t ℓ σ (fun x σ₁ => match x with
  | .ref a => match σ₁ a with | some (.list xs) => Q (enumV 0 xs) (fun σ => σ a = some (.list xs)) true σ₁ | _ => False
  | _ => False) E
/-! ## methods of builtin types -/
noncomputable def typeV (x : V) (σ : AH) : Option String := match x with
  | .ref a => match σ a with
    | some (.list _) => some "list"
    | some (.dictI _ _) => some "dict"
    | some (.dictS _ _) => some "dict"
    | some (.dictT _ _) => some "dict"
    | _ => none
  | .str _ => some "str"
  | _ => none
theorem typeV_at {s : Shared} {σ : AH} {x : V} {v : Value} {T : String} (R : Rel g s.heap σ) (hv : VR g s.heap x v) (e : typeV x σ = some T) : s.TypeIs v T ∧ ∀ a, v = .ref a → ∃ ob, s.heap.get? a = some ob ∧ ob.dict = none := by
  cases x with
  | str y => obtain ⟨_, t, rfl⟩ := VR_str.mp hv; cases e; exact ⟨typeIs_str s y t, fun a q => nomatch q⟩
  | ref a =>
    rw [VR_ref.mp hv]
    simp only [typeV] at e
    split at e <;> first | cases e | skip
    · rename_i ys q
      obtain ⟨_, us, n, ho, _⟩ := (R.own a _ q).2
      exact ⟨⟨_, ho, rfl⟩, fun b q => by cases q; exact ⟨_, ho, rfl⟩⟩
    all_goals
      rename_i kvs ep q
      obtain ⟨_, us, ⟨o, es, ho, hc, _⟩, _⟩ := (R.own a _ q).2
      exact ⟨⟨_, ho, hc.1⟩, fun b q => by cases q; exact ⟨_, ho, hc.2.1⟩⟩
  | _ => cases e
noncomputable def tMethod (T : String) (t : TF) (to : TE) (ts : TL) : TE := fun ℓ σ Q E => to ℓ σ (fun o σ₁ => typeV o σ₁ = some T ∧ ts ℓ σ₁ (fun vs σ₂ => t (o :: vs) σ₂ Q E) E) E
noncomputable def isCall : Expr → Bool
  | .Call .. => true
  | _ => false
theorem base_plain {o : Expr} {name : Str} {env : Env} (h : isCall o = false) : attributeBase o name env (eval o env) = eval o env := by
  cases o <;> first | rfl | cases h
theorem few_plain {args : List Expr} {pos : Pos} {env : Env} (hp : Plain args) (hf : decide (args.length < 30) = true) : ((backTo pos (starEach args env)).all (fun x => !x.1) && (backToKw pos (keywordEach [] env)).all (fun x => x.1.isSome) && decide (args.length + ([] : List Keyword).length + (if ([] : List Keyword).isEmpty then 0 else 1) < 30)) = true := by
  have h1 : (backTo pos (starEach args env)).all (fun x => !x.1) = true := by
    have := backTo_plain hp pos env
    rw [List.all_eq_true]
    intro x hx
    have := List.any_eq_false.mp this x hx
    simpa using this
  have h2 : (backToKw pos (keywordEach [] env)).all (fun x => x.1.isSome) = true := rfl
  rw [h1, h2]
  simpa using hf
theorem sndE_method {o : Expr} {name : Str} {apos pos : Pos} {args : List Expr} {T id : String} {t : TF} {to : TE} {ts : TL} (pa : PlainAttrs T) (slot : Slot T name id) (hty : typeOf (.builtin id) = pure (.type "method_descriptor")) (hF : SndF g r (.builtin id) t)
    (ho : SndE g sc r true o to) (hL : SndL g sc r true args ts) (hp : Plain args) (hbase : isCall o = false) (hfew : decide (args.length < 30) = true)
    (hline : (apos.endLine == pos.line) = true) : SndE g sc r true (.Call (.Attribute o name apos) args [] pos) (tMethod T t to ts) := .mk fun A env s ℓ σ Q E X h => by
  refine wpAny_Call_method (base_plain hbase) (few_plain hp hfew) hline pa slot hty (wpAny_mono (ho.run A env s ℓ σ _ E X h) (fun v s₁ p => ?_) fun _ _ p => p)
  obtain ⟨x, σ₁, hv, hR, hx, hs1, hT, hq⟩ := p
  have X1 := X.step hR hx
  refine ⟨(typeV_at hR hv hT).1, (typeV_at hR hv hT).2, ?_⟩
  refine callWith_ok (.inr (.inl ⟨_, rfl⟩)) (backTo_plain hp pos env) (wpAny_mono (hL.run A env pos s₁ ℓ σ₁ _ E X1 hq) (fun vs s₂ p => ?_) fun _ _ p => p.back hx hs1)
  obtain ⟨xs, σ₂, hvs, hR2, hx2, hs2, hq⟩ := p
  have X2 := X1.step hR2 hx2
  exact ⟨fun a o e => hR2.base a o e, wp_back (hx.trans hx2) (hs1.trans hs2) (hF.run A s₂ σ₂ (x :: xs) (v :: vs) Q E X.gok X2.fr.frl X2.room hR2 (VRs_cons (hx2.vr hR noSeq_no hv) hvs) hq)⟩
/-- list.append -/
noncomputable def tAppend : TF := fun xs σ Q _ => match xs with
  | [.ref a, x] => match σ a with | some (.list ys) => Fits (ys.length + 1) ∧ Q .none (σ.set a (.list (ys ++ [x]))) | _ => False
  | _ => False
theorem list_changed {s : Shared} {σ : AH} {Q : V → AH → Prop} {a : Addr} {ys zs : List V} {us : Array Value} {n : Nat} {h' : Heap} {v : Value} {x : V} (R : Rel g s.heap σ) (e : σ a = some (.list ys)) (hf : Fits zs.length) (ho' : h'.get? a = some { cls := .type "list", data := .seq us n })
    (sb : Heap.SameBut a s.heap h') (hvs : VRs g s.heap zs us.toList) (hv : VR g s.heap x v) (h : Q x (σ.set a (.list zs))) {tk : Nat} : PostE g s σ Q v { s with heap := h', toks := tk } := by
  obtain ⟨o₀, e₀, c₀⟩ := OR_some (R.own a _ e).2
  have tk : TupsKept g s.heap h' := fun b o us m _ q cc d => by
    refine .of (sb.extBut b o (fun z => ?_) q)
    subst z; rw [e₀] at q; cases q; exact c₀ _ _ cc d
  exact ⟨x, _, VR.mono tk hv, R.upd (ao' := .list zs) e sb ⟨hf, us, n, ho', VRs.mono tk hvs⟩, .upd e sb ⟨_, ho'⟩, ⟨rfl, rfl, rfl⟩, h⟩
theorem sndF_append : SndF g r (.builtin "list.append") tAppend := .mk fun A s σ xs vs Q E G F Rm R hv h => by
  unfold tAppend at h
  split at h
  · rename_i a x
    obtain ⟨v, _, rfl, ha, hr⟩ := VRs_cons_inv hv
    obtain ⟨u, _, rfl, hx, hr⟩ := VRs_cons_inv hr
    rw [VRs_nil_inv hr, VR_ref.mp ha]
    split at h
    · rename_i ys e
      obtain ⟨hf, us, n, ho, hvs⟩ := (R.own a _ e).2
      have hlen : ys.length = us.size := by have := VRs_length hvs; simpa using this
      refine wpAny_list_append_plain ⟨n, ho⟩ (fun h' hpl sb => ?_) (by rw [← hlen]; exact hf.line)
      obtain ⟨m, ho'⟩ := hpl
      exact list_changed R e (by simpa using h.1) ho' sb (by rw [Array.toList_push]; exact VRs_snoc hvs hx) (VR_none.mpr rfl) h.2
    · exact h.elim
  · exact h.elim
/-- list.count of ints -/
noncomputable def tCount : TF := fun xs σ Q _ => match xs with
  | [x, .int k] => match listInts x σ with | some ns => Q (.int (ns.count k : Nat)) σ | none => False
  | _ => False
theorem intsAre_of {h : Heap} : ∀ {ns : List Int} {vs : List Value}, VRs g h (ns.map V.int) vs → IntsAre vs ns
  | [], vs, a => by rw [VRs_nil_inv a]; exact .nil
  | n :: ns, vs, a => by
    obtain ⟨u, us, rfl, hu, hus⟩ := VRs_cons_inv a
    obtain ⟨t, rfl⟩ := VR_int.mp hu
    exact .cons n t (intsAre_of hus)
theorem sndF_count : SndF g r (.builtin "list.count") tCount := .mk fun A s σ xs vs Q E G F Rm R hv h => by
  unfold tCount at h
  split at h
  · rename_i x k
    obtain ⟨v, _, rfl, hx, hr⟩ := VRs_cons_inv hv
    obtain ⟨u, _, rfl, hk, hr2⟩ := VRs_cons_inv hr
    obtain ⟨t, rfl⟩ := VR_int.mp hk
    rw [VRs_nil_inv hr2]
    split at h
    · rename_i ns e
      obtain ⟨a, us, n, rfl, ho, hus⟩ := listInts_at R hx e
      exact count_list_ints ⟨_, ho, rfl, n, rfl⟩ (intsAre_of hus) (post_value R rfl ⟨rfl, rfl, rfl⟩ (VR_int.mpr ⟨_, rfl⟩) h)
    · exact h.elim
  · exact h.elim
end
section
open PySem PyProof.Rows
variable {g : Gr} {sc csc : Scope} {r : Nat} {c : Bool}
theorem fitsS {x : Str} (h : x.length ≤ 1000000) : Fits x.length := h
section
variable {o : Expr} {apos pos : Pos} {args : List Expr} {to : TE} {ts : TL}
theorem mAppend (ho : SndE g sc r true o to) (hL : SndL g sc r true args ts) (hp : Plain args) (hbase : isCall o = false) (hfew : decide (args.length < 30) = true)
    (hline : (apos.endLine == pos.line) = true) : SndE g sc r true (.Call (.Attribute o (Str.ofString "append") apos) args [] pos) (tMethod "list" tAppend to ts) :=
  sndE_method F.plainAttrs_list F.slot_list_append F.type_list_append sndF_append ho hL hp hbase hfew hline
theorem mCount (ho : SndE g sc r true o to) (hL : SndL g sc r true args ts) (hp : Plain args) (hbase : isCall o = false) (hfew : decide (args.length < 30) = true)
    (hline : (apos.endLine == pos.line) = true) : SndE g sc r true (.Call (.Attribute o (Str.ofString "count") apos) args [] pos) (tMethod "list" tCount to ts) :=
  sndE_method F.plainAttrs_list F.slot_list_count F.type_list_count sndF_count ho hL hp hbase hfew hline
end
/-- the i-th of a list -/
noncomputable def nth {α : Type} : List α → Nat → Option α
  | [], _ => none
  | a :: _, 0 => some a
  | _ :: l, i + 1 => nth l i
theorem at_ {α : Type} : ∀ {l : List α} {i : Nat} {x : α}, nth l i = some x → x ∈ l
  | _ :: _, 0, _, h => by cases h; exact .head _
  | _ :: _, _ + 1, _, h => .tail _ (at_ h)
theorem len1 {vs : List Value} (h : vs.length = 1) : ∃ a, vs = [a] := List.length_eq_one_iff.mp h
theorem len2 {vs : List Value} (h : vs.length = 2) : ∃ a b, vs = [a, b] := by
  cases vs with
  | nil => cases h
  | cons a l => obtain ⟨b, rfl⟩ := len1 (Nat.succ.inj h); exact ⟨_, _, rfl⟩
theorem len3 {vs : List Value} (h : vs.length = 3) : ∃ a b c, vs = [a, b, c] := by
  cases vs with
  | nil => cases h
  | cons a l => obtain ⟨b, c, rfl⟩ := len2 (Nat.succ.inj h); exact ⟨_, _, _, rfl⟩
theorem len4 {vs : List Value} (h : vs.length = 4) : ∃ a b c d, vs = [a, b, c, d] := by
  cases vs with
  | nil => cases h
  | cons a l => obtain ⟨b, c, d, rfl⟩ := len3 (Nat.succ.inj h); exact ⟨_, _, _, _, rfl⟩
theorem len5 {vs : List Value} (h : vs.length = 5) : ∃ a b c d e, vs = [a, b, c, d, e] := by
  cases vs with
  | nil => cases h
  | cons a l => obtain ⟨b, c, d, e, rfl⟩ := len4 (Nat.succ.inj h); exact ⟨_, _, _, _, _, rfl⟩
/-! ## names of the module -/
theorem glo_of {mg : Str → Option Value} {o : Obj} {es : Array DictEntry} {ep : Nat} {n : String} {v : Value} (hN : g.b0.Ns mainGlobals mg) (h3 : g.b0.get? mainGlobals = some o) (hd : o.data = .dict es ep) (e : nsFind es (Str.ofString n) = some v) : Known g n v := by
  obtain ⟨o', es', ep', ho, hd', hk, hf⟩ := id hN
  rw [h3] at ho; cases ho
  rw [hd] at hd'; cases hd'
  exact .inl ⟨mg, hN, (hf _).symm.trans e⟩
theorem bui_of {mg mb : Str → Option Value} {o : Obj} {es : Array DictEntry} {ep : Nat} {n : String} {v : Value} (hN : g.b0.Ns mainGlobals mg) (h3 : g.b0.get? mainGlobals = some o) (hd : o.data = .dict es ep) (e : nsFind es (Str.ofString n) = none)
    (hB : g.b0.Ns builtinsNs mb) (hb : ∀ x : Str, x ≠ "__name__" → mb x = bootBuiltins x) (hn : Str.ofString n ≠ "__name__") (hv : bootBuiltins (Str.ofString n) = some v) : Known g n v := by
  obtain ⟨o', es', ep', ho, hd', hk, hf⟩ := id hN
  rw [h3] at ho; cases ho
  rw [hd] at hd'; cases hd'
  exact .inr ⟨mg, mb, hN, (hf _).symm.trans e, hB, (hb _ hn).trans hv⟩
theorem fn_builtin {n id : String} {t : TF} (h : Known g n (.builtin id)) (hF : SndF g r (.builtin id) t) : FnG g n r t := ⟨_, h, .inr (.inl ⟨_, rfl⟩), hF⟩
theorem fn_type {n id : String} {t : TF} (h : Known g n (.type id)) (hF : SndF g r (.type id) t) : FnG g n r t := ⟨_, h, .inr (.inr ⟨_, rfl⟩), hF⟩
theorem fn_def {n : String} {a : Addr} {o : Obj} {fd : FuncData} {t : TF} (h : Known g n (.ref a)) (ho : g.b0.get? a = some o) (hd : o.data = .func fd) (hF : SndF g r (.ref a) t) : FnG g n r t := ⟨_, h, .inl ⟨a, o, fd, rfl, ho, hd⟩, hF⟩
theorem CodeRec.mk' {h : Heap} {c : Addr} {oc : Obj} {vs : Array Value} {tq : Tok} {q : Str} (hoc : h.get? c = some oc) (hd : oc.data = .fields vs) (hq : vs[1]? = some (.str q tq)) : h.CodeRec (.ref c) q := ⟨c, oc, vs, tq, rfl, hoc, hd, hq⟩
end
section
open PySem PyProof.Rows
/-! ## reasoning with the abstract heap -/
theorem AH.set_same {σ : AH} {a : Addr} {o : AO} : (σ.set a o) a = some o := if_pos rfl
theorem AH.set_other {σ : AH} {a b : Addr} {o : AO} (h : b ≠ a) : (σ.set a o) b = σ b := if_neg h
/-- one heap is part of the other -/
noncomputable def Sub (σ σ' : AH) : Prop := ∀ a o, σ a = some o → σ' a = some o
theorem Sub.refl {σ : AH} : Sub σ σ := fun _ _ h => h
theorem Sub.trans {σ σ' σ'' : AH} (x : Sub σ σ') (y : Sub σ' σ'') : Sub σ σ'' := fun a o h => y a o (x a o h)
theorem Sub.new {σ σ' : AH} {a : Addr} {o : AO} (x : Sub σ σ') (h : σ' a = none) : Sub σ (σ'.set a o) := fun b p e => by
  have e' := x b p e
  rw [AH.set_other fun z => by rw [z, h] at e'; cases e']
  exact e'
theorem Sub.upd {σ σ' : AH} {a : Addr} {o : AO} (x : Sub σ σ') (h : σ a = none) : Sub σ (σ'.set a o) := fun b p e => by
  rw [AH.set_other fun z => by rw [z, h] at e; cases e]
  exact x b p e
theorem Sub.none {σ σ' : AH} {a : Addr} (x : Sub σ σ') (h : σ' a = Option.none) : σ a = Option.none := by
  cases e : σ a with
  | none => rfl
  | some o => rw [x a o e] at h; cases h
theorem ne_of {σ : AH} {a b : Addr} {o : AO} (h : σ a = some o) (k : σ b = none) : a ≠ b := fun z => by rw [z, k] at h; cases h
theorem new_keeps {σ : AH} {a b : Addr} {o p : AO} (h : σ a = some o) (k : σ b = none) : (σ.set b p) a = some o := by rw [AH.set_other (ne_of h k)]; exact h
/-! ## ints -/
/-- the greatest of a list of ints, at least 0 -/
noncomputable def top0 (ns : List Int) : Int := ns.foldl max 0
theorem loopT_ind {t : Tgt} {inv : AH → Prop} {tb : TS} {Q : Fl → Loc → AH → Prop} {E : Addr → Loc → AH → Prop} (I : List V → Loc → AH → Prop) (h0 : ∀ ℓ σ, I [] ℓ σ → inv σ ∧ Q .next ℓ σ)
    (h1 : ∀ x xs ℓ σ, (∀ ℓ' σ', I xs ℓ' σ' → loopT t inv tb xs ℓ' σ' Q E) → I (x :: xs) ℓ σ → inv σ ∧ bindV t x ℓ σ fun ℓ₁ => tb ℓ₁ σ (fun f ℓ₂ σ₂ => match f with
      | .next => loopT t inv tb xs ℓ₂ σ₂ Q E
      | .cont => loopT t inv tb xs ℓ₂ σ₂ Q E
      | .brk => Q .next ℓ₂ σ₂
      | .ret v => Q (.ret v) ℓ₂ σ₂) E) : ∀ xs ℓ σ, I xs ℓ σ → loopT t inv tb xs ℓ σ Q E
  | [], ℓ, σ, h => h0 ℓ σ h
  | x :: xs, ℓ, σ, h => h1 x xs ℓ σ (fun ℓ' σ' h' => loopT_ind I h0 h1 xs ℓ' σ' h') h
theorem rangeV_drop {lo : Int} {n i : Nat} (h : i < n) : (rangeV lo n).drop i = .int (lo + (i : Int)) :: (rangeV lo n).drop (i + 1) := by
  have hl : i < (rangeV lo n).length := by simpa [rangeV] using h
  rw [List.drop_eq_getElem_cons hl]
  simp [rangeV]
theorem rangeV_end {lo : Int} {n : Nat} : (rangeV lo n).drop n = [] := List.drop_eq_nil_of_le (by simp [rangeV])
theorem loopT_range {t : Tgt} {inv : AH → Prop} {tb : TS} {Q : Fl → Loc → AH → Prop} {E : Addr → Loc → AH → Prop} {n : Nat} (I : Nat → Loc → AH → Prop) (h0 : ∀ ℓ σ, I n ℓ σ → inv σ ∧ Q .next ℓ σ)
    (h1 : ∀ i ℓ σ, i < n → (∀ ℓ' σ', I (i + 1) ℓ' σ' → loopT t inv tb ((rangeV 0 n).drop (i + 1)) ℓ' σ' Q E) → I i ℓ σ → inv σ ∧ bindV t (.int (i : Int)) ℓ σ fun ℓ₁ => tb ℓ₁ σ (fun f ℓ₂ σ₂ => match f with
      | .next => loopT t inv tb ((rangeV 0 n).drop (i + 1)) ℓ₂ σ₂ Q E
      | .cont => loopT t inv tb ((rangeV 0 n).drop (i + 1)) ℓ₂ σ₂ Q E
      | .brk => Q .next ℓ₂ σ₂
      | .ret v => Q (.ret v) ℓ₂ σ₂) E) {ℓ : Loc} {σ : AH} (h : I 0 ℓ σ) : loopT t inv tb (rangeV 0 n) ℓ σ Q E := by
  have key : ∀ k i ℓ σ, n - i = k → i ≤ n → I i ℓ σ → loopT t inv tb ((rangeV 0 n).drop i) ℓ σ Q E := by
    intro k
    induction k with
    | zero =>
      intro i ℓ σ hk hi h
      have : i = n := by omega
      subst this
      rw [rangeV_end]
      exact h0 ℓ σ h
    | succ k ih =>
      intro i ℓ σ hk hi h
      have hlt : i < n := by omega
      rw [rangeV_drop hlt]
      have := h1 i ℓ σ hlt (fun ℓ' σ' h' => ih (i + 1) ℓ' σ' (by omega) hlt h') h
      rw [show (0 : Int) + (i : Int) = (i : Int) by omega]
      exact this
  simpa using key n 0 ℓ σ (by omega) (by omega) h
theorem filter_all {α : Type} (xs : List α) : xs.filter (fun _ => true) = xs := by
  induction xs with
  | nil => rfl
  | cons x xs ih => rw [List.filter_cons_of_pos rfl, ih]
/-! ## with what comes behind left unsaid -/
theorem tSeq_k {t ts : TS} {ℓ : Loc} {σ : AH} {Q : Fl → Loc → AH → Prop} {E : Addr → Loc → AH → Prop}
    (h : ∀ K : Fl → Loc → AH → Prop, (∀ ℓ' σ', ts ℓ' σ' Q E → K .next ℓ' σ') → (∀ v ℓ' σ', Q (.ret v) ℓ' σ' → K (.ret v) ℓ' σ') → (∀ ℓ' σ', Q .brk ℓ' σ' → K .brk ℓ' σ') → (∀ ℓ' σ', Q .cont ℓ' σ' → K .cont ℓ' σ') → t ℓ σ K E) : tSeq t ts ℓ σ Q E :=
  h _ (fun _ _ h => h) (fun _ _ _ h => h) (fun _ _ h => h) (fun _ _ h => h)
theorem tFun_k {ps : List String} {tb : TS} {xs : List V} {σ : AH} {Q : V → AH → Prop} {E : Addr → AH → Prop} (hl : xs.length = ps.length)
    (h : ∀ (K : Fl → Loc → AH → Prop) (KE : Addr → Loc → AH → Prop), (∀ v ℓ' σ' σ'', Sub σ'' σ' → Q v σ'' → K (.ret v) ℓ' σ') → (∀ ℓ' σ' σ'', Sub σ'' σ' → Q .none σ'' → K .next ℓ' σ') → (∀ C ℓ' σ' σ'', Sub σ'' σ' → E C σ'' → KE C ℓ' σ') →
      tb (Loc.empty.setAll ps xs) σ K KE) : tFun ps tb xs σ Q E :=
  ⟨hl, h _ _ (fun _ _ _ σ'' hs hq => ⟨σ'', hs, hq⟩) (fun _ _ σ'' hs hq => ⟨σ'', hs, hq⟩) fun _ _ _ σ'' hs hq => ⟨σ'', hs, hq⟩⟩
theorem loopT_k {t : Tgt} {inv : AH → Prop} {tb : TS} {Q : Fl → Loc → AH → Prop} {E : Addr → Loc → AH → Prop} (I : List V → Loc → AH → Prop) (h0 : ∀ ℓ σ, I [] ℓ σ → inv σ ∧ Q .next ℓ σ)
    (h1 : ∀ x xs ℓ σ (K : Fl → Loc → AH → Prop), (∀ ℓ' σ', I xs ℓ' σ' → K .next ℓ' σ') → (∀ v ℓ' σ', Q (.ret v) ℓ' σ' → K (.ret v) ℓ' σ') → (∀ ℓ' σ', Q .next ℓ' σ' → K .brk ℓ' σ') → (∀ ℓ' σ', I xs ℓ' σ' → K .cont ℓ' σ') →
      I (x :: xs) ℓ σ → inv σ ∧ bindV t x ℓ σ fun ℓ₁ => tb ℓ₁ σ K E) {xs : List V} {ℓ : Loc} {σ : AH} (h : I xs ℓ σ) : loopT t inv tb xs ℓ σ Q E :=
  loopT_ind I h0 (fun x xs ℓ σ ih hI => h1 x xs ℓ σ _ (fun ℓ' σ' h => ih ℓ' σ' h) (fun _ _ _ h => h) (fun _ _ h => h) (fun ℓ' σ' h => ih ℓ' σ' h) hI) xs ℓ σ h
theorem loopT_rangeK {t : Tgt} {inv : AH → Prop} {tb : TS} {Q : Fl → Loc → AH → Prop} {E : Addr → Loc → AH → Prop} {n : Nat} (I : Nat → Loc → AH → Prop) (h0 : ∀ ℓ σ, I n ℓ σ → inv σ ∧ Q .next ℓ σ)
    (h1 : ∀ i ℓ σ (K : Fl → Loc → AH → Prop), i < n → (∀ ℓ' σ', I (i + 1) ℓ' σ' → K .next ℓ' σ') → (∀ v ℓ' σ', Q (.ret v) ℓ' σ' → K (.ret v) ℓ' σ') → (∀ ℓ' σ', Q .next ℓ' σ' → K .brk ℓ' σ') → (∀ ℓ' σ', I (i + 1) ℓ' σ' → K .cont ℓ' σ') →
      I i ℓ σ → inv σ ∧ bindV t (.int (i : Int)) ℓ σ fun ℓ₁ => tb ℓ₁ σ K E) {ℓ : Loc} {σ : AH} (h : I 0 ℓ σ) : loopT t inv tb (rangeV 0 n) ℓ σ Q E :=
  loopT_range I h0 (fun i ℓ σ hi ih hI => h1 i ℓ σ _ hi (fun ℓ' σ' h => ih ℓ' σ' h) (fun _ _ _ h => h) (fun _ _ h => h) (fun ℓ' σ' h => ih ℓ' σ' h) hI) h
end
section
open PySem PyProof.Rows
/-! ## data of ints and of rows -/
noncomputable def rowV (r : List Int) : V := .tup (r.map V.int)
noncomputable def rowD (r : List Int) : PyData := .tuple (r.map PyData.int)
theorem data_ints {σ : AH} : ∀ (ns : List Int), DataOfs σ (ns.map PyData.int) (ns.map V.int)
  | [] => by simp [DataOfs]
  | n :: ns => by
    simp only [List.map_cons, DataOfs]
    exact ⟨_, _, rfl, by simp [DataOf], data_ints ns⟩
theorem data_list {σ : AH} {a : Addr} {xs : List V} {ds : List PyData} (e : σ a = some (.list xs)) (h : DataOfs σ ds xs) : DataOf σ (.list ds) (.ref a) := by
  unfold DataOf; exact ⟨a, xs, rfl, e, h⟩
theorem canLay_ints : ∀ ns : List Int, PyData.canLayAll0 (ns.map PyData.int) = true
  | [] => by simp [PyData.canLayAll0]
  | n :: ns => by simp [PyData.canLayAll0, PyData.canLay0, canLay_ints ns]
theorem depth_ints : ∀ ns : List Int, PyData.depthAll (ns.map PyData.int) ≤ 1
  | [] => by simp [PyData.depthAll]
  | n :: ns => by
    have := depth_ints ns
    simp only [List.map_cons, PyData.depthAll, PyData.depth]; omega
theorem lay_int (n : Int) : Lay (.int n) := ⟨by simp [PyData.canLay0], by simp [PyData.depth]⟩
theorem lay_none : Lay .none := ⟨by simp [PyData.canLay0], by simp [PyData.depth]⟩
theorem lay_ints (ns : List Int) : Lay (.list (ns.map PyData.int)) := ⟨by simp [PyData.canLay0, canLay_ints], by have := depth_ints ns; simp only [PyData.depth]; omega⟩
theorem eqvAll_ints : ∀ ns ms : List Int, PyData.eqvAll (ns.map PyData.int) (ms.map PyData.int) = (ns == ms)
  | [], [] => by simp [PyData.eqvAll]
  | [], m :: ms => by simp [PyData.eqvAll]
  | n :: ns, [] => by simp [PyData.eqvAll]
  | n :: ns, m :: ms => by
    simp only [List.map_cons, PyData.eqvAll, PyData.eqv, eqvAll_ints ns ms]
    rw [Bool.eq_iff_iff]; simp
theorem any_int : ∀ (ns : List Int) (k : Int), ((ns.map PyData.int).any fun y => PyData.eqv y (.int k)) = decide (k ∈ ns)
  | [], k => by simp
  | n :: ns, k => by
    simp only [List.map_cons, List.any_cons, any_int ns k, PyData.eqv]
    by_cases q : n = k
    · subst q; simp
    · have q' : ¬ k = n := fun z => q z.symm
      have : (n == k) = false := by simpa using q
      rw [this]; simp [q']
theorem inD_ints {σ : AH} {a : Addr} {ns : List Int} {k : Int} {Q : Bool → Prop} (ha : σ a = some (.list (ns.map V.int))) (h : Q (decide (k ∈ ns))) : inD (.int k) (.ref a) σ Q := by
  simp only [inD, ha]
  exact ⟨_, .int k, data_ints ns, by simp [DataOf], lay_ints ns, lay_int k, by rw [any_int]; exact h⟩
theorem atV_nat {xs : List V} {i : Nat} {x : V} (h : xs[i]? = some x) : atV xs (i : Int) = some x := by
  have hl : i < xs.length := by
    rcases Nat.lt_or_ge i xs.length with q | q
    · exact q
    · rw [List.getElem?_eq_none q] at h; cases h
  have e : seqIndex? (i : Int) xs.length = some i := by
    unfold seqIndex?
    rw [if_neg (show ¬ ((i : Int) < 0) by omega)]
    simp only
    rw [if_pos (by simp; omega)]
    simp
  unfold atV
  rw [e]; exact h
theorem atV_int {xs : List V} {k : Int} {x : V} (h0 : 0 ≤ k) (h : xs[k.toNat]? = some x) : atV xs k = some x := by
  have : k = ((k.toNat : Nat) : Int) := by omega
  rw [this]; exact atV_nat h
theorem row_at {r : List Int} {i : Nat} (h : i < r.length) : atV (r.map V.int) (i : Int) = some (.int (r.getD i 0)) := by
  refine atV_nat ?_
  simp [h]
end
section
open PySem PySem.W PyProof.Rows
variable {g : Gr} {sc csc : Scope} {r : Nat} {c : Bool} {K : Frag}
/-! ## objects of a class of the program -/
structure ClsOk (K : Frag) (C : Addr) : Prop where
  get : plainGet K C (Str.ofString "x") = true
  dict : hasDictIn K C = true
  set : findIn K (.ref C) "__setattr__" = some (some (.builtin "object.__setattr__"))
  over : plainOver K C = true
theorem look_of_ns {o : Obj} {es : Array DictEntry} {ep : Nat} {name : Str} (hd : o.data = .dict es ep) (hk : StrKeys es) : lookIn name o = some (nsFind es name) := by
  unfold lookIn
  rw [hd]
  have hr : es.toList.any (·.refKey) = false := by
    rw [List.any_eq_false]
    intro e he
    obtain ⟨n, t, q⟩ := hk e (by simpa using he)
    simp [DictEntry.refKey, q]
  unfold nsFind findBy
  cases q : es.toList.find? (·.key.isStr name) with
  | none =>
    have : es.find? (fun e => e.key.isStr name) = none := by rw [← Array.find?_toList]; exact q
    simp [hr, this]
  | some e =>
    have : es.find? (fun e => e.key.isStr name) = some e := by rw [← Array.find?_toList]; exact q
    simp [this]
variable {g : Gr} {sc csc : Scope} {r : Nat} {c : Bool} {K : Frag}
theorem mem_names {kvs : List (Str × V)} {x : Str} (h : kvs.lookup x ≠ none) : x ∈ kvs.map (·.1) := by
  induction kvs with
  | nil => simp at h
  | cons p kvs ih =>
    obtain ⟨y, v⟩ := p
    rw [List.lookup_cons] at h
    by_cases z : x = y
    · subst z; simp
    · have zb : (x == y) = false := by simpa using z
      rw [zb] at h
      exact List.mem_map.mpr (let ⟨q, h1, h2⟩ := List.mem_map.mp (ih h); ⟨q, .tail _ h1, h2⟩)
/-- the name of an entry -/
noncomputable def nameOf (e : DictEntry) : Str := match e.key with | .str n _ => n | _ => Str.empty
theorem ns1_size {h : Heap} {a : Addr} {m : Str → Option Value} (hn : h.Ns1 a m) (names : List Str) (hm : ∀ x, m x ≠ none → x ∈ names) : ∃ o es ep, h.get? a = some o ∧ o.data = .dict es ep ∧ es.size ≤ names.length := by
  obtain ⟨o, es, ep, ho, hd, hk, hu, hf⟩ := hn
  refine ⟨o, es, ep, ho, hd, ?_⟩
  have isn : ∀ e ∈ es.toList, e.key.isStr (nameOf e) = true := fun e he => by
    obtain ⟨n, t, q⟩ := hk e (by simpa using he)
    simp [nameOf, q, Value.isStr]
  have hnd : (es.toList.map nameOf).Nodup := by
    unfold List.Nodup
    rw [List.pairwise_map]
    refine List.Pairwise.imp_of_mem (fun {a b} ha hb h q => ?_) hu
    exact h (nameOf a) (isn a ha) (q ▸ isn b hb)
  have hsub : es.toList.map nameOf ⊆ names := fun x hx => by
    obtain ⟨e, he, rfl⟩ := List.mem_map.mp hx
    refine hm _ fun q => ?_
    rw [← hf] at q
    unfold nsFind findBy at q
    have : es.find? (fun e' => e'.key.isStr (nameOf e)) = none := by simpa using q
    rw [Array.find?_eq_none] at this
    exact this e (by simpa using he) (isn e he)
  have := List.Nodup.length_le_of_subset hnd hsub
  simpa using this
theorem inst_at {h : Heap} {σ : AH} {x C d : Addr} {kvs : List (Str × V)} (R : Rel g h σ) (hx : σ x = some (.inst C d)) (hd : σ d = some (.attrs kvs)) :
    ∃ od, InstAt h x (instObj C d) C (some od) ∧ (∀ name v, kvs.lookup name = some v → ∃ u, lookIn name od = some (some u) ∧ VR g h v u) ∧ (∀ name, kvs.lookup name = none → lookIn name od = some none) ∧ Fits kvs.length ∧ ∃ m, h.Ns1 d m ∧ ∀ x, (∀ v, kvs.lookup x = some v → ∃ u, m x = some u ∧ VR g h v u) ∧ (kvs.lookup x = none → m x = none) := by
  have ox : h.get? x = some (instObj C d) := (R.own x _ hx).2
  obtain ⟨hft, m, hn, hm⟩ := (R.own d _ hd).2
  obtain ⟨od, es, ep, hod, hdd, hk, _, hf⟩ := id hn
  refine ⟨od, ⟨ox, rfl, rfl, hod⟩, fun name v e => ?_, fun name e => ?_, hft, m, hn, hm⟩
  · obtain ⟨u, h1, h2⟩ := (hm name).1 v e
    exact ⟨u, by rw [look_of_ns hdd hk, hf, h1], h2⟩
  · rw [look_of_ns hdd hk, hf, (hm name).2 e]
theorem handed_of {h : Heap} {x : V} {v : Value} (hv : VR g h x v) : handedIn v = true := by
  cases x with
  | none => rw [VR_none.mp hv]; rfl
  | bool b => rw [VR_bool.mp hv]; rfl
  | int i => obtain ⟨t, rfl⟩ := VR_int.mp hv; rfl
  | str y => obtain ⟨_, t, rfl⟩ := VR_str.mp hv; rfl
  | ref a => rw [VR_ref.mp hv]; rfl
  | tup xs => obtain ⟨_, a, _, _, _, rfl, _⟩ := VR_tup.mp hv; rfl
  | frz xs => obtain ⟨_, a, _, _, _, rfl, _⟩ := VR_frz.mp hv; rfl
/-- an attribute of an object of the class C -/
noncomputable def attrOf (C : Addr) (name : Str) (v : V) (σ : AH) : Option V := match v with
  | .ref x => match σ x with
    | some (.inst C' d) => if C' = C then (match σ d with | some (.attrs kvs) => kvs.lookup name | _ => none) else none
    | _ => none
  | _ => none
theorem attrOf_eq {C x d : Addr} {name : Str} {σ : AH} {kvs : List (Str × V)} {u : V} (hx : σ x = some (.inst C d)) (hd : σ d = some (.attrs kvs)) (h : kvs.lookup name = some u) : attrOf C name (.ref x) σ = some u := by
  simp [attrOf, hx, hd, h]
theorem attrOf_some {C : Addr} {name : Str} {v u : V} {σ : AH} (h : attrOf C name v σ = some u) : ∃ x d kvs, v = .ref x ∧ σ x = some (.inst C d) ∧ σ d = some (.attrs kvs) ∧ kvs.lookup name = some u := by
  unfold attrOf at h
  split at h
  · rename_i x
    split at h
    · rename_i C' d e
      split at h
      · rename_i q; subst q
        split at h
        · rename_i kvs e'; exact ⟨x, d, kvs, rfl, e, e', h⟩
        · cases h
      · cases h
    · cases h
  · cases h
noncomputable def tAttr (C : Addr) (name : String) (t : TE) : TE := fun ℓ σ Q E => t ℓ σ (fun v σ₁ => match attrOf C (Str.ofString name) v σ₁ with | some u => Q u σ₁ | none => False) E
theorem sndE_attr {C : Addr} {e : Expr} {name : String} {pos : Pos} {t : TE} {attr : Option Value} (hK : K.In g.b0) (hc : ClsOk K C) (ha : findIn K (.ref C) (Str.ofString name) = some attr) (hn : noGet K attr = true) (hcall : isCall e = false) (h1 : SndE g sc r c e t) :
    SndE g sc r c (.Attribute e (Str.ofString name) pos) (tAttr C name t) := .mk fun A env s ℓ σ Q E X h => by
  rw [arm_eval_Attribute, base_plain hcall]
  refine wpAny_bind (wpAny_mono (h1.run A env s ℓ σ _ E X h) (fun v s₁ p => ?_) fun _ _ p => p)
  obtain ⟨x, σ₁, hv, hR, hx, hs, hq⟩ := p
  split at hq
  · rename_i u e
    obtain ⟨a, d, kvs, rfl, h2, h3, h4⟩ := attrOf_some e
    rw [VR_ref.mp hv]
    obtain ⟨od, I, l1, l2, _⟩ := inst_at hR h2 h3
    obtain ⟨uv, l3, hu⟩ := l1 _ _ h4
    refine wpAny_bind (wpAny_standAt (wpAny_bind (wpAny_holding (get_value (fun a o e => hR.base a o (hK a o e)) I (plainGet_of hc.get).1 (findObj_own hc.dict ha hn l3) (handed_of hu) ?_))))
    refine wpAny_bind (wpAny_letTemporaryGo (wpAny_pure ?_))
    exact ⟨u, σ₁, hu, hR, hx, hs.trans ⟨rfl, rfl, rfl⟩, hq⟩
  · exact hq.elim
/-! ## an attribute is set -/
noncomputable def tSetAttr (C : Addr) (name : String) (to tv : TE) : TS := fun ℓ σ Q E => tv ℓ σ (fun v σ₁ => to ℓ σ₁ (fun o σ₂ => ∃ x d kvs, o = .ref x ∧ σ₂ x = some (.inst C d) ∧ σ₂ d = some (.attrs kvs) ∧ Fits (kvs.length + 1) ∧ Q .next ℓ (σ₂.set d (.attrs ((Str.ofString name, v) :: kvs)))) fun C σ' => E C ℓ σ') fun C σ' => E C ℓ σ'
theorem sndS_setAttr {C : Addr} {o value : Expr} {name : String} {pos' pos : Pos} {to tv : TE} (hK : K.In g.b0) (hc : ClsOk K C) (ht : takerIn K C (Str.ofString name) = some none) (h1 : SndE g sc r c o to) (h2 : SndE g sc r c value tv)
    (hs : ∀ env, swapsWith value (some (.Attribute o (Str.ofString name) pos')) pos.line env = pure false) : SndS g sc r c (.Assign [.Attribute o (Str.ofString name) pos'] value pos) (tSetAttr C name to tv) := .mk fun A env s ℓ σ Q E X h => by
  refine plainObj_wpAny_Assign_Attribute (wpAny_mono (h2.run A env s ℓ σ _ _ X h) (fun v s₁ p => ?_) fun _ _ p => p.toS X) (hs env)
  obtain ⟨xv, σ₁, hv, hR1, hx1, hs1, hq⟩ := p
  have X1 := X.step hR1 hx1
  refine wpAny_mono (h1.run A env s₁ ℓ σ₁ _ _ X1 hq) (fun ov s₂ p => ?_) fun _ _ p => (p.toS X1).back hx1.own hs1
  obtain ⟨xo, σ₂, ho, hR2, hx2, hs2, x, d, kvs, rfl, e1, e2, hfit, hq⟩ := p
  have X2 := X1.step hR2 hx2
  rw [VR_ref.mp ho]
  have hv2 := hx2.vr hR1 noSeq_no hv
  obtain ⟨od, I, l1, l2, hft, m, hn, hm⟩ := inst_at hR2 e1 e2
  have XK : K.In s₂.heap := fun a o e => hR2.base a o (hK a o e)
  obtain ⟨cd, hcd, hdd⟩ := any_some hc.dict
  refine set_plain XK I hc.set (osa_open (s := { s₂ with toks := s₂.toks + 1 }) XK I hc.over ht fun b => ?_)
  have hx0 := I.at_
  have XK' : K.In ({ s₂ with toks := s₂.toks + 1 } : Shared).heap := XK
  refine wpAny_bind (wpAny_pure (wpAny_bind (wpAny_bind (wpAny_loadPart hx0 (wpAny_bind ((looks_clsIn XK' hcd).here ?_))))))
  rw [hdd]
  refine wpAny_pure (a := some d) (wpAny_bind (wpAny_pure (wpAny_bind ?_)))
  refine wpAny_nsSet1 (s := { s₂ with toks := s₂.toks + 1 }) hn fun h' hn' sb => ?_
  have tk : TupsKept g s₂.heap h' := fun b o us k _ q cc dd => by
    refine .of (sb.extBut b o (fun z => ?_) q)
    obtain ⟨o', es, ep, ho', hd', _⟩ := hn
    subst z; rw [ho'] at q; cases q; rw [hd'] at dd; cases dd
  have hor : OR g h' d (.attrs ((Str.ofString name, xv) :: kvs)) := by
    refine ⟨hfit, _, hn', fun y => ⟨fun w q => ?_, fun q => ?_⟩⟩
    · rw [List.lookup_cons] at q
      by_cases z : y = Str.ofString name
      · subst z
        simp only [beq_self_eq_true] at q
        cases q
        exact ⟨v, by simp, VR.mono tk hv2⟩
      · have zb : (y == Str.ofString name) = false := by simpa using z
        rw [zb] at q
        obtain ⟨u, h1, h2⟩ := (hm y).1 w q
        exact ⟨u, by rw [if_neg z]; exact h1, VR.mono tk h2⟩
    · rw [List.lookup_cons] at q
      by_cases z : y = Str.ofString name
      · subst z; simp at q
      · have zb : (y == Str.ofString name) = false := by simpa using z
        rw [zb] at q
        rw [if_neg z]; exact (hm y).2 q
  have pd : ∃ o, h'.get? d = some o := let ⟨o, _, _, e, _⟩ := hn'; ⟨o, e⟩
  have R3 : Rel g h' (σ₂.set d (.attrs ((Str.ofString name, xv) :: kvs))) := hR2.upd e2 sb hor
  have x3 : Ext No s₂.heap σ₂ h' (σ₂.set d (.attrs ((Str.ofString name, xv) :: kvs))) := .upd e2 sb pd
  have hsz : ∃ o es ep, h'.get? d = some o ∧ o.data = .dict es ep ∧ es.size ≤ kvs.length + 1 := by
    have := ns1_size hn' (Str.ofString name :: kvs.map (·.1)) fun y q => ?_
    · simpa using this
    · by_cases z : y = Str.ofString name
      · rw [z]; exact .head _
      · rw [if_neg z] at q
        refine .tail _ (mem_names fun w => q ((hm y).2 w))
  obtain ⟨od', es', ep', ho', hd', hle⟩ := hsz
  refine wpAny_bind (wpAny_lookBehind ho' (by rw [hd']; exact pastItsLine_dict (by have := hfit.line; omega)) (wpAny_pure ?_))
  show PostS g env s σ Q .next _
  exact ⟨.next, ℓ, _, rfl, X2.loc.step hR2 x3, R3, ((hx1.trans hx2).trans x3).own, (hs1.trans hs2).trans ⟨rfl, rfl, rfl⟩, hq⟩
end
section
open PySem PySem.W PyProof.Rows
variable {g : Gr} {sc csc : Scope} {r : Nat} {c : Bool} {K : Frag}
/-! ## methods of the program's classes -/
theorem callWith_in {A : Around} {E : Value → Shared → Prop} {s : Shared} {pos : Pos} {f : Value} {first : List Value} {l : List (Bool × Sem Value)} {Q : Value → Shared → Prop} (hK : K.In g.b0) (hk : keepIn K f = true) (hp : l.any (·.1) = false)
    (h : wpAny (model g.prog g.w) A (spliced l) (fun vs s' => (∀ a o, g.b0.get? a = some o → s'.heap.get? a = some o) ∧ wpAny (model g.prog g.w) A (call f (first ++ vs) []) Q E s') E s) : wpAny (model g.prog g.w) A (callWith pos f first l []) Q E s :=
  callWith_of (P := fun h => K.In h) (by simp [hp]) (keeps_K hk) (evalArgs_ok hp (wpAny_mono h (fun vs s' h' => ⟨fun a o e => h'.1 a o (hK a o e), h'.2⟩) fun _ _ x => x))
/-- a method of the class C -/
noncomputable def FnM (g : Gr) (K : Frag) (C : Addr) (name : String) (r : Nat) (t : TF) : Prop := ∃ f, findIn K (.ref C) (Str.ofString name) = some (some (.ref f)) ∧ isFn K (.ref f) = true ∧ keepIn K (.ref f) = true ∧ SndF g r (.ref f) t
theorem FnM.le {C : Addr} {name : String} {r r' : Nat} {t : TF} (h : FnM g K C name r t) (k : r ≤ r') : FnM g K C name r' t := let ⟨f, h1, h2, h3, h4⟩ := h; ⟨f, h1, h2, h3, h4.le k⟩
/-- the object is one of the class and bears no attribute of the method's name -/
noncomputable def instOf (C : Addr) (name : Str) (o : V) (σ : AH) : Prop := ∃ x d kvs, o = .ref x ∧ σ x = some (.inst C d) ∧ σ d = some (.attrs kvs) ∧ kvs.lookup name = none
noncomputable def tMethI (C : Addr) (name : String) (t : TF) (to : TE) (ts : TL) : TE := fun ℓ σ Q E => to ℓ σ (fun o σ₁ => instOf C (Str.ofString name) o σ₁ ∧ ts ℓ σ₁ (fun vs σ₂ => t (o :: vs) σ₂ Q E) E) E
theorem sndE_methI {C : Addr} {o : Expr} {name : String} {apos pos : Pos} {args : List Expr} {t : TF} {to : TE} {ts : TL} (hK : K.In g.b0) (hc : ClsOk K C) (hF : FnM g K C name r t)
    (ho : SndE g sc r true o to) (hL : SndL g sc r true args ts) (hp : Plain args) (hbase : isCall o = false) (hfew : decide (args.length < 30) = true)
    (hline : (apos.endLine == pos.line) = true) : SndE g sc r true (.Call (.Attribute o (Str.ofString name) apos) args [] pos) (tMethI C name t to ts) := .mk fun A env s ℓ σ Q E X h => by
  obtain ⟨f, hf, hfn, hkf, hF⟩ := hF
  rw [arm_eval_Call, base_plain hbase]
  refine wpAny_bind (wpAny_mono (ho.run A env s ℓ σ _ E X h) (fun v s₁ p => ?_) fun _ _ p => p)
  obtain ⟨xo, σ₁, hv, hR, hx, hs1, ⟨x, d, kvs, rfl, e1, e2, e3⟩, hq⟩ := p
  have X1 := X.step hR hx
  rw [VR_ref.mp hv]
  obtain ⟨od, I, l1, l2, _⟩ := inst_at hR e1 e2
  have XK : K.In s₁.heap := fun a o e => hR.base a o (hK a o e)
  refine wpAny_bind (wpAny_standAt ?_)
  have fin : wpAny (model g.prog g.w) A (callWith pos (.ref f) [.ref x] (backTo pos (starEach args env)) []) (PostE g s σ Q) (PostX g A s σ E) s₁ := by
    refine callWith_in hK hkf (backTo_plain hp pos env) (wpAny_mono (hL.run A env pos s₁ ℓ σ₁ _ E X1 hq) (fun vs s₂ p => ?_) fun _ _ p => p.back hx hs1)
    obtain ⟨xs, σ₂, hvs, hR2, hx2, hs2, hq⟩ := p
    have X2 := X1.step hR2 hx2
    exact ⟨fun a o e => hR2.base a o e, wp_back (hx.trans hx2) (hs1.trans hs2) (hF.run A s₂ σ₂ (.ref x :: xs) (.ref x :: vs) Q E X.gok X2.fr.frl X2.room hR2 (VRs_cons (VR_ref.mpr rfl) hvs) hq)⟩
  have hform : methodCallForm (args.length + ([] : List Keyword).length) (backTo pos (starEach args env)) (backToKw pos (keywordEach [] env)) = true := few_plain hp hfew
  have hpos : methodCallPos true o env apos pos = pure pos := by unfold methodCallPos; simp [hline]
  unfold methodCall
  rw [hform]
  refine wpAny_bind (wpAny_holding (method_fn XK I (plainGet_of hc.get).1 (plainGet_of hc.get).2 hf (beq_iff_eq.mp hfn) (by show (lookIn (Str.ofString name) od).map _ = _; rw [l2 _ e3]; rfl) ?_))
  exact wpAny_bind (wpAny_of_eq hpos fin)
/-! ## objects are made -/
theorem Room.made {A : Around} {r : Nat} {c : Bool} {C : Addr} {vs : List Value} (x : Room A (r + 1) c) : Room (A.under (.builtin "type.__call__" ⟨.ref C :: vs, []⟩)) r c :=
  ⟨by have := x.depth; show A.depth + 1 + 2 * r + 110 < _; omega, by have := x.units; show A.units + 1 + 20 * r + 100 < _; omega, x.calm⟩
/-- a new object, then its init -/
noncomputable def tNew (C : Addr) (t : TF) : TF := fun xs σ Q E => ∀ x d, σ x = none → σ d = none → x ≠ d → t (.ref x :: xs) ((σ.set d (.attrs [])).set x (.inst C d)) (fun v σ' => v = .none ∧ Q (.ref x) σ') E
theorem sndF_new {C fI : Addr} {t : TF} (hK : K.In g.b0) (hm : makesIn K C = true) (hi : findIn K (.ref C) "__init__" = some (some (.ref fI))) (hf : typeIn K (.ref fI) = some (.type "function")) (hI : SndC g r (.ref fI) t) : SndF g (r + 1) (.ref C) (tNew C t) := .mk fun A s σ xs vs Q E G F Rm R hv h => by
  obtain ⟨hh, gg, dd, tt, os⟩ := s
  have X : K.In hh := fun a o e => R.base a o (hK a o e)
  refine wpAny_call (make_core (makes_of X hm) (looks_findIn X hi) (fun self => bind_fn X self hf) (.inl rfl) ?_)
  have k1 : ∀ a o, hh.get? a = some o → (hh.push emptyDict).get? a = some o := fun a o e => Heap.get?_push_of_some _ e
  have k2 : ∀ a o, hh.get? a = some o → ((hh.push emptyDict).push (instObj C hh.objs.size)).get? a = some o := fun a o e => Heap.get?_push_of_some _ (k1 a o e)
  have fr1 : hh.get? (hh.objs.size + 1) = none := Heap.get?_none_of_le (Nat.le_succ _)
  have fr0 : hh.get? hh.objs.size = none := size_fresh _
  have hD : ((hh.push emptyDict).push (instObj C hh.objs.size)).get? hh.objs.size = some emptyDict := Heap.get?_push_of_some _ (Heap.get?_push_size _ rfl)
  have hX : ((hh.push emptyDict).push (instObj C hh.objs.size)).get? (hh.objs.size + 1) = some (instObj C hh.objs.size) := by
    have := Heap.get?_push_size (o := instObj C hh.objs.size) (hh.push emptyDict) rfl
    rwa [Heap.size_push] at this
  have R1 : Rel g ((hh.push emptyDict).push (instObj C hh.objs.size)) (σ.set hh.objs.size (.attrs [])) := by
    refine R.alloc k2 fr0 ⟨by simp [Fits], fun _ => none, ⟨emptyDict, #[], 0, hD, rfl, fun e he => by simp at he, List.Pairwise.nil, fun _ => rfl⟩, fun x => ⟨fun v q => (nomatch q), fun _ => rfl⟩⟩
  have b0 : g.b0.get? (hh.objs.size + 1) = none := by
    cases q : g.b0.get? (hh.objs.size + 1) with
    | none => rfl
    | some o => have := R.base _ o q; rw [show (Shared.heap ⟨hh, gg, dd, tt, os⟩) = hh from rfl, fr1] at this; cases this
  have R2 := R1.claim (a := hh.objs.size + 1) (ao := .inst C hh.objs.size) b0 hX
  have x2 : Ext No hh σ ((hh.push emptyDict).push (instObj C hh.objs.size)) ((σ.set hh.objs.size (.attrs [])).set (hh.objs.size + 1) (.inst C hh.objs.size)) := by
    refine ⟨fun a o e _ _ => .of (k2 a o e), fun a o e => ⟨o, k2 a o e⟩, fun a q => ?_⟩
    by_cases z : a = hh.objs.size + 1
    · rw [z]; exact .inr fr1
    · rw [AH.set_other z] at q
      by_cases z2 : a = hh.objs.size
      · rw [z2]; exact .inr fr0
      · rw [AH.set_other z2] at q; exact .inl q
  have F2 : FrL g (A.under (.builtin "type.__call__" ⟨.ref C :: vs, []⟩)) ((hh.push emptyDict).push (instObj C hh.objs.size)) ((σ.set hh.objs.size (.attrs [])).set (hh.objs.size + 1) (.inst C hh.objs.size)) := by
    obtain ⟨l, h1, h2, h3⟩ := F
    refine ⟨l, h1, h2.of_keeps fun b o e _ => ⟨o, k2 b o e, rfl⟩, fun e he f hf' => ?_⟩
    obtain ⟨_, o, ho, _⟩ := h2.mem (List.mem_filterMap.mpr ⟨e, he, hf'⟩)
    exact x2.off ho (h3 e he f hf')
  have σx : σ (hh.objs.size + 1) = none := R.fresh fr1
  have σd : σ hh.objs.size = none := R.fresh fr0
  refine codeAny_mono (hI.run (A.under (.builtin "type.__call__" ⟨.ref C :: vs, []⟩)) ⟨(hh.push emptyDict).push (instObj C hh.objs.size), gg, dd, tt, os⟩ _ (.ref (hh.objs.size + 1) :: xs) (.ref (hh.objs.size + 1) :: vs) _ E G F2 Rm.made R2 (VRs_cons (VR_ref.mpr rfl) (VRs.mono (fun a o _ _ _ e _ _ => .of (k2 a o e)) hv))
    (h _ _ σx σd (Nat.succ_ne_self _))) fun rr s' p => ?_
  match rr, p with
  | .ok (.ret v), p =>
    obtain ⟨y, σ', hy, hR', hx', hs', rfl, hq⟩ := p
    exact ⟨VR_none.mp hy, .ref _, σ', VR_ref.mpr rfl, hR', x2.trans hx', Same.trans ⟨rfl, rfl, rfl⟩ hs', hq⟩
  | .error e, p => obtain ⟨_, _, h1, _⟩ := p; exact h1.elim
end
section
open PySem PySem.W PyProof.Rows
variable {g : Gr} {sc csc : Scope} {r : Nat} {c : Bool} {K : Frag}
/-! ## an item is set -/
theorem mapSeq_plain (its : Array Value) (n : Nat) (f : Array Value → Array Value) : ∃ n', Obj.mapSeq f { cls := .type "list", data := .seq its n } = { cls := .type "list", data := .seq (f its) n' } := by
  simp [Obj.mapSeq]
theorem setItem_plain {prog : Program} {w : World} {A : Around} {E : Value → Shared → Prop} {s : Shared} {l : Addr} {items : Array Value} {n : Nat} {k : Int} {t : Tok} {v : Value} {Q : Unit → Shared → Prop} (ho : s.heap.get? l = some { cls := .type "list", data := .seq items n }) (h0 : 0 ≤ k) (hfit : k < 2 ^ 63) (hn : k < items.size)
    (hQ : ∀ h' n', h'.get? l = some { cls := .type "list", data := .seq (items.setIfInBounds k.toNat v) n' } → Heap.SameBut l s.heap h' → Q () { s with heap := h' }) :
    wpAny (model prog w) A (setItem (.ref l) (.int k t) v) Q E s := by
  have hl : s.heap.IsList l items := ⟨_, ho, rfl, n, rfl⟩
  obtain ⟨o, ho', hc, ne, hd⟩ := id hl
  have eo : o = { cls := .type "list", data := .seq items n } := by rw [ho] at ho'; cases ho'; rfl
  unfold setItem
  try with_reducible refine wpAny_holding ?_
  first | refine wpAny_bind (wpAny_pure ?_) | skip
  refine wpAny_bind (wpAny_sequenceKey hl.typeIs (by decide) ?_)
  refine wpAny_bind (wpAny_callSpecial?_slot (name := Str.ofString "__setitem__") hl.typeIs slot_list_setitem
    (wpAny_call_entry slot_list_setitem hl.typeIs entry_list_setitem ?_ (args_list_setitem _ _ _)))
  show wpAny _ _ (Builtin.List.listSubscript? (.int k t) >>= _) _ _ s
  refine wpAny_bind (wpAny_listSubscript_int (fitsIndex_of h0 hfit) ?_)
  clear hfit
  obtain ⟨j, rfl⟩ := Int.eq_ofNat_of_zero_le h0
  have hj : j < items.size := by omega
  have hx' : items[j]? = some items[j] := Array.getElem?_eq_getElem hj
  show wpAny _ _ ((seqItemAt l j >>= fun r => pure (r.map (j, ·))) >>= _) _ _ s
  refine wpAny_bind (wpAny_bind (wpAny_seqItemAt ho' hd (wpAny_pure ?_)))
  rw [hx']
  show wpAny _ _ (setSeqItemAt l j v >>= _) _ _ s
  obtain ⟨n', hm⟩ := mapSeq_plain items n (·.setIfInBounds j v)
  have hfin : (s.heap.update l (Obj.mapSeq (·.setIfInBounds j v))).get? l = some { cls := .type "list", data := .seq (items.setIfInBounds j v) n' } := by
    rw [Heap.get?_update_self _ ho (by rw [hm]; rfl), hm]
  refine wpAny_bind (wpAny_setSeqItemAt ho' hd ?_)
  first
    | exact wpAny_bind (wpAny_pure (wpAny_pure ⟨.none, rfl, wpAny_pure (hQ _ _ hfin (Heap.SameBut.update ..))⟩))
    | exact wpAny_pure ⟨.none, rfl, wpAny_pure (hQ _ _ hfin (Heap.SameBut.update ..))⟩
noncomputable def putD {K : Type} [DecidableEq K] (kvs : List (K × V)) (k : K) (x : V) : List (K × V) :=
  if kvs.any (fun kv => decide (kv.1 = k)) then kvs.map (fun kv => if kv.1 = k then (kv.1, x) else kv) else kvs ++ [(k, x)]
theorem VRs_set {h : Heap} {x : V} {v : Value} (hx : VR g h x v) : ∀ {xs : List V} {vs : List Value} (j : Nat), VRs g h xs vs → VRs g h (xs.set j x) (vs.set j v)
  | [], vs, j, a => by rw [VRs_nil_inv a]; simpa using VRs_nil
  | y :: xs, vs, j, a => by
    obtain ⟨u, us, rfl, hy, hus⟩ := VRs_cons_inv a
    cases j with
    | zero => exact VRs_cons hx hus
    | succ j => exact VRs_cons hy (VRs_set hx j hus)
theorem any_fst {K : Type} [DecidableEq K] {α β : Type} {us : List (K × α)} {kvs : List (K × β)} (hk : us.map (·.1) = kvs.map (·.1)) (k : K) : (us.any fun kv => decide (kv.1 = k)) = kvs.any fun kv => decide (kv.1 = k) := by
  have h1 : (us.any fun kv => decide (kv.1 = k)) = (us.map (·.1)).any fun y => decide (y = k) := by simp [List.any_map, Function.comp_def]
  have h2 : (kvs.any fun kv => decide (kv.1 = k)) = (kvs.map (·.1)).any fun y => decide (y = k) := by simp [List.any_map, Function.comp_def]
  rw [h1, h2, hk]
theorem stored_put {K : Type} [DecidableEq K] {h : Heap} {k : K} {x : V} {v : Value} (hx : VR g h x v) {us : List (K × Value)} {kvs : List (K × V)} (hk : us.map (·.1) = kvs.map (·.1)) (hv : VRs g h (kvs.map (·.2)) (us.map (·.2))) :
    (stored us k v).map (·.1) = (putD kvs k x).map (·.1) ∧ VRs g h ((putD kvs k x).map (·.2)) ((stored us k v).map (·.2)) := by
  have rep : ∀ {us : List (K × Value)} {kvs : List (K × V)}, us.map (·.1) = kvs.map (·.1) → VRs g h (kvs.map (·.2)) (us.map (·.2)) →
      (us.map (fun kv => if kv.1 = k then (kv.1, v) else kv)).map (·.1) = (kvs.map (fun kv => if kv.1 = k then (kv.1, x) else kv)).map (·.1) ∧ VRs g h ((kvs.map (fun kv => if kv.1 = k then (kv.1, x) else kv)).map (·.2)) ((us.map (fun kv => if kv.1 = k then (kv.1, v) else kv)).map (·.2)) := by
    intro us
    induction us with
    | nil =>
      intro kvs hk hv
      cases kvs with
      | nil => exact ⟨rfl, VRs_nil⟩
      | cons _ _ => simp at hk
    | cons u us ih =>
      intro kvs hk hv
      cases kvs with
      | nil => simp at hk
      | cons kv kvs =>
        simp only [List.map_cons, List.cons.injEq] at hk
        obtain ⟨w, ws, hw, hv1, hv2⟩ := VRs_cons_inv hv
        simp only [List.map_cons, List.cons.injEq] at hw
        obtain ⟨rfl, rfl⟩ := hw
        obtain ⟨i1, i2⟩ := ih hk.2 hv2
        simp only [List.map_cons]
        by_cases z : u.1 = k
        · have z' : kv.1 = k := hk.1 ▸ z
          rw [if_pos z, if_pos z']
          exact ⟨by rw [i1]; simp [hk.1], VRs_cons hx i2⟩
        · have z' : ¬ kv.1 = k := hk.1 ▸ z
          rw [if_neg z, if_neg z']
          exact ⟨by rw [i1]; simp [hk.1], VRs_cons hv1 i2⟩
  unfold stored putD
  rw [any_fst hk k]
  split
  · exact rep hk hv
  · exact ⟨by simp [hk], by simpa using VRs_append hv (VRs_cons hx VRs_nil)⟩
theorem putD_length {K : Type} [DecidableEq K] (kvs : List (K × V)) (k : K) (x : V) : (putD kvs k x).length ≤ kvs.length + 1 := by
  unfold putD; split <;> simp
/-- a table was changed, or any object of which the heap around is kept -/
theorem post_changed {A : Around} {env : Env} {s : Shared} {σ : AH} {ℓ : Loc} {Q : Fl → Loc → AH → Prop} {a : Addr} {ao ao' : AO} {h' : Heap} {tk : Nat} (X : Cx g sc r c A env s.heap σ ℓ) (e : σ a = some ao) (sb : Heap.SameBut a s.heap h') (ho : TupsKept g s.heap h' → OR g h' a ao') (hq : Q .next ℓ (σ.set a ao')) : PostS g env s σ Q .next { s with heap := h', toks := tk } := by
  obtain ⟨o₀, e₀, c₀⟩ := OR_some (X.rel.own a _ e).2
  have tks : TupsKept g s.heap h' := fun b o us m _ q cc d => by
    refine .of (sb.extBut b o (fun z => ?_) q)
    subst z; rw [e₀] at q; cases q; exact c₀ _ _ cc d
  have hor := ho tks
  have pr : ∃ o, h'.get? a = some o := let ⟨o, q, _⟩ := OR_some hor; ⟨o, q⟩
  have x : Ext No s.heap σ h' (σ.set a ao') := .upd e sb pr
  exact ⟨.next, ℓ, _, rfl, X.loc.step X.rel x, X.rel.upd e sb hor, x.own, ⟨rfl, rfl, rfl⟩, hq⟩
noncomputable def setItemV (o i v : V) (σ : AH) (Q : AH → Prop) : Prop := match o with
  | .ref a => match σ a with
    | some (.list xs) => ∃ j : Nat, i = .int (j : Int) ∧ j < xs.length ∧ Q (σ.set a (.list (xs.set j v)))
    | some (.dictI kvs _) => ∃ k, i = .int k ∧ Fits (kvs.length + 1) ∧ ∀ ep, Q (σ.set a (.dictI (putD kvs k v) ep))
    | some (.dictT kvs _) => ∃ ks : List Int, i = .tup (ks.map V.int) ∧ Fits (kvs.length + 1) ∧ ∀ ep, Q (σ.set a (.dictT (putD kvs ks v) ep))
    | _ => False
  | _ => False
noncomputable def tSetItem (to ti tv : TE) : TS := fun ℓ σ Q E => tv ℓ σ (fun v σ₁ => to ℓ σ₁ (fun o σ₂ => ti ℓ σ₂ (fun i σ₃ => setItemV o i v σ₃ fun σ' => Q .next ℓ σ') fun C σ' => E C ℓ σ') fun C σ' => E C ℓ σ') fun C σ' => E C ℓ σ'
theorem storedH_put {h : Heap} {k : List Int} {x : V} {v : Value} {a : Addr} (hx : VR g h x v) {us : List (List Int × Addr × Value)} {kvs : List (List Int × V)} (hk : us.map (·.1) = kvs.map (·.1)) (hv : VRs g h (kvs.map (·.2)) (us.map (·.2.2))) :
    (storedH us k a v).map (·.1) = (putD kvs k x).map (·.1) ∧ VRs g h ((putD kvs k x).map (·.2)) ((storedH us k a v).map (·.2.2)) := by
  have rep : ∀ {us : List (List Int × Addr × Value)} {kvs : List (List Int × V)}, us.map (·.1) = kvs.map (·.1) → VRs g h (kvs.map (·.2)) (us.map (·.2.2)) →
      (us.map (putAt k v)).map (·.1) = (kvs.map (fun kv => if kv.1 = k then (kv.1, x) else kv)).map (·.1) ∧ VRs g h ((kvs.map (fun kv => if kv.1 = k then (kv.1, x) else kv)).map (·.2)) ((us.map (putAt k v)).map (·.2.2)) := by
    intro us
    induction us with
    | nil =>
      intro kvs hk hv
      cases kvs with
      | nil => exact ⟨rfl, VRs_nil⟩
      | cons _ _ => simp at hk
    | cons u us ih =>
      intro kvs hk hv
      cases kvs with
      | nil => simp at hk
      | cons kv kvs =>
        simp only [List.map_cons, List.cons.injEq] at hk
        obtain ⟨w, ws, hw, hv1, hv2⟩ := VRs_cons_inv hv
        simp only [List.map_cons, List.cons.injEq] at hw
        obtain ⟨rfl, rfl⟩ := hw
        obtain ⟨i1, i2⟩ := ih hk.2 hv2
        simp only [List.map_cons]
        unfold putAt at i1 i2 ⊢
        by_cases z : u.1 = k
        · have z' : kv.1 = k := hk.1 ▸ z
          rw [if_pos z, if_pos z']
          exact ⟨by rw [i1]; simp [hk.1], VRs_cons hx i2⟩
        · have z' : ¬ kv.1 = k := hk.1 ▸ z
          rw [if_neg z, if_neg z']
          exact ⟨by rw [i1]; simp [hk.1], VRs_cons hv1 i2⟩
  have hany : (atKey us k).isSome = kvs.any fun kv => decide (kv.1 = k) := by
    rw [← any_fst hk k]
    unfold atKey
    rw [Option.isSome_map, Bool.eq_iff_iff, List.find?_isSome]
    simp
  unfold storedH putD
  rw [hany]
  split
  · exact rep hk hv
  · exact ⟨by simp [hk], by simpa using VRs_append hv (VRs_cons hx VRs_nil)⟩
variable {g : Gr} {sc csc : Scope} {r : Nat} {c : Bool} {K : Frag}
theorem DictAt_of {K' : Type} [DecidableEq K'] {prog : Program} {w : World} {knd : KeyKind prog w K'} {h : Heap} {a : Addr} {kvs : List (K' × Value)} (x : h.DictOf knd a kvs) : ∃ ep, h.DictAt knd a kvs ep := let ⟨o, es, ep, r⟩ := x; ⟨ep, o, es, r⟩
theorem sndS_setItem {o i value : Expr} {pos' pos : Pos} {to ti tv : TE} (h1 : SndE g sc r c o to) (h2 : SndE g sc r c i ti) (h3 : SndE g sc r c value tv) (hs : ∀ env, swapsWith value (some (.Subscript o i pos')) pos.line env = pure false) :
    SndS g sc r c (.Assign [.Subscript o i pos'] value pos) (tSetItem to ti tv) := .mk fun A env s ℓ σ Q E X h => by
  refine wpAny_Assign_Subscript (wpAny_mono (h3.run A env s ℓ σ _ _ X h) (fun v s₁ p => ?_) fun _ _ p => p.toS X) (hs env)
  obtain ⟨xv, σ₁, hv, hR1, hx1, hs1, hq⟩ := p
  have X1 := X.step hR1 hx1
  refine wpAny_mono (h1.run A env s₁ ℓ σ₁ _ _ X1 hq) (fun ov s₂ p => ?_) fun _ _ p => (p.toS X1).back hx1.own hs1
  obtain ⟨xo, σ₂, ho, hR2, hx2, hs2, hq⟩ := p
  have X2 := X1.step hR2 hx2
  have hx12 := hx1.trans hx2
  have hs12 := hs1.trans hs2
  refine wpAny_mono (h2.run A env s₂ ℓ σ₂ _ _ X2 hq) (fun iv s₃ p => ?_) fun _ _ p => (p.toS X2).back hx12.own hs12
  obtain ⟨xi, σ₃, hi, hR3, hx3, hs3, hq⟩ := p
  have X3 := X2.step hR3 hx3
  have hv3 := (hx2.trans hx3).vr hR1 noSeq_no hv
  have ho3 := hx3.vr hR2 noSeq_no ho
  refine wpAny_mono (Q := fun _ s' => PostS g env s₃ σ₃ Q .next s') ?_ (fun _ _ p => p.back (hx12.trans hx3).own (hs12.trans hs3)) fun _ _ (p : False) => p.elim
  unfold setItemV at hq
  split at hq
  · rename_i a _
    rw [VR_ref.mp ho3]
    split at hq
    · rename_i xs e
      obtain ⟨j, rfl, hj, hq⟩ := hq
      obtain ⟨t, rfl⟩ := VR_int.mp hi
      obtain ⟨hf, us, n, hou, hvs⟩ := (hR3.own a _ e).2
      have hlen : xs.length = us.size := by have := VRs_length hvs; simpa using this
      have hfl := hf
      unfold Fits at hfl
      refine setItem_plain hou (by omega) (by omega) (by omega) fun h' n' ho' sb => ?_
      refine post_changed (tk := s₃.toks) (ao' := .list (xs.set j xv)) X3 e sb (fun tk => ⟨by simpa using hf, _, n', ho', ?_⟩) hq
      have := VRs_set (VR.mono tk hv3) j (VRs.mono tk hvs)
      simpa using this
    · rename_i kvs ep e
      obtain ⟨k, rfl, hft, hq⟩ := hq
      obtain ⟨t, rfl⟩ := VR_int.mp hi
      obtain ⟨hf, us, hd, hk, hvs⟩ := (hR3.own a _ e).2
      have hlen : kvs.length = us.length := by have := congrArg List.length hk; simpa using this.symm
      refine wpAny_setItem_pairs (knd := intKind g.prog g.w) (k := k) (by simp [intKind, Value.isInt]) hd.dictOf (fun h' hd' sb => ?_) (by rw [← hlen]; exact hf.line)
      obtain ⟨ep', hd'⟩ := DictAt_of hd'
      refine post_changed (ao' := .dictI (putD kvs k xv) ep') X3 e sb (fun tk => ⟨hft.le (putD_length _ _ _), _, hd', ?_⟩) (hq ep')
      exact stored_put (VR.mono tk hv3) hk (VRs.mono tk hvs)
    · rename_i kvs ep e
      obtain ⟨ks, rfl, hft, hq⟩ := hq
      obtain ⟨ka, rfl, nh, hka⟩ := tupleKey_of hi
      obtain ⟨hf, us, hd, hk, hvs⟩ := (hR3.own a _ e).2
      have hlen : kvs.length = us.length := by have := congrArg List.length hk; simpa using this.symm
      refine wpAny_setItem_heap (knd := tupleKind (intKind g.prog g.w)) (tupleKind_room_in1 (by have := X3.room.cline; omega)) hka hd.ofH (fun h' hd' sb => ?_) (by rw [← hlen]; exact hf.line)
      obtain ⟨o', es', ep', g1, g2, g3, g4, g5, g6⟩ := hd'
      have hh : ∀ y ∈ us, ¬ g.hid y.2.1 := by obtain ⟨_, _, _, _, _, _, q, _⟩ := hd; exact fun y hy => (q y hy).1
      refine post_changed (ao' := .dictT (putD kvs ks xv) ep') X3 e sb (fun tk => ⟨hft.le (putD_length _ _ _), storedH us ks ka v, ⟨o', es', g1, g2, g3, g4, fun y hy => ⟨?_, g5 y hy⟩, g6⟩, ?_⟩) (hq ep')
      · unfold storedH at hy
        split at hy
        · obtain ⟨z, hz, rfl⟩ := List.mem_map.1 hy
          unfold putAt; split <;> exact hh z hz
        · rcases List.mem_append.1 hy with q | q
          · exact hh y q
          · rw [List.mem_singleton.1 q]; exact nh
      · exact storedH_put (VR.mono tk hv3) hk (VRs.mono tk hvs)
    · exact hq.elim
  · exact hq.elim
end
section
open PySem PyProof.Rows
variable {g : Gr} {sc csc : Scope} {r : Nat} {c : Bool}
/-! ## what is never reached -/
noncomputable def tDead : TS := fun _ _ _ _ => False
theorem sndS_dead {st : Stmt} : SndS g sc r c st tDead := .mk fun A env s ℓ σ Q E X h => False.elim h
/-! ## while -/
noncomputable def tWhile (tt : TB) (tb : TS) : TS := fun ℓ σ Q E => ∃ I : Nat → Loc → AH → Prop, (∃ n, I n ℓ σ) ∧ ∀ n ℓ σ, I n ℓ σ → tt ℓ σ (fun b σ₂ => match b with
    | true => tb ℓ σ₂ (fun f ℓ₃ σ₃ => match f with
      | .next => ∃ m, m < n ∧ I m ℓ₃ σ₃
      | .cont => ∃ m, m < n ∧ I m ℓ₃ σ₃
      | .brk => Q .next ℓ₃ σ₃
      | .ret v => Q (.ret v) ℓ₃ σ₃) E
    | false => Q .next ℓ σ₂) fun C σ' => E C ℓ σ'
theorem sndS_while {test : Expr} {body : List Stmt} {pos : Pos} {tt : TB} {tb : TS} (ht : SndB g sc r c test tt) (hb : SndSs g sc r c body tb) : SndS g sc r c (.While test body [] pos) (tWhile tt tb) := .mk fun A env s ℓ σ Q E X h => by
  obtain ⟨I, ⟨n0, h0⟩, hI⟩ := h
  refine wpAny_While (codeAny_whileLoop (fun n s' => ∃ ℓ' σ', I n ℓ' σ' ∧ LR g s'.heap σ' env ℓ' ∧ Rel g s'.heap σ' ∧ Ext (Own env) s.heap σ s'.heap σ' ∧ Same s s') ?_ n0 ⟨ℓ, σ, h0, X.loc, X.rel, .refl, .refl⟩)
  rintro n s' ⟨ℓ', σ', hi, hL, hR, hx, hsm⟩
  have X' : Cx g sc r c A env s'.heap σ' ℓ' := X.stepS hL hR hx
  refine wpAny_mono (ht.run A env s' ℓ' σ' _ _ X' (hI n ℓ' σ' hi)) (fun b s₂ p => ?_) fun e s₂ p => ((p.toS X').back hx hsm).noted fun e s' p => p.came fun e s' p => p
  obtain ⟨b', σ₂, rfl, hR2, hx2, hs2, hq⟩ := p
  have X2 := X'.step hR2 hx2
  have hx02 : Ext (Own env) s.heap σ s₂.heap σ₂ := hx.trans hx2.own
  have hs02 : Same s s₂ := hsm.trans hs2
  cases b' with
  | true =>
    simp only [if_true]
    refine wpAny_mono (hb.run A env s₂ ℓ' σ₂ _ E X2 hq) (fun f s₃ p => ?_) fun e s₃ p => (p.back hx02 hs02).noted fun e s' p => p.came fun e s' p => p
    obtain ⟨f', ℓ₃, σ₃, hf', hL3, hR3, hx3, hs3, hq⟩ := p
    cases f' with
    | next => cases hf'; obtain ⟨m, hm, hi'⟩ := hq; exact ⟨m, hm, ℓ₃, σ₃, hi', hL3, hR3, hx02.trans hx3, hs02.trans hs3⟩
    | cont => cases hf'; obtain ⟨m, hm, hi'⟩ := hq; exact ⟨m, hm, ℓ₃, σ₃, hi', hL3, hR3, hx02.trans hx3, hs02.trans hs3⟩
    | brk => cases hf'; exact ⟨.next, ℓ₃, σ₃, rfl, hL3, hR3, hx02.trans hx3, hs02.trans hs3, hq⟩
    | ret v => obtain ⟨u, rfl, hu⟩ := hf'; exact ⟨.ret v, ℓ₃, σ₃, ⟨u, rfl, hu⟩, hL3, hR3, hx02.trans hx3, hs02.trans hs3, hq⟩
  | false =>
    simp only [Bool.false_eq_true, if_false]
    exact wpAny_execs_nil ⟨.next, ℓ', σ₂, rfl, X2.loc, hR2, hx02, hs02, hq⟩
/-! ## the values of a dict are walked through -/
theorem iters_values (a I : Addr) (kvs : List (Int × V)) (ep : Nat) : Iters g (kvs.map (·.2)) (fun σ => σ a = some (.dictI kvs ep)) I (· = I) (fun k h => h.IsValIter I a k kvs.length ep) false where
  stab := fun k h h' st _ kp => st.at fun o e => kp I o rfl e
  flds := fun k h b st e => by subst e; obtain ⟨o, ho, _, hd⟩ := st; exact ⟨o, ho, .inr ⟨_, hd⟩⟩
  self := fun k A E s Q st h => wpAny_pyIter_valiter st h
  item := fun k x A E s σ target Q hx st R iv off _ h => by
    obtain ⟨hf, us, hd, hk, hv⟩ := (R.own a _ iv).2
    have hlen : kvs.length = us.length := by have := congrArg List.length hk; simpa using this.symm
    obtain ⟨v, e, hxv⟩ := VRs_get hv hx
    rw [List.getElem?_map] at e
    cases eu : us[k]? with
    | none => rw [eu] at e; cases e
    | some p =>
      obtain ⟨kk, v'⟩ := p
      rw [eu] at e; cases e
      obtain ⟨oI, hoI, hcI, hdI⟩ := id st
      refine wpAny_pyNext_values_item (hlen ▸ st) hd eu fun h' st' sb => ?_
      obtain ⟨o', ho', hc', hd'⟩ := id st'
      refine letGo_plain ho' hc' hd' (by decide) (h _ _ (fun b o nb e => sb.extBut b o nb e) ⟨rfl, rfl, rfl⟩ (hlen ▸ st') (VR.mono (tupsKept_one hoI hdI sb.extBut) hxv))
  last := fun k A E s σ Q hk' hh st R iv off h => by
    obtain ⟨hf, us, hd, hk, hv⟩ := (R.own a _ iv).2
    have hlen : kvs.length = us.length := by have := congrArg List.length hk; simpa using this.symm
    refine wpAny_pyNext_values_end hh (hlen ▸ st) hd (List.getElem?_eq_none (by simpa [hlen] using hk')) fun h' eb => h { s with heap := h' } (fun b o nb e => eb b o nb e) ⟨rfl, rfl, rfl⟩
noncomputable def tValues (t : TE) : TI := fun ℓ σ Q E => t ℓ σ (fun x σ₁ => match x with
  | .ref a => match σ₁ a with | some (.dictI kvs ep) => Q (kvs.map (·.2)) (fun σ => σ a = some (.dictI kvs ep)) false σ₁ | _ => False
  | _ => False) E
theorem sndI_values {e : Expr} {apos pos : Pos} {t : TE} (h1 : SndE g sc r c e t) (hbase : isCall e = false) (hline : (apos.endLine == pos.line) = true) : SndI g sc r c (.Call (.Attribute e (Str.ofString "values") apos) [] [] pos) (tValues t) := .mk fun A env s ℓ σ Q E X h => by
  refine wpAny_Call_method (base_plain hbase) (few_plain (args := []) rfl rfl) hline F.plainAttrs_dict F.slot_dict_values F.type_dict_values (wpAny_mono (h1.run A env s ℓ σ _ E X h) (fun v s₁ p => ?_) fun _ _ p => p)
  obtain ⟨x, σ₁, hv, hR, hx, hs1, hq⟩ := p
  cases x with
  | ref a =>
    rw [VR_ref.mp hv]
    simp only at hq
    split at hq
    · rename_i kvs ep e
      obtain ⟨hf, us, hd, hk, hvs⟩ := (hR.own a _ e).2
      have hlen : kvs.length = us.length := by have := congrArg List.length hk; simpa using this.symm
      have ht := typeV_at hR hv (T := "dict") (by simp [typeV, e])
      rw [VR_ref.mp hv] at ht
      refine ⟨ht.1, ht.2, ?_⟩
      refine callWith_ok (g := g) (.inr (.inl ⟨_, rfl⟩)) (backTo_plain (es := []) rfl pos env) (Calls.spliced_nil ⟨fun a o e => hR.base a o e, ?_⟩)
      refine call_meetsIn F.slot_dict_values hd.dictOf.typeIs F.entry_dict_values (F.args_dict_values_1 _) (meets_dict_values (intKind g.prog g.w) a (sysMod_ne X.gok hR e)) ⟨⟨us, hd.dictOf⟩, ?_⟩
      have kp := push_keeps s₁.heap { cls := .type "dict_values", data := .fields #[.ref a] }
      refine wpAny_pyIter_values (knd := intKind g.prog g.w) ⟨_, Heap.get?_push_size _ rfl, rfl, rfl⟩ (hd.push _) ?_
      rw [← hlen]
      exact postI_one (s₁ := { s₁ with heap := s₁.heap.push { cls := .type "dict_values", data := .fields #[.ref a] } }) (hR.keeps kp) (hx.trans (.keeps kp)) (hs1.trans ⟨rfl, rfl, rfl⟩) (iters_values a _ kvs ep) ⟨_, Heap.get?_push_size _ rfl, rfl, rfl⟩ (by simpa using hf) hq
    · exact hq.elim
  | _ => exact hq.elim
/-- a comprehension whose parts only add to the heap -/
theorem compT_grow {α : Type} {t : Tgt} {inv : AH → Prop} {tifs : TB} {telt : TE} {ℓ : Loc} {σ : AH} {Q : List V → AH → Prop} {E : Addr → AH → Prop} (f : α → V) (p : α → Bool) (F : α → V) (hinv : ∀ σ', Sub σ σ' → inv σ') :
    ∀ (xs : List α) (acc : List V) (σ₀ : AH), Sub σ σ₀ → (∀ x ∈ xs, ∀ σ', Sub σ σ' → ∃ ℓ₁, (∀ P : Loc → Prop, P ℓ₁ → bindV t (f x) ℓ.bare σ' P) ∧ (∀ Qb : Bool → AH → Prop, (∀ σ'', Sub σ' σ'' → Qb (p x) σ'') → tifs ℓ₁ σ' Qb E) ∧
        (p x = true → ∀ σ'', Sub σ' σ'' → ∀ Qv : V → AH → Prop, (∀ σ₃, Sub σ'' σ₃ → Qv (F x) σ₃) → telt ℓ₁ σ'' Qv E)) →
      (∀ σ', Sub σ σ' → Q (acc ++ (xs.filter p).map F) σ') → compT t inv tifs telt ℓ (xs.map f) acc σ₀ Q E
  | [], acc, σ₀, h0, _, h => ⟨hinv σ₀ h0, by simpa using h σ₀ h0⟩
  | x :: xs, acc, σ₀, h0, hs, h => by
    obtain ⟨ℓ₁, h1, h2, h3⟩ := hs x (.head _) σ₀ h0
    have ih := compT_grow (t := t) (inv := inv) (tifs := tifs) (telt := telt) (ℓ := ℓ) (E := E) (Q := Q) f p F hinv xs
    refine ⟨hinv σ₀ h0, h1 _ (h2 _ fun σ₁ s1 => ?_)⟩
    cases e : p x with
    | true =>
      refine h3 e σ₁ s1 _ fun σ₂ s2 => ih _ σ₂ ((h0.trans s1).trans s2) (fun y hy => hs y (.tail _ hy)) fun σ' hσ' => ?_
      have := h σ' hσ'
      rw [List.filter_cons_of_pos (by simpa using e)] at this
      simpa using this
    | false =>
      refine ih _ σ₁ (h0.trans s1) (fun y hy => hs y (.tail _ hy)) fun σ' hσ' => ?_
      have := h σ' hσ'
      rw [List.filter_cons_of_neg (by simp [e])] at this
      exact this
end
section
open PySem PySem.W PyProof.Rows
variable {g : Gr} {sc csc : Scope} {r : Nat} {c : Bool} {K : Frag}
/-- a list was made in a call -/
theorem post_madeList {s : Shared} {σ : AH} {Q : V → AH → Prop} {h' : Heap} {tk : Nat} {b : Addr} {us : Array Value} {n : Nat} {xs : List V} (R : Rel g s.heap σ) (kp : ∀ a o, s.heap.get? a = some o → h'.get? a = some o) (hb : s.heap.get? b = none) (ho : h'.get? b = some { cls := .type "list", data := .seq us n }) (hf : Fits xs.length)
    (hv : VRs g h' xs us.toList) (hq : σ b = none → Q (.ref b) (σ.set b (.list xs))) : PostE g s σ Q (.ref b) { s with heap := h', toks := tk } :=
  ⟨.ref b, _, VR_ref.mpr rfl, R.alloc (ao := .list xs) kp hb ⟨hf, us, n, ho, hv⟩, .alloc kp hb, ⟨rfl, rfl, rfl⟩, hq (R.fresh hb)⟩
/-! ## list(range(n)) -/
noncomputable def tListRange (t : TE) : TE := fun ℓ σ Q E => t ℓ σ (fun x σ₁ => match x with | .int n => 0 ≤ n ∧ Fits n.toNat ∧ (∀ a, σ₁ a = none → Q (.ref a) (σ₁.set a (.list (rangeV 0 n.toNat)))) | _ => False) E
theorem rangeV_VRs {h : Heap} {n : Nat} {acc : List Value} (hl : acc.length = n) (hv : ∀ (i : Nat) v, acc[i]? = some v → ∃ t, v = Value.int (i : Int) t) : VRs g h (rangeV 0 n) acc := by
  have key : ∀ (acc : List Value) (k : Nat), (∀ (i : Nat) v, acc[i]? = some v → ∃ t, v = Value.int ((k + i : Nat) : Int) t) → VRs g h ((List.range' k acc.length).map fun (i : Nat) => V.int (i : Int)) acc := by
    intro acc
    induction acc with
    | nil => intro k _; exact VRs_nil
    | cons a acc ih =>
      intro k h1
      rw [List.length_cons, List.range'_succ, List.map_cons]
      refine VRs_cons (VR_int.mpr ?_) (ih (k + 1) fun i v e => ?_)
      · simpa using h1 0 a rfl
      · obtain ⟨t, q⟩ := h1 (i + 1) v (by simpa using e)
        exact ⟨t, by rw [q]; congr 1; omega⟩
  have := key acc 0 (by simpa using hv)
  rw [hl] at this
  unfold rangeV
  rw [List.range_eq_range']
  simpa using this
theorem sndE_listRange {e : Expr} {p p' pos pos' : Pos} {t : TE} (hm : (Str.ofString "list", NameKind.globalImplicit) ∈ sc.names) (hb : Known g "list" (.type "list")) (hm' : (Str.ofString "range", NameKind.globalImplicit) ∈ sc.names) (hb' : Known g "range" (.type "range")) (h1 : SndE g sc r true e t) (hs : isStar e = false) :
    SndE g sc r true (.Call (.Name (Str.ofString "list") p) [.Call (.Name (Str.ofString "range") p') [e] [] pos'] [] pos) (tListRange t) := .mk fun A env s ℓ σ Q E X h => by
  show wpAny _ A (do callWith pos (← eval (.Name (Str.ofString "list") p) env) [] (backTo pos (starEach [.Call (.Name (Str.ofString "range") p') [e] [] pos'] env)) (backToKw pos (keywordEach [] env))) _ _ s
  refine wpAny_bind (name_global X hm hb ?_)
  rw [starEach_cons (es := []) env rfl]
  refine callWith_ok (.inr (.inr ⟨_, rfl⟩)) rfl ?_
  show wpAny _ A (spliced [(false, eval (.Call (.Name (Str.ofString "range") p') [e] [] pos') env)]) _ _ s
  refine Calls.spliced_cons ?_
  show wpAny _ A (do callWith pos' (← eval (.Name (Str.ofString "range") p') env) [] (backTo pos' (starEach [e] env)) (backToKw pos' (keywordEach [] env))) _ _ s
  refine wpAny_bind (name_global X hm' hb' ?_)
  rw [starEach_cons (es := []) env hs]
  refine callWith_ok (.inr (.inr ⟨_, rfl⟩)) rfl ?_
  show wpAny _ A (spliced [(false, eval e env)]) _ _ s
  refine Calls.spliced_cons (wpAny_mono (h1.run A env s ℓ σ _ E X h) (fun v s₁ p => ?_) fun _ _ p => p)
  obtain ⟨x, σ₁, hv, hR, hx, hs1, hq⟩ := p
  refine Calls.spliced_nil ⟨fun a o e => hR.base a o e, ?_⟩
  cases x with
  | int n =>
    obtain ⟨t, rfl⟩ := VR_int.mp hv
    refine call_range_1 ?_
    have kp := push_keeps s₁.heap { cls := .type "range", data := .fields #[.int 0 s₁.toks, .int n t, .int 1 (s₁.toks + 1)] }
    obtain ⟨h0, hf, hq⟩ := hq
    have hn : n.toNat ≤ 1000000 := hf
    have hR' := hR.keeps kp
    refine Calls.spliced_nil ⟨fun a o e => hR'.base a o e, ?_⟩
    refine call_list_range (n := n.toNat) (s := { s₁ with heap := s₁.heap.push { cls := .type "range", data := .fields #[.int 0 s₁.toks, .int n t, .int 1 (s₁.toks + 1)] }, toks := s₁.toks + 2 }) (X.room.calm rfl) (IsRange.new ..) (small_one (by decide) (by decide) (by omega) (by omega)) (by rw [rangeSize_one]; split <;> omega) (by omega) fun h' tk acc c' hk ho hacc => ?_
    have x1 : Ext No s.heap σ (s₁.heap.push { cls := .type "range", data := .fields #[.int 0 s₁.toks, .int n t, .int 1 (s₁.toks + 1)] }) σ₁ := hx.trans (.keeps kp)
    refine Post.back (s₁ := { s₁ with heap := s₁.heap.push { cls := .type "range", data := .fields #[.int 0 s₁.toks, .int n t, .int 1 (s₁.toks + 1)] }, toks := s₁.toks + 2 }) x1 (hs1.trans ⟨rfl, rfl, rfl⟩) ?_
    refine post_madeList (s := { s₁ with heap := s₁.heap.push { cls := .type "range", data := .fields #[.int 0 s₁.toks, .int n t, .int 1 (s₁.toks + 1)] }, toks := s₁.toks + 2 }) (xs := rangeV 0 n.toNat) hR' hk (size_fresh _) ho (by simpa [rangeV] using hf) (rangeV_VRs (by rw [Array.length_toList]; exact hacc.1) fun i v e => ?_) (hq _)
    obtain ⟨t, q⟩ := hacc.2 i v (by rw [← Array.getElem?_toList]; exact e)
    exact ⟨t, by rw [q]; congr 1; omega⟩
  | _ => exact hq.elim
/-! ## a list times an int -/
noncomputable def tMulList (t₁ t₂ : TE) : TE := fun ℓ σ Q E => t₁ ℓ σ (fun a σ₁ => t₂ ℓ σ₁ (fun b σ₂ => ∃ l xs n, a = .ref l ∧ σ₂ l = some (.list xs) ∧ b = .int n ∧ 0 ≤ n ∧ Fits n.toNat ∧ Fits (xs.length * n.toNat) ∧ ∀ d, σ₂ d = none → Q (.ref d) (σ₂.set d (.list (List.replicate n.toNat xs).flatten))) E) E
theorem VRs_rep {h : Heap} {xs : List V} {vs : List Value} (a : VRs g h xs vs) : ∀ n : Nat, VRs g h (List.replicate n xs).flatten (List.replicate n vs).flatten
  | 0 => VRs_nil
  | n + 1 => by rw [List.replicate_succ, List.replicate_succ, List.flatten_cons, List.flatten_cons]; exact VRs_append a (VRs_rep a n)
theorem sndE_mulList {e₁ e₂ : Expr} {t₁ t₂ : TE} {pos : Pos} (h1 : SndE g sc r c e₁ t₁) (h2 : SndE g sc r c e₂ t₂) : SndE g sc r c (.BinOp e₁ .Mult e₂ pos) (tMulList t₁ t₂) := .mk fun A env s ℓ σ Q E X h => by
  refine wpAny_BinOp (wpAny_mono (h1.run A env s ℓ σ _ E X h) (fun u s₁ p => ?_) fun _ _ p => p)
  obtain ⟨a, σ₁, hu, hR, hx, hs, hq⟩ := p
  have X₁ := X.step hR hx
  refine wpAny_mono (h2.run A env s₁ ℓ σ₁ _ E X₁ hq) (fun v s₂ p => ?_) fun _ _ p => p.back hx hs
  obtain ⟨b, σ₂, hv, hR2, hx2, hs2, l, xs, n, rfl, e, rfl, h0, hn, hf, hq⟩ := p
  refine wp_back (hx.trans hx2) (hs.trans hs2) ?_
  obtain ⟨t, rfl⟩ := VR_int.mp hv
  rw [VR_ref.mp hu]
  obtain ⟨hfx, us, k, ho, hvs⟩ := (hR2.own l _ e).2
  have hlen : xs.length = us.size := by have := VRs_length hvs; simpa using this
  have hff : us.size * n.toNat ≤ 1000000 := by rw [← hlen]; exact hf
  have hn : n.toNat ≤ 1000000 := hn
  refine wpAny_binaryOp_repeat_ref (T := "list") (U := "int") (by decide) ⟨_, ho, rfl⟩ (fun s' => typeIs_int s' n t) noFill_list_mul F.fills_int_mul F.slot_int_rmul repeat_list F.slot_int_index.lookup
    (call_meets F.slot_int_rmul (typeIs_int s₂ n t) F.entry_int_rmul (F.args_int_rmul_2 _ _) (lm_int_rmul_list_any n t l us k none #[])
      ⟨ho, rfl, ⟨_, ho, rfl⟩, call_meets F.slot_list_mul ⟨_, ho, rfl⟩ F.entry_list_mul (F.args_list_mul_2 _ _)
        (lm_list_mul_any l us k none #[] n t (by simp [Builtin.List.listFitsIndex]; omega) (by omega) (by simp [Builtin.List.listTooLong, sizeLine]; omega)) ⟨ho, ?_⟩⟩)
  rw [listMul_foldl_if]
  exact post_newList .refl .refl hR2 (VRs_rep hvs n.toNat) (by simpa [List.length_flatten, Nat.mul_comm] using hf) hq rfl
/-! ## a list backwards -/
noncomputable def tSliceR (t ts : TE) : TE := fun ℓ σ Q E => t ℓ σ (fun o σ₁ => ts ℓ σ₁ (fun st σ₂ => ∃ l xs, o = .ref l ∧ st = .int (-1) ∧ σ₂ l = some (.list xs) ∧ ∀ d, σ₂ d = none → Q (.ref d) (σ₂.set d (.list xs.reverse))) E) E
theorem slicePick_rev (items : Array Value) : (slicePick items none none (some (-1))).toList = items.toList.reverse := by
  have hb : sliceBounds none none (some (-1)) items.size = ((items.size : Int) - 1, -1, -1) := rfl
  unfold slicePick
  rw [hb]
  have hr : sliceRange ((items.size : Int) - 1) (-1) (-1) = (List.range items.size).reverse := by
    unfold sliceRange
    have hc : (if ((-1 : Int) > 0) then (if ((items.size : Int) - 1) < -1 then ((-1) - ((items.size : Int) - 1) + (-1) - 1) / (-1) else 0) else (if ((items.size : Int) - 1) > -1 then (((items.size : Int) - 1) - (-1) - (-1) - 1) / (-(-1)) else 0)) = (items.size : Int) := by
      rw [if_neg (by decide)]
      split
      · simp
      · omega
    simp only [hc]
    apply List.ext_getElem?
    intro i
    rw [List.getElem?_map]
    rcases Nat.lt_or_ge i items.size with q | q
    · rw [List.getElem?_range (by simpa using q), List.getElem?_reverse (by simpa using q), List.length_range, List.getElem?_range (by omega)]
      simp only [Option.map_some, Option.some.injEq]
      omega
    · rw [List.getElem?_eq_none (by simpa using q), List.getElem?_eq_none (by simpa using q)]; rfl
  simp only [hr]
  rw [List.toList_toArray, List.filterMap_reverse]
  congr 1
  apply List.ext_getElem?
  intro i
  have : (List.range items.size).filterMap (fun x => items[x]?) = items.toList := by
    apply List.ext_getElem?
    intro j
    have h1 : ∀ n, n ≤ items.size → (List.range n).filterMap (fun x => items[x]?) = items.toList.take n := by
      intro n
      induction n with
      | zero => intro _; simp
      | succ n ih =>
        intro hn
        rw [List.range_succ, List.filterMap_append, ih (by omega), List.take_add_one]
        congr 1
        rw [List.filterMap_cons_some (Array.getElem?_eq_getElem (by omega))]
        simp [show n < items.size by omega]
    rw [h1 _ (Nat.le_refl _), List.take_of_length_le (by simp)]
  rw [this]
theorem VRs_reverse {h : Heap} : ∀ {xs : List V} {vs : List Value}, VRs g h xs vs → VRs g h xs.reverse vs.reverse
  | [], vs, a => by rw [VRs_nil_inv a]; exact VRs_nil
  | x :: xs, vs, a => by obtain ⟨v, r, rfl, hv, c⟩ := VRs_cons_inv a; rw [List.reverse_cons, List.reverse_cons]; exact VRs_snoc (VRs_reverse c) hv
theorem sndE_sliceR {e st : Expr} {t ts : TE} {p pos : Pos} (h0 : SndE g sc r c e t) (h1 : SndE g sc r c st ts) : SndE g sc r c (.Subscript e (.Slice none none (some st) p) pos) (tSliceR t ts) := .mk fun A env s ℓ σ Q E X h => by
  refine Subscript_ (wpAny_mono (h0.run A env s ℓ σ _ E X h) (fun u s₁ q => ?_) fun _ _ q => q)
  obtain ⟨o, σ₁, hu, hR, hx, hs1, hq⟩ := q
  have X₁ := X.step hR hx
  refine wpAny_Slice ?_
  rw [evalPart_none]
  refine wpAny_pure (wpAny_pure ?_)
  show wpAny _ A (eval st env) _ _ s₁
  refine wpAny_mono (h1.run A env s₁ ℓ σ₁ _ E X₁ hq) (fun vs s₂ q => ?_) fun _ _ q => q.back hx hs1
  obtain ⟨st', σ₂, hv, hR2, hx2, hs2, l, xs, rfl, rfl, e, hq⟩ := q
  obtain ⟨tt, rfl⟩ := VR_int.mp hv
  rw [VR_ref.mp hu]
  have hk := push_keeps s₂.heap { cls := .type "slice", data := .fields #[.none, .none, .int (-1) tt] }
  have sub : ∀ a b, subscripted (.Slice none none (some st) p) false a b = operate [a, b] (getItem a b) := fun _ _ => rfl
  obtain ⟨hf, us, n, ho, hvs⟩ := (hR2.own l _ e).2
  have hlen : xs.length = us.size := by have := VRs_length hvs; simpa using this
  refine tail_any (typeIs_at (s := { s₂ with heap := s₂.heap.push { cls := .type "slice", data := .fields #[.none, .none, .int (-1) tt] } }) (hk _ _ ho) rfl) slot_list_getitem.lookup ?_ (sub _ _)
  refine wpAny_getItem_list_slice (s := { s₂ with heap := s₂.heap.push { cls := .type "slice", data := .fields #[.none, .none, .int (-1) tt] } }) ⟨_, hk _ _ ho, rfl, n, rfl⟩ (Heap.IsSliceOf.new ..) .none .none (.int (-1) tt) (by simp) ?_ (by rw [← hlen]; exact hf.line)
  refine post_newList (vs := (slicePick us none none (some (-1))).toList) (n := 0) (s₁ := { s₂ with heap := s₂.heap.push { cls := .type "slice", data := .fields #[.none, .none, .int (-1) tt] } }) ((hx.trans hx2).trans (.keeps hk)) ((hs1.trans hs2).trans ⟨rfl, rfl, rfl⟩) (hR2.keeps hk) ?_ (by simpa using hf) hq rfl
  rw [slicePick_rev]
  exact VRs_reverse (VRs.mono (fun a o _ _ _ e _ _ => .of (hk a o e)) hvs)
/-! ## len(set(list of ints)) -/
noncomputable def tLenSet (t : TE) : TE := fun ℓ σ Q E => t ℓ σ (fun x σ₁ => match listInts x σ₁ with | some ns => ns.length < 1000 ∧ ∀ n : Nat, (ns.Nodup → n = ns.length) → Q (.int n) σ₁ | none => False) E
theorem firstMet_nodup (val : Nat → Int) (n : Nat) (h : ((List.range n).map val).Nodup) : (firstMet val n).length = n := by
  induction n with
  | zero => rfl
  | succ n ih =>
    rw [List.range_succ, List.map_append, List.nodup_append] at h
    have h1 := ih h.1
    rw [firstMet_succ]
    have hn : (firstMet val n).any (· == val n) = false := by
      rw [firstMet_any, List.any_eq_false]
      intro x hx q
      exact h.2.2 x hx (val n) (by simp) (by simpa using q)
    unfold step_dedup
    simp [hn, h1]
theorem sndE_lenSet {e : Expr} {p p' pos pos' : Pos} {t : TE} (hm : (Str.ofString "len", NameKind.globalImplicit) ∈ sc.names) (hb : Known g "len" (.builtin "len")) (hm' : (Str.ofString "set", NameKind.globalImplicit) ∈ sc.names) (hb' : Known g "set" (.type "set")) (h1 : SndE g sc r true e t) (hs : isStar e = false) :
    SndE g sc r true (.Call (.Name (Str.ofString "len") p) [.Call (.Name (Str.ofString "set") p') [e] [] pos'] [] pos) (tLenSet t) := .mk fun A env s ℓ σ Q E X h => by
  show wpAny _ A (do callWith pos (← eval (.Name (Str.ofString "len") p) env) [] (backTo pos (starEach [.Call (.Name (Str.ofString "set") p') [e] [] pos'] env)) (backToKw pos (keywordEach [] env))) _ _ s
  refine wpAny_bind (name_global X hm hb ?_)
  rw [starEach_cons (es := []) env rfl]
  refine callWith_ok (.inr (.inl ⟨_, rfl⟩)) rfl ?_
  show wpAny _ A (spliced [(false, eval (.Call (.Name (Str.ofString "set") p') [e] [] pos') env)]) _ _ s
  refine Calls.spliced_cons ?_
  show wpAny _ A (do callWith pos' (← eval (.Name (Str.ofString "set") p') env) [] (backTo pos' (starEach [e] env)) (backToKw pos' (keywordEach [] env))) _ _ s
  refine wpAny_bind (name_global X hm' hb' ?_)
  rw [starEach_cons (es := []) env hs]
  refine callWith_ok (.inr (.inr ⟨_, rfl⟩)) rfl ?_
  show wpAny _ A (spliced [(false, eval e env)]) _ _ s
  refine Calls.spliced_cons (wpAny_mono (h1.run A env s ℓ σ _ E X h) (fun v s₁ p => ?_) fun _ _ p => p)
  obtain ⟨x, σ₁, hv, hR, hx, hs1, hq⟩ := p
  refine Calls.spliced_nil ⟨fun a o e => hR.base a o e, ?_⟩
  split at hq
  · rename_i ns en
    obtain ⟨hsm, hq⟩ := hq
    obtain ⟨a, us, n, rfl, ho, hus⟩ := listInts_at hR hv en
    have hlen : ns.length = us.size := by have := VRs_length hus; simpa using this
    refine call_set_list (X.room.calm rfl) ⟨_, ho, rfl, n, rfl⟩ (intsAre_of hus) (by have : scanBound = 4096 := rfl; omega) fun h' tk hS kp => ?_
    have kp' : ∀ a o, s₁.heap.get? a = some o → h'.get? a = some o := fun a o e => kp a o (Heap.lt_size e) e
    refine Calls.spliced_nil ⟨fun a o e => (hR.keeps kp').base a o e, ?_⟩
    obtain ⟨oS, es, ep, tt, hoS, hcS, hdS, _, _, hlt, hfit, hsz⟩ := hS
    refine call_len_set hoS hcS hdS hfit (by have : scanBound = 4096 := rfl; omega) ?_
    refine ⟨.int (es.size : Nat), σ₁, VR_int.mpr ⟨_, rfl⟩, hR.keeps kp', hx.trans (.keeps kp'), hs1.trans ⟨rfl, rfl, rfl⟩, hq _ fun nd => ?_⟩
    rw [hsz, firstMet_nodup _ _ ?_, hlen]
    have e1 : (List.range us.size).map (fun i => ns.getD i 0) = ns := by
      apply List.ext_getElem?
      intro i
      rw [List.getElem?_map, ← hlen]
      rcases Nat.lt_or_ge i ns.length with q | q
      · rw [List.getElem?_range q]; simp [q]
      · rw [List.getElem?_eq_none (by simpa using q), List.getElem?_eq_none q]; rfl
    rw [e1]; exact nd
  · exact hq.elim
end
section
open PySem PySem.W PyProof.Rows
variable {prog : Program} {w : World}
/-- what is asked of two tuples -/
noncomputable def lex3 (a b : Int × Int × Int) : Bool := if a.1 = b.1 then (if a.2.1 = b.2.1 then decide (a.2.2 < b.2.2) else decide (a.2.1 < b.2.1)) else decide (a.1 < b.1)
theorem eqAt_int {A : Around} {s : Shared} (a b : Int) (t u : Tok) : SeqAt.EqAt A s (.int a t) (.int b u) (a == b) := SeqAt.EqAt.int_int a t b u
theorem tuple_lt {A : Around} {E : Value → Shared → Prop} {s : Shared} {Q : Value → Shared → Prop} {p q : Addr} {op oq : Obj} {xs ys : Array Value} {n m : Nat} {a b : Int × Int × Int} {t1 t2 t3 u1 u2 u3 : Tok} {x y : Value}
    (hp : s.heap.get? p = some op) (cp : op.cls = .type "tuple") (dp : op.data = .seq xs n) (hq : s.heap.get? q = some oq) (cq : oq.cls = .type "tuple") (dq : oq.data = .seq ys m)
    (hx : xs.toList = [.int a.1 t1, .int a.2.1 t2, .int a.2.2 t3, x]) (hy : ys.toList = [.int b.1 u1, .int b.2.1 u2, .int b.2.2 u3, y]) (he : a = b → SeqAt.EqAt A.in1 s x y true) (hu : A.units < cLine)
    (h : Q (.bool (lex3 a b)) s) : wpAny (model prog w) A (richCompare .Lt (.ref p) (.ref q)) Q E s := by
  refine wpAny_richCompare_same_room (op := .Lt) ⟨_, hp, cp⟩ ⟨_, hq, cq⟩ F.slot_tuple_lt (wpAny_call_entry F.slot_tuple_lt ⟨_, hp, cp⟩ F.entry_tuple_lt ?_ (F.args_tuple_lt_2 _ _)) hu
  show wpAny _ _ (isInstance (.ref q) (.type "tuple") >>= _) _ _ s
  refine wpAny_bind (wpAny_isInstance ⟨_, hq, cq⟩ isSubtype_tuple_tuple ?_)
  simp only [Bool.not_true, Bool.false_eq_true, if_false]
  refine wpAny_bind (wpAny_tupleItemsOf hp dp ?_)
  refine wpAny_bind (wpAny_tupleItemsOf hq dq ?_)
  rw [hx, hy]
  simp only [List.zip_cons_cons, List.zip_nil_left, List.forIn_cons, List.forIn_nil]
  have lt : ∀ {P : Value → Shared → Prop} {x y : Int} {t u : Tok}, P (.bool (decide (x < y))) s → wpAny (model prog w) A.in1 (richCompare .Lt (.int x t) (.int y u)) P E s := fun {P x y t u} hP =>
    richCompare_gives (op := .Lt) (typeIs_int s _ t) (typeIs_int s _ u) F.slot_int_lt F.entry_int_lt (F.args_int_lt_2 _ _) (gives_int_lt _ _ t u) (fun x => nomatch x) hP
  refine wpAny_bind (wpAny_bind (wpAny_bind (eqAt_int _ _ _ _ _ _ _ _ ?_)))
  by_cases h1 : a.1 = b.1
  case neg =>
    rw [if_pos (by simp [h1])]
    refine wpAny_bind (wpAny_rule (wpAny_bind (lt ?_)))
    refine wpAny_bind (wpAny_pure (wpAny_pure (wpAny_pure (wpAny_pure ⟨_, rfl, (fun e => nomatch e), ?_⟩))))
    unfold lex3 at h; rw [if_neg h1] at h; exact h
  case pos =>
    rw [if_neg (by simp [h1])]
    refine wpAny_pure (wpAny_bind (wpAny_bind (eqAt_int _ _ _ _ _ _ _ _ ?_)))
    by_cases h2 : a.2.1 = b.2.1
    case neg =>
      rw [if_pos (by simp [h2])]
      refine wpAny_bind (wpAny_rule (wpAny_bind (lt ?_)))
      refine wpAny_bind (wpAny_pure (wpAny_pure (wpAny_pure (wpAny_pure ⟨_, rfl, (fun e => nomatch e), ?_⟩))))
      unfold lex3 at h; rw [if_pos h1, if_neg h2] at h; exact h
    case pos =>
      rw [if_neg (by simp [h2])]
      refine wpAny_pure (wpAny_bind (wpAny_bind (eqAt_int _ _ _ _ _ _ _ _ ?_)))
      unfold lex3 at h; rw [if_pos h1, if_pos h2] at h
      by_cases h3 : a.2.2 = b.2.2
      case neg =>
        rw [if_pos (by simp [h3])]
        refine wpAny_bind (wpAny_rule (wpAny_bind (lt ?_)))
        exact wpAny_bind (wpAny_pure (wpAny_pure (wpAny_pure (wpAny_pure ⟨_, rfl, (fun e => nomatch e), h⟩))))
      case pos =>
        rw [if_neg (by simp [h3])]
        have hab : a = b := by
          obtain ⟨a1, a2, a3⟩ := a; obtain ⟨b1, b2, b3⟩ := b
          simp only at h1 h2 h3; rw [h1, h2, h3]
        refine wpAny_pure (wpAny_bind (wpAny_bind (he hab _ _ _ _ ?_)))
        rw [if_neg (by simp)]
        refine wpAny_pure (wpAny_pure ?_)
        have hsx : xs.size = 4 := by rw [← Array.length_toList, hx]; rfl
        have hsy : ys.size = 4 := by rw [← Array.length_toList, hy]; rfl
        show wpAny _ _ (ret (Builtin.Tuple.tupleCompareSizes .Lt xs.size ys.size)) _ _ _
        rw [hsx, hsy]
        refine wpAny_pure ⟨_, rfl, (fun e => nomatch e), ?_⟩
        rw [h3] at h
        simpa [Builtin.Tuple.tupleCompareSizes] using h
/-! ## the least of a list of tuples -/
section
variable {A : Around} {R : Result → Shared → Prop} {I : Addr} {fp wr : List Addr} {n : Nat} {P : Nat → Value → Prop} {St : Nat → Heap → Prop} {h0 : Heap}
noncomputable def KpAll (h0 h : Heap) : Prop := ∀ b o, h0.get? b = some o → h.get? b = some o
theorem min_loopH (W : Walks prog w A.in1 I fp wr n P St) (bt : Nat → Nat → Bool) (hwr : ∀ b ∈ wr, h0.get? b = none)
    (hcmp : ∀ i j vi vj (s : Shared) (Q : Value → Shared → Prop) (E : Value → Shared → Prop), P i vi → P j vj → KpAll h0 s.heap → Q (.bool (bt i j)) s → wpAny (model prog w) A.in1 (richCompare .Lt vi vj) Q E s) (S : Addr) (hSf : S ∉ fp) (hS0 : h0.get? S = none) :
    ∀ (k j : Nat) (s : Shared) (vb : Value) (c : Nat), n - (j + 1) = k → j + 1 ≤ n → St (j + 1) s.heap → KpAll h0 s.heap → P (argBest bt j) vb →
    s.heap.get? S = some { cls := .type "list", dict := none, data := .seq #[vb, vb] c, slots := #[] } →
    (∀ v h' tk, P (argBest bt (n - 1)) v → KpAll h0 h' → R (.ok (.ret v)) { s with heap := h', toks := tk }) →
    codeAny (model prog w) A (.builtin "min.loop" ⟨[.ref I, .none, .ref S], []⟩) R s := by
  have hSw : S ∉ wr := fun h => hSf (W.sub _ h)
  have hname : (toString "min" ++ toString ".loop" : String) = "min.loop" := by decide
  have kpI : ∀ {h h' : Heap}, KpAll h0 h → (∀ b o, b ∉ wr → h.get? b = some o → h'.get? b = some o) → KpAll h0 h' := fun {h h'} k q b o e => q b o (fun hb => by rw [hwr b hb] at e; cases e) (k b o e)
  have kpS : ∀ {h : Heap} {f}, KpAll h0 h → KpAll h0 (h.update S f) := fun {h f} k b o e => (Heap.get?_update_other _ _ (fun z : S = b => by rw [← z, hS0] at e; cases e)).trans (k b o e)
  intro k
  induction k with
  | zero =>
    intro j s vb c hk hj hst kp hPb hS hR
    have hin : j + 1 = n := by omega
    refine codeAny_builtin F.entry_min_loop ?_
    rw [Around.under_plainId F.plain_min_loop _]
    show wpAny _ A.in1 (seqItems? (.ref S) >>= _) _ _ s
    refine wpAny_bind (wpAny_seqItems hS rfl ?_)
    show wpAny _ A.in1 (tryCatch (pyNext (.ref I)) _ >>= _) _ _ s
    refine wpAny_bind (wpAny_tryCatch (W.done s _ _ (hin ▸ hst) fun h' tk hk' => ?_))
    have hS' := hk' S _ hSw hS
    show wpAny _ A.in1 (updateSeq S (fun _ => #[]) >>= _) _ _ _
    refine wpAny_bind ?_
    refine wpAny_updateSeq hS' rfl (wpAny_bind (wpAny_letGo (wpAny_pure ?_)))
    exact hR vb _ tk (by rw [← hin]; exact hPb) (kpS (kpI kp hk'))
  | succ k ih =>
    intro j s vb c hk hj hst kp hPb hS hR
    have hlt : j + 1 < n := by omega
    refine codeAny_builtin F.entry_min_loop ?_
    rw [Around.under_plainId F.plain_min_loop _]
    show wpAny _ A.in1 (seqItems? (.ref S) >>= _) _ _ s
    refine wpAny_bind (wpAny_seqItems hS rfl ?_)
    show wpAny _ A.in1 (tryCatch (pyNext (.ref I)) _ >>= _) _ _ s
    refine wpAny_bind (wpAny_tryCatch (W.item (j + 1) s _ _ hlt hst fun v h' tk hP hst' hk' => ?_))
    have hS' := hk' S _ hSw hS
    have kp' := kpI kp hk'
    show wpAny _ A.in1 (tryCatch (holding [v, v] (richCompare .Lt v vb >>= _)) _ >>= _) _ _ _
    refine wpAny_bind (wpAny_tryCatch (wpAny_holding (wpAny_bind (hcmp (j + 1) (argBest bt j) v vb _ _ _ hP hPb kp' ?_))))
    refine wpAny_bind (wpAny_holding (wpAny_truthy_bool ?_))
    refine wpAny_bind (wpAny_letGo (wpAny_pure ?_))
    cases hb : bt (j + 1) (argBest bt j) with
    | true =>
      simp only [if_true]
      refine wpAny_bind ?_
      refine wpAny_updateSeq hS' rfl (wpAny_bind (wpAny_letGo ?_))
      rw [hname]
      refine wpAny_pure ⟨plainId_quiet F.plain_min_loop _, ih (j + 1) _ v _ (by omega) hlt (W.frame _ _ _ hst' fun b hbf o e => ?_) (kpS kp') (by simp only [argBest, hb, if_true]; exact hP) (Heap.get?_update_self _ hS' rfl) fun v' h'' tk'' hP' hk'' => ?_⟩
      · exact (Heap.get?_update_other _ _ (fun h : S = b => hSf (by rw [h]; exact hbf))).trans e
      · exact hR v' h'' tk'' hP' hk''
    | false =>
      simp only [Bool.false_eq_true, if_false]
      refine wpAny_bind (wpAny_letGo ?_)
      rw [hname]
      refine wpAny_pure ⟨plainId_quiet F.plain_min_loop _, ih (j + 1) _ vb c (by omega) hlt hst' kp' (by simp only [argBest, hb, Bool.false_eq_true, if_false]; exact hPb) hS' fun v' h'' tk'' hP' hk'' => ?_⟩
      exact hR v' h'' tk'' hP' hk''
end
theorem call_minH {A : Around} {E : Value → Shared → Prop} {s : Shared} {l : Addr} {us : Array Value} (hh : A.handled = none) (hl : s.heap.IsList l us) (hne : 0 < us.size) (bt : Nat → Nat → Bool) {Q : Value → Shared → Prop}
    (hcmp : ∀ i j vi vj (s' : Shared) (Q : Value → Shared → Prop) (E : Value → Shared → Prop), us[i]? = some vi → us[j]? = some vj → KpAll s.heap s'.heap → Q (.bool (bt i j)) s' → wpAny (model prog w) A.in1 (richCompare .Lt vi vj) Q E s')
    (h : ∀ v h' tk, us[argBest bt (us.size - 1)]? = some v → KpAll s.heap h' → Q v { s with heap := h', toks := tk }) : wpAny (model prog w) A (call (.builtin "min") [.ref l]) Q E s := by
  have hname : (toString "min" ++ toString ".loop" : String) = "min.loop" := by decide
  have hlt : l < s.heap.objs.size := by obtain ⟨_, e, _⟩ := hl; exact Heap.lt_size e
  refine call_function_tree F.kind_min F.plain_min F.entry_min (F.args_min1 _) ?_
  show wpAny _ A.in1 (Builtin.Builtins.bindParams "min" ["key", "default"] 0 ⟨[], []⟩ >>= _) _ _ s
  refine wpAny_bind (wpAny_of_eq (show Builtin.Builtins.bindParams "min" ["key", "default"] 0 ⟨[], []⟩ = pure [none, none] from rfl) ?_)
  refine wpAny_bind (wpAny_pure ?_)
  refine wpAny_bind (wpAny_pyIter_list hl ?_)
  have W := Walks.list (prog := prog) (w := w) (A := A.in1) (by exact hh) s.heap.objs.size l (Nat.ne_of_lt hlt) us
  refine wpAny_bind (wpAny_newObj_type ?_)
  rw [hname]
  have kp1 := push_keeps s.heap { cls := .type "list_iterator", data := .fields #[.ref l, .int 0 0] }
  have st0 : (fun i h => Heap.IsListIter h s.heap.objs.size l i ∧ h.IsList l us) 0 (s.heap.push { cls := .type "list_iterator", data := .fields #[.ref l, .int 0 0] }) := ⟨⟨_, Heap.get?_push_size _ rfl, rfl, rfl⟩, hl.push _⟩
  have hsz : (s.heap.push { cls := .type "list_iterator", data := .fields #[.ref l, .int 0 0] }).objs.size = s.heap.objs.size + 1 := size_push' _ _
  have hSf : (s.heap.push { cls := .type "list_iterator", data := .fields #[.ref l, .int 0 0] }).objs.size ∉ [s.heap.objs.size, l] := by
    rw [hsz]; simp; exact fun q => by have h2 : s.heap.objs.size < s.heap.objs.size + 1 := Nat.lt_succ_self _; rw [q] at h2; exact Nat.lt_asymm hlt h2
  have kp2 := push_keeps (s.heap.push { cls := .type "list_iterator", data := .fields #[.ref l, .int 0 0] }) { cls := .type "list", data := .seq #[] }
  refine wpAny_pure ⟨plainId_quiet F.plain_min_loop _, ?_⟩
  -- the first item
  refine codeAny_builtin F.entry_min_loop ?_
  rw [Around.under_plainId F.plain_min_loop _]
  show wpAny _ A.in1 (seqItems? (.ref (s.heap.push { cls := .type "list_iterator", data := .fields #[.ref l, .int 0 0] }).objs.size) >>= _) _ _ _
  refine wpAny_bind (wpAny_seqItems (Heap.get?_push_size _ rfl) rfl ?_)
  show wpAny _ A.in1 (tryCatch (pyNext (.ref s.heap.objs.size)) _ >>= _) _ _ _
  refine wpAny_bind (wpAny_tryCatch (W.item 0 _ _ _ hne (W.frame _ _ _ st0 fun b _ o e => kp2 b o e) fun v h' tk hP hst' hk' => ?_))
  have hS' := hk' (s.heap.push { cls := .type "list_iterator", data := .fields #[.ref l, .int 0 0] }).objs.size _ (by rw [hsz]; simp) (Heap.get?_push_size _ rfl)
  show wpAny _ A.in1 (updateSeq (s.heap.push { cls := .type "list_iterator", data := .fields #[.ref l, .int 0 0] }).objs.size (fun _ => #[v, v]) >>= _) _ _ _
  refine wpAny_bind ?_
  refine wpAny_updateSeq hS' rfl ?_
  rw [hname]
  have hS0 : s.heap.get? (s.heap.push { cls := .type "list_iterator", data := .fields #[.ref l, .int 0 0] }).objs.size = none := Heap.get?_none_of_le (by rw [hsz]; exact Nat.le_succ _)
  have kp3 : KpAll s.heap h' := fun b o e => hk' b o (by simp; exact Nat.ne_of_lt (Heap.lt_size e)) (kp2 b o (kp1 b o e))
  refine wpAny_pure ⟨plainId_quiet F.plain_min_loop _, min_loopH (h0 := s.heap) W bt (fun b hb => ?_) hcmp _ hSf hS0 _ 0 _ v _ rfl hne (W.frame _ _ _ hst' fun b hbf o e => ?_) (fun b o e => ?_) hP (Heap.get?_update_self _ hS' rfl) fun v' h'' tk'' hP' hk'' => ?_⟩
  · simp at hb; subst hb; exact size_fresh _
  · exact (Heap.get?_update_other _ _ (fun z => hSf (by rw [z]; exact hbf))).trans e
  · exact (Heap.get?_update_other _ _ (fun z => by rw [z] at hS0; rw [hS0] at e; cases e)).trans (kp3 b o e)
  · exact h v' h'' tk'' hP' hk''
variable {g : Gr} {sc : Scope} {r : Nat} {c : Bool}
/-- a tuple of three ints and a list -/
noncomputable def quad (t : Int × Int × Int × Addr) : V := .tup [.int t.1, .int t.2.1, .int t.2.2.1, .ref t.2.2.2]
noncomputable def tri (t : Int × Int × Int × Addr) : Int × Int × Int := (t.1, t.2.1, t.2.2.1)
noncomputable def tMinT : TF := fun xs σ Q _ => ∃ a es, xs = [.ref a] ∧ σ a = some (.list (es.map quad)) ∧ es ≠ [] ∧ (∀ t ∈ es, ∃ ns : List Int, σ t.2.2.2 = some (.list (ns.map V.int)) ∧ ∀ t' ∈ es, tri t = tri t' → σ t'.2.2.2 = some (.list (ns.map V.int))) ∧
  ∀ t ∈ es, (∀ t' ∈ es, t.1 ≤ t'.1) → Q (quad t) σ
theorem lex3_yes {a b : Int × Int × Int} (q : lex3 a b = true) : a.1 ≤ b.1 := by
  unfold lex3 at q
  split at q
  · omega
  · have := of_decide_eq_true q; omega
theorem lex3_no {a b : Int × Int × Int} (q : ¬ lex3 a b = true) : b.1 ≤ a.1 := by
  unfold lex3 at q
  split at q
  · omega
  · have : ¬ a.1 < b.1 := fun z => q (by simpa using z)
    omega
theorem lex3_trans_le (val : Nat → Int × Int × Int) : ∀ k i, i ≤ k → (val (argBest (fun i j => lex3 (val i) (val j)) k)).1 ≤ (val i).1
  | 0, i, h => by have : i = 0 := by omega
                  subst this; exact Int.le_refl _
  | k + 1, i, h => by
    have ih := lex3_trans_le val k
    unfold argBest
    split
    · rename_i q
      have hle : (val (k + 1)).1 ≤ (val (argBest (fun i j => lex3 (val i) (val j)) k)).1 := lex3_yes q
      rcases Nat.lt_or_ge i (k + 1) with w | w
      · have := ih i (by omega); omega
      · have : i = k + 1 := by omega
        subst this; omega
    · rename_i q
      rcases Nat.lt_or_ge i (k + 1) with w | w
      · exact ih i (by omega)
      · have : i = k + 1 := by omega
        subst this
        exact lex3_no q
theorem quads_at {h : Heap} {es : List (Int × Int × Int × Addr)} {vs : List Value} (hv : VRs g h (es.map quad) vs) {i : Nat} {v : Value} (e : vs[i]? = some v) : ∃ t, es[i]? = some t ∧ ∃ a o us n t1 t2 t3, v = .ref a ∧ h.get? a = some o ∧ o.cls = .type "tuple" ∧ o.data = .seq us n ∧ us.toList = [.int (tri t).1 t1, .int (tri t).2.1 t2, .int (tri t).2.2 t3, .ref t.2.2.2] := by
  have hlen := VRs_length hv
  have hi : i < es.length := by
    rcases Nat.lt_or_ge i es.length with q | q
    · exact q
    · rw [List.getElem?_eq_none (by rw [← hlen]; simpa using q)] at e; cases e
  obtain ⟨u, e', hu⟩ := VRs_get hv (i := i) (x := quad es[i]) (by simp [hi])
  rw [e] at e'; cases e'
  refine ⟨es[i], by simp [hi], ?_⟩
  obtain ⟨_, a, o, us, n, rfl, _, ho, hc, hd, hvs⟩ := VR_tup.mp hu
  obtain ⟨u1, r1, q1, h1, hvs⟩ := VRs_cons_inv hvs
  obtain ⟨u2, r2, rfl, h2, hvs⟩ := VRs_cons_inv hvs
  obtain ⟨u3, r3, rfl, h3, hvs⟩ := VRs_cons_inv hvs
  obtain ⟨u4, r4, rfl, h4, hvs⟩ := VRs_cons_inv hvs
  rw [VRs_nil_inv hvs] at q1
  obtain ⟨t1, rfl⟩ := VR_int.mp h1
  obtain ⟨t2, rfl⟩ := VR_int.mp h2
  obtain ⟨t3, rfl⟩ := VR_int.mp h3
  rw [VR_ref.mp h4] at q1
  exact ⟨a, o, us, n, t1, t2, t3, rfl, ho, hc, hd, q1⟩
theorem sndF_minT : SndF g r (.builtin "min") tMinT := .mk fun A s σ xs vs Q E G F Rm R hv h => by
  obtain ⟨a, es, rfl, ea, hne, hsame, h⟩ := h
  obtain ⟨v, _, rfl, hx, hr⟩ := VRs_cons_inv hv
  rw [VRs_nil_inv hr, VR_ref.mp hx]
  obtain ⟨hf, us, n, ho, hvs⟩ := (R.own a _ ea).2
  have hlen : es.length = us.size := by have := VRs_length hvs; simpa using this
  have hpos : 0 < us.size := by rw [← hlen]; exact List.length_pos_iff.mpr hne
  refine call_minH (Rm.calm rfl) ⟨_, ho, rfl, n, rfl⟩ hpos (fun i j => lex3 (tri (es.getD i (0, 0, 0, 0))) (tri (es.getD j (0, 0, 0, 0)))) (fun i j vi vj s' Q' E' hi hj kp hq => ?_) fun v h' tk hv' kp => ?_
  · obtain ⟨ti, ei, pa, po, pus, pn, t1, t2, t3, rfl, ho1, hc1, hd1, hl1⟩ := quads_at hvs (by rw [Array.getElem?_toList]; exact hi)
    obtain ⟨tj, ej, qa, qo, qus, qn, u1, u2, u3, rfl, ho2, hc2, hd2, hl2⟩ := quads_at hvs (by rw [Array.getElem?_toList]; exact hj)
    have di : es.getD i (0, 0, 0, 0) = ti := by rw [List.getD_eq_getElem?_getD, ei]; rfl
    have dj : es.getD j (0, 0, 0, 0) = tj := by rw [List.getD_eq_getElem?_getD, ej]; rfl
    rw [di, dj] at hq
    refine tuple_lt (kp _ _ ho1) hc1 hd1 (kp _ _ ho2) hc2 hd2 hl1 hl2 (fun e => ?_) (by have := Rm.cline; show A.units + 1 < _; omega) hq
    obtain ⟨ns, e1, e2⟩ := hsame ti (List.mem_of_getElem? ei)
    have e2 := e2 tj (List.mem_of_getElem? ej) e
    by_cases z : ti.2.2.2 = tj.2.2.2
    · rw [z]; exact SeqAt.EqAt.same _
    · obtain ⟨_, lu, ln, lo, lv⟩ := (R.own _ _ e1).2
      obtain ⟨_, mu, mn, mo, mv⟩ := (R.own _ _ e2).2
      have hi1 := intsAre_of lv
      have hi2 := intsAre_of mv
      have ll : lu.size = mu.size := by
        have h1 := VRs_length lv; have h2 := VRs_length mv
        simp at h1 h2; omega
      refine SeqAt.EqAt.of_refs z ?_
      have hall : (List.range lu.size).all (fun _ => true) = true := by simp
      rw [← hall]
      refine SeqAt.RcAt.lists ⟨_, kp _ _ lo, rfl, ln, rfl⟩ ⟨_, kp _ _ mo, rfl, mn, rfl⟩ ll (by have := Rm.cline; show A.units + 1 + 1 < _; omega) fun k h1 h2 => ?_
      obtain ⟨t, q1⟩ := VRs_ints lv k lu[k] (by simp [h1])
      obtain ⟨u, q2⟩ := VRs_ints mv k mu[k] (by simp [h2])
      rw [q1, q2]
      have := eqAt_int (A := A.in1.in1.in1) (s := s') (ns.getD k 0) (ns.getD k 0) t u
      simpa using this
  · obtain ⟨t, et, _⟩ := quads_at hvs (by rw [Array.getElem?_toList]; exact hv')
    have hb := argBest_le (fun i j => lex3 (tri (es.getD i (0, 0, 0, 0))) (tri (es.getD j (0, 0, 0, 0)))) (us.size - 1)
    obtain ⟨w, e', hw⟩ := VRs_get hvs (i := argBest (fun i j => lex3 (tri (es.getD i (0, 0, 0, 0))) (tri (es.getD j (0, 0, 0, 0)))) (us.size - 1)) (x := quad t) (by rw [List.getElem?_map, et]; rfl)
    rw [Array.getElem?_toList, hv'] at e'; cases e'
    refine .keeps kp ⟨rfl, rfl, rfl⟩ (VR.mono (fun a o _ _ _ e _ _ => .of (kp a o e)) hw) R (h t (List.mem_of_getElem? et) fun t' ht' => ?_)
    obtain ⟨i, hi, rfl⟩ := List.getElem_of_mem ht'
    have := lex3_trans_le (fun i => tri (es.getD i (0, 0, 0, 0))) (us.size - 1) i (by omega)
    have d1 : es.getD (argBest (fun i j => lex3 (tri (es.getD i (0, 0, 0, 0))) (tri (es.getD j (0, 0, 0, 0)))) (us.size - 1)) (0, 0, 0, 0) = t := by rw [List.getD_eq_getElem?_getD, et]; rfl
    have d2 : es.getD i (0, 0, 0, 0) = es[i] := by simp [hi]
    simp only [d1, d2] at this
    exact this
end
section
open PySem PySem.W PyProof.Rows
variable {g : Gr} {sc csc : Scope} {r : Nat} {c : Bool} {K : Frag}
/-! ## dicts are made -/
noncomputable def tDict0 : TE := fun _ σ Q _ => ∀ a ep, σ a = none → Q (.ref a) (σ.set a (.dictI [] ep))
theorem sndE_dict0 {pos : Pos} : SndE g sc r c (.Dict [] [] pos) tDict0 := .mk fun A env s ℓ σ Q E X h => by
  refine wpAny_Dict_empty ?_
  have kp := push_keeps s.heap { cls := .type "dict", data := .dict #[] }
  have hD : (s.heap.push { cls := .type "dict", data := .dict #[] }).DictOf (intKind g.prog g.w) s.heap.objs.size [] := Heap.DictOf.new s.heap
  obtain ⟨ep, hD⟩ := DictAt_of hD
  exact ⟨.ref s.heap.objs.size, σ.set s.heap.objs.size (.dictI [] ep), VR_ref.mpr rfl, X.rel.alloc kp (size_fresh _) ⟨by simp [Fits], [], hD, rfl, VRs_nil⟩, .alloc kp (size_fresh _), ⟨rfl, rfl, rfl⟩, h _ _ (X.rel.fresh (size_fresh _))⟩
/-- a transformer that changes nothing -/
noncomputable def Unmoved (t : TE) : Prop := ∀ ℓ σ Q E, t ℓ σ Q E → ∃ x, Q x σ ∧ ∀ σ' (Q' : V → AH → Prop) E', Q' x σ' → t ℓ σ' Q' E'
theorem unmoved_const {x : V} : Unmoved (tConst x) := fun ℓ σ Q E h => ⟨x, h, fun _ _ _ q => q⟩
theorem AH.set_set {σ : AH} {a : Addr} {o p : AO} : (σ.set a o).set a p = σ.set a p := by
  funext b; unfold AH.set; split <;> rfl
/-- two strings as keys -/
noncomputable def tDict2 (k₁ v₁ k₂ v₂ : TE) : TE := fun ℓ σ Q E => k₁ ℓ σ (fun a σ₁ => v₁ ℓ σ₁ (fun x σ₂ => k₂ ℓ σ₂ (fun b σ₃ => v₂ ℓ σ₃ (fun y σ₄ => ∃ ka kb, a = .str ka ∧ b = .str kb ∧ ka ≠ kb ∧ ∀ d ep, σ₄ d = none → Q (.ref d) (σ₄.set d (.dictS [(ka, x), (kb, y)] ep))) E) E) E) E
theorem sndE_dict2 {e₁ e₂ e₃ e₄ : Expr} {pos : Pos} {k₁ v₁ k₂ v₂ : TE} (u1 : Unmoved k₁) (u2 : Unmoved v₁) (u3 : Unmoved k₂) (u4 : Unmoved v₂) (h1 : SndE g sc r c e₁ k₁) (h2 : SndE g sc r c e₂ v₁) (h3 : SndE g sc r c e₃ k₂) (h4 : SndE g sc r c e₄ v₂) :
    SndE g sc r c (.Dict [some e₁, some e₃] [e₂, e₄] pos) (tDict2 k₁ v₁ k₂ v₂) := .mk fun A env s ℓ σ Q E X h => by
  obtain ⟨a, h, f1⟩ := u1 _ _ _ _ h
  obtain ⟨x, h, f2⟩ := u2 _ _ _ _ h
  obtain ⟨b, h, f3⟩ := u3 _ _ _ _ h
  obtain ⟨y, ⟨ka, kb, rfl, rfl, hne, h⟩, f4⟩ := u4 _ _ _ _ h
  refine wpAny_Dict_pairs (knd := strKind g.prog g.w) (pairs := [(eval e₁ env, do let x ← eval e₂ env; standAt pos; pure x), (eval e₃ env, do let x ← eval e₄ env; standAt pos; pure x)]) rfl (by simp) (by simp) ?_
  have kp := push_keeps s.heap { cls := .type "dict", data := .dict #[] }
  obtain ⟨ep, hD⟩ := DictAt_of (Heap.DictOf.new (knd := strKind g.prog g.w) s.heap)
  have off : σ s.heap.objs.size = none := X.rel.fresh (size_fresh _)
  have R0 : Rel g (s.heap.push { cls := .type "dict", data := .dict #[] }) (σ.set s.heap.objs.size (.dictS [] ep)) := X.rel.alloc kp (size_fresh _) ⟨by simp [Fits], [], hD, rfl, VRs_nil⟩
  have x0 : Ext No s.heap σ (s.heap.push { cls := .type "dict", data := .dict #[] }) (σ.set s.heap.objs.size (.dictS [] ep)) := .alloc kp (size_fresh _)
  have X0 : Cx g sc r c A env ({ s with heap := s.heap.push { cls := .type "dict", data := .dict #[] } } : Shared).heap (σ.set s.heap.objs.size (.dictS [] ep)) ℓ := X.step R0 x0
  have key : ∀ {e : Expr} {t : TE} {v : V}, SndE g sc r c e t → (∀ σ' (Q' : V → AH → Prop) E', Q' v σ' → t ℓ σ' Q' E') → ∀ {s₁ : Shared} {P : Value → Shared → Prop}, Cx g sc r c A env s₁.heap (σ.set s.heap.objs.size (.dictS [] ep)) ℓ →
      Ext No s.heap σ s₁.heap (σ.set s.heap.objs.size (.dictS [] ep)) → Same s s₁ → (∀ u s₂, VR g s₂.heap v u → Cx g sc r c A env s₂.heap (σ.set s.heap.objs.size (.dictS [] ep)) ℓ → Ext No s₁.heap (σ.set s.heap.objs.size (.dictS [] ep)) s₂.heap (σ.set s.heap.objs.size (.dictS [] ep)) → Same s s₂ → P u s₂) →
      wpAny (model g.prog g.w) A (eval e env) P (PostX g A s σ E) s₁ := fun {e t v} hS f {s₁ P} X1 x1 sm k => by
    refine wpAny_mono (hS.run A env s₁ ℓ _ (fun w σ'' => w = v ∧ σ'' = σ.set s.heap.objs.size (.dictS [] ep)) E X1 (f _ _ _ ⟨rfl, rfl⟩)) (fun u s₂ p => ?_) fun _ _ p => p.back x1 sm
    obtain ⟨w, σ₂, hv, hR, hx, hs, rfl, rfl⟩ := p
    exact k u s₂ hv (X1.step hR hx) hx (sm.trans hs)
  refine evalPairs_cons (key h1 f1 X0 x0 ⟨rfl, rfl, rfl⟩ fun va s₁ hva X1 y1 m1 => ?_)
  refine wpAny_bind (key h2 f2 X1 (x0.trans y1) m1 fun vx s₂ hvx X2 y2 m2 => wpAny_bind (wpAny_standAt (wpAny_pure ?_)))
  refine evalPairs_cons (key h3 f3 X2 ((x0.trans y1).trans y2) m2 fun vb s₃ hvb X3 y3 m3 => ?_)
  refine wpAny_bind (key h4 f4 X3 (((x0.trans y1).trans y2).trans y3) m3 fun vy s₄ hvy X4 y4 m4 => wpAny_bind (wpAny_standAt (wpAny_pure ?_)))
  refine evalPairs_nil ?_
  obtain ⟨fa, ta, rfl⟩ := VR_str.mp hva
  obtain ⟨fb, tb, rfl⟩ := VR_str.mp hvb
  have hvx4 := (y3.trans y4).vr X2.rel noSeq_no hvx
  have e0 : (σ.set s.heap.objs.size (.dictS [] ep)) s.heap.objs.size = some (.dictS [] ep) := AH.set_same
  obtain ⟨_, us, hd, hk, _⟩ := (X4.rel.own _ _ e0).2
  have hus : us = [] := by cases us with | nil => rfl | cons _ _ => simp at hk
  subst hus
  refine ⟨[(ka, vx), (kb, vy)], ⟨strKind_is _ _ ka ta, rfl, strKind_is _ _ kb tb, rfl, trivial⟩, hd.dictOf, fun h' hd' sb => ?_⟩
  have hm : merged ([] : List (Str × Value)) [(ka, vx), (kb, vy)] = [(ka, vx), (kb, vy)] := by
    simp [merged, stored, hne]
  rw [hm] at hd'
  obtain ⟨ep', hd'⟩ := DictAt_of hd'
  have tk : TupsKept g s₄.heap h' := fun z o us m _ q cc d => by
    obtain ⟨o₀, e₀, c₀⟩ := OR_some (X4.rel.own _ _ e0).2
    refine .of (sb.extBut z o (fun w => ?_) q)
    subst w; rw [e₀] at q; cases q; exact c₀ _ _ cc d
  have hor : OR g h' s.heap.objs.size (.dictS [(ka, x), (kb, y)] ep') := ⟨by simp [Fits], _, hd', rfl, VRs_cons (VR.mono tk hvx4) (VRs_cons (VR.mono tk hvy) VRs_nil)⟩
  have pr : ∃ o, h'.get? s.heap.objs.size = some o := let ⟨o, q, _⟩ := OR_some hor; ⟨o, q⟩
  have R5 := X4.rel.upd e0 sb hor
  have x5 : Ext No s₄.heap (σ.set s.heap.objs.size (.dictS [] ep)) h' ((σ.set s.heap.objs.size (.dictS [] ep)).set s.heap.objs.size (.dictS [(ka, x), (kb, y)] ep')) := .upd e0 sb pr
  rw [AH.set_set] at R5 x5
  exact ⟨.ref _, _, VR_ref.mpr rfl, R5, ((((x0.trans y1).trans y2).trans y3).trans y4).trans x5, m4.trans ⟨rfl, rfl, rfl⟩, h _ _ off⟩
variable {g : Gr} {sc csc : Scope} {r : Nat} {c : Bool} {K : Frag}
/-! ## dict.pop -/
noncomputable def tPop : TF := fun xs σ Q _ => match xs with
  | [.ref a, .int k] => match σ a with
    | some (.dictI kvs _) => ∃ v, kvs.lookup k = some v ∧ ∀ ep, Q v (σ.set a (.dictI (kvs.filter fun kv => decide (kv.1 ≠ k)) ep))
    | _ => False
  | _ => False
theorem VRs_filter {K' : Type} [DecidableEq K'] {h : Heap} (p : K' → Bool) : ∀ {us : List (K' × Value)} {kvs : List (K' × V)}, us.map (·.1) = kvs.map (·.1) → VRs g h (kvs.map (·.2)) (us.map (·.2)) →
    (us.filter fun u => p u.1).map (·.1) = (kvs.filter fun u => p u.1).map (·.1) ∧ VRs g h ((kvs.filter fun u => p u.1).map (·.2)) ((us.filter fun u => p u.1).map (·.2))
  | [], [], _, _ => ⟨rfl, VRs_nil⟩
  | [], _ :: _, hk, _ => by simp at hk
  | _ :: _, [], hk, _ => by simp at hk
  | u :: us, kv :: kvs, hk, hv => by
    simp only [List.map_cons, List.cons.injEq] at hk
    obtain ⟨w, ws, hw, hv1, hv2⟩ := VRs_cons_inv hv
    simp only [List.map_cons, List.cons.injEq] at hw
    obtain ⟨rfl, rfl⟩ := hw
    obtain ⟨i1, i2⟩ := VRs_filter p hk.2 hv2
    cases q : p kv.1 with
    | true =>
      have q' : p u.1 = true := by rw [hk.1]; exact q
      rw [List.filter_cons_of_pos (by simpa using q'), List.filter_cons_of_pos (by simpa using q)]
      exact ⟨by simp [hk.1, i1], VRs_cons hv1 i2⟩
    | false =>
      have q' : p u.1 = false := by rw [hk.1]; exact q
      rw [List.filter_cons_of_neg (by simp [q']), List.filter_cons_of_neg (by simp [q])]
      exact ⟨i1, i2⟩
/-- an owned object was changed in a call -/
theorem post_changedE {s : Shared} {σ : AH} {Q : V → AH → Prop} {a : Addr} {ao ao' : AO} {h' : Heap} {tk : Nat} {v : Value} {x : V} (R : Rel g s.heap σ) (e : σ a = some ao) (sb : Heap.SameBut a s.heap h') (ho : TupsKept g s.heap h' → OR g h' a ao') (hv : VR g s.heap x v) (hq : Q x (σ.set a ao')) : PostE g s σ Q v { s with heap := h', toks := tk } := by
  obtain ⟨o₀, e₀, c₀⟩ := OR_some (R.own a _ e).2
  have tks : TupsKept g s.heap h' := fun b o us m _ q cc d => by
    refine .of (sb.extBut b o (fun z => ?_) q)
    subst z; rw [e₀] at q; cases q; exact c₀ _ _ cc d
  have hor := ho tks
  have pr : ∃ o, h'.get? a = some o := let ⟨o, q, _⟩ := OR_some hor; ⟨o, q⟩
  exact ⟨x, _, VR.mono tks hv, R.upd e sb hor, .upd e sb pr, ⟨rfl, rfl, rfl⟩, hq⟩
theorem sndF_pop : SndF g r (.builtin "dict.pop") tPop := .mk fun A s σ xs vs Q E G F Rm R hv h => by
  unfold tPop at h
  split at h
  · rename_i a k
    obtain ⟨v, _, rfl, ha, hr⟩ := VRs_cons_inv hv
    obtain ⟨u, _, rfl, hx, hr⟩ := VRs_cons_inv hr
    rw [VRs_nil_inv hr, VR_ref.mp ha]
    obtain ⟨t, rfl⟩ := VR_int.mp hx
    split at h
    · rename_i kvs ep e
      obtain ⟨x, hl, h⟩ := h
      obtain ⟨hf, us, hd, hk, hvs⟩ := (R.own a _ e).2
      have hlen : kvs.length = us.length := by have := congrArg List.length hk; simpa using this.symm
      obtain ⟨xv, hat, hxv⟩ := lookup_pairs hk hvs hl
      refine call_meetsIn PySem.F.slot_dict_pop hd.dictOf.typeIs PySem.F.entry_dict_pop (PySem.F.args_dict_pop_2 _ _) (meets_dict_pop_there (intKind g.prog g.w) _ (intKind_is _ _ k t) [] (.inl rfl) (by rfl)) ⟨us, xv, hd.dictOf, by rw [← hlen]; exact hf.line, hat, fun h' hd' sb => ?_⟩
      obtain ⟨ep', hd'⟩ := DictAt_of hd'
      refine post_changedE (ao' := .dictI (kvs.filter fun kv => decide (kv.1 ≠ k)) ep') R e sb (fun tk => ?_) hxv (h ep')
      obtain ⟨i1, i2⟩ := VRs_filter (fun q => decide (q ≠ k)) hk hvs
      exact ⟨hf.le (List.length_filter_le _ _), _, hd', i1, VRs.mono tk i2⟩
    · exact h.elim
  · exact h.elim
/-! ## sorted -/
noncomputable def keysInts (x : V) (σ : AH) : Option (List Int) := match x with
  | .ref a => match σ a with
    | some (.list xs) => intsV xs
    | some (.dictI kvs _) => some (kvs.map (·.1))
    | _ => none
  | _ => none
noncomputable def tSorted : TF := fun xs σ Q _ => match xs with
  | [x] => match keysInts x σ with
    | some ns => ns.length < 64 ∧ ∀ (ns' : List Int) b, ns'.Perm ns → ns'.Pairwise (· ≤ ·) → σ b = none → Q (.ref b) (σ.set b (.list (ns'.map V.int)))
    | none => False
  | _ => False
theorem VRs_of_ints {h : Heap} : ∀ {vs : List Value} {ns : List Int}, IntsAre vs ns → VRs g h (ns.map V.int) vs := fun {vs ns} a => by
  induction a with
  | nil => exact VRs_nil
  | cons n t _ ih => exact VRs_cons (VR_int.mpr ⟨t, rfl⟩) ih
theorem intsAre_keys {us : List (Int × Value)} {P : Nat → Value → Prop} : ∀ (vs : List Value) (ks : List Int), vs.length = ks.length → (∀ (i : Nat) (v : Value), vs[i]? = some v → ∃ k, ks[i]? = some k ∧ ∃ t, v = Value.int k t) → IntsAre vs ks
  | [], [], _, _ => .nil
  | [], _ :: _, h, _ => by simp at h
  | _ :: _, [], h, _ => by simp at h
  | v :: vs, k :: ks, h, q => by
    obtain ⟨k', e, t, rfl⟩ := q 0 v rfl
    simp at e; subst e
    exact .cons _ t (intsAre_keys (us := us) (P := P) vs ks (by simpa using h) fun i v e => by simpa using q (i + 1) v (by simpa using e))
variable {g : Gr} {sc csc : Scope} {r : Nat} {c : Bool} {K : Frag}
theorem sndF_sorted : SndF g r (.builtin "sorted") tSorted := .mk fun A s σ xs vs Q E G F Rm R hv h => by
  match xs, hv, h with
  | [x], hv, h =>
    obtain ⟨v, _, rfl, hx, hr⟩ := VRs_cons_inv hv
    rw [VRs_nil_inv hr]
    simp only [tSorted] at h
    split at h
    · rename_i ns e
      obtain ⟨h64, h⟩ := h
      have hfit : ∀ ns' : List Int, ns'.Perm ns → Fits (ns'.map V.int).length := fun ns' p => by rw [List.length_map, p.length_eq]; unfold Fits; omega
      cases x with
      | ref a =>
        rw [VR_ref.mp hx]
        simp only [keysInts] at e
        split at e
        · rename_i ys q
          obtain ⟨_, us, n, ho, hvs⟩ := (R.own a _ q).2
          rw [intsV_get e] at hvs
          have hI := intsAre_of hvs
          refine sorted_ints (vs := us.toList) ⟨_, ho, rfl, n, by simp⟩ hI (by have := VRs_length hvs; simp at this ⊢; omega) fun out ns' a1 a2 a3 => ?_
          obtain ⟨e', he⟩ := sortedAll_at s.heap us.toList out
          exact post_madeList (tk := s.toks) R (fun _ _ => sortedAll_old) (Heap.get?_none_of_le (Nat.le_succ _)) he (hfit _ a2) (VRs_of_ints a1) fun f => h ns' _ a2 a3 f
        · rename_i kvs ep q
          cases e
          obtain ⟨hf, us, hd, hk, hvs⟩ := (R.own a _ q).2
          have hlen : kvs.length = us.length := by have := congrArg List.length hk; simpa using this.symm
          refine Calls.call_function_entry kind_sorted plain_sorted entry_sorted (args_sorted1 _) ?_
          unfold Builtin.«sorted»
          refine wpAny_bind (m := checkCount "sorted" 1 1 _) (wpAny_pure ?_)
          refine wpAny_bind (kdu_collect (A := A.in1) (kdl_dict (knd := intKind g.prog g.w) (kvs := us) (ep := ep) (sysMod_ne G R q)) (by show A.handled = none; exact Rm.calm rfl) hd (by rw [← hlen]; exact hf.line) fun h' tk acc hkp hacc => ?_)
          have hl : acc.toList.length = us.length := by rw [Array.length_toList]; exact hacc.1
          have h64' : acc.toList.length < 64 := by rw [hl, ← hlen]; simpa using h64
          refine wpAny_bind (wpAny_newList ?_ (by rw [hl, ← hlen]; exact hf.line))
          have hI : IntsAre acc.toList (kvs.map (·.1)) := by
            refine intsAre_keys (us := us) (P := fun _ _ => True) _ _ (by rw [hl, ← hlen]; simp) fun i v e => ?_
            obtain ⟨k, x, e1, e2⟩ := hacc.2 i v (by rw [← Array.getElem?_toList]; exact e)
            refine ⟨k, ?_, ?_⟩
            · rw [← hk, List.getElem?_map, e1]; rfl
            · cases v <;> simp [PySem.intKind, Value.isInt] at e2
              exact ⟨_, by rw [e2]⟩
          have hoL : (h'.push (seqObj "list" acc.toList.toArray 0)).get? h'.objs.size = some (seqObj "list" acc.toList.toArray 0) := Heap.get?_push_size _ rfl
          refine wpAny_bind (wpAny_holding (wpAny_call_entry slot_list_sort ⟨_, hoL, rfl⟩ entry_list_sort (list_sort_tree hoL hI h64' fun out ns' a1 a2 a3 => ⟨_, rfl, ?_⟩) (args_list_sort _)))
          refine wpAny_pure ⟨_, rfl, ?_⟩
          obtain ⟨e', he⟩ := sortedHeap_at (out := out) hoL
          refine post_madeList R (fun b o q => ?_) ?_ he (hfit _ a2) (VRs_of_ints a1) fun f => h ns' _ a2 a3 f
          · have hb := Heap.lt_size (hkp b o q)
            rw [sortedHeap_old (Nat.ne_of_lt hb) (by rw [size_push']; exact Nat.lt_succ_of_lt hb), Heap.get?_push_ne _ _ _ (Nat.ne_of_lt hb)]
            exact hkp b o q
          · cases w : s.heap.get? h'.objs.size with
            | none => rfl
            | some o => exact absurd (Heap.lt_size (hkp _ o w)) (Nat.lt_irrefl _)
        · cases e
      | _ => cases e
    · exact h.elim
  | [], _, h => exact h.elim
  | _ :: _ :: _, _, h => exact h.elim
end
section
open PySem PySem.W PyProof.Rows
section
variable {prog : Program} {w : World} {A : Around} {E : Value → Shared → Prop} {s : Shared}
theorem list_no_keys : typeLookup (.type "list") "keys" = pure none := by rw [typeLookup_type, builtinLookup_eq_fast]; kernel_rfl
theorem keys_miss_list {a : Addr} {xs : Array Value} {k : Nat} {Q : Option Value → Shared → Prop} (hx : s.heap.get? a = some { cls := .type "list", data := .seq xs k }) (hA : A.handled = none)
    (h : ∀ h' tk, (∀ b o, s.heap.get? b = some o → h'.get? b = some o) → Q none { s with heap := h', toks := tk }) : wpAny (model prog w) A (getAttr? (.ref a) "keys") Q E s := by
  obtain ⟨hp, g, d, tk, os⟩ := s
  have hT : ∀ tk', (⟨hp, g, d, tk', os⟩ : Shared).TypeIs (.ref a) "list" := fun _ => ⟨_, hx, rfl⟩
  have f1 := sub_AttributeError
  have f3 := F.slot_list_getattribute.lookup
  have f4 := F.slot_list_getattribute.bind (.ref a)
  have f5 := am_list_getattr_none
  have hname : (["__module__", "__name__", "__qualname__", "__doc__", "__annotations__"] : List Str).contains (Str.ofString "keys") = false := by decide +kernel
  unfold getAttr?
  refine wpAny_bind (wpAny_mkText ?_)
  unfold getAttrBy?
  refine wpAny_bind (wpAny_attempt ?_)
  unfold getAttrBy
  refine wpAny_holding ?_
  refine wpAny_bind (wpAny_typeOf (T := "list") (hT _) ?_)
  refine wpAny_bind (wpAny_of_eq f3 ?_)
  show wpAny _ _ (getAttrByItsOwn (.ref a) (.str "keys" tk) (.type "list") (.builtin "list.__getattribute__") false false) _ _ _
  unfold getAttrByItsOwn
  refine wpAny_bind ?_
  show wpAny _ _ (pure none) _ _ _
  refine wpAny_pure ?_
  refine wpAny_bind (wpAny_attempt (wpAny_holding ?_))
  show wpAny _ _ (bindSpecial (.builtin "list.__getattribute__") (.ref a) >>= _) _ _ _
  refine wpAny_bind (wpAny_of_eq f4 ?_)
  show wpAny _ _ (call (.builtin "list.__getattribute__") [.ref a, .str "keys" tk]) _ _ _
  refine call_meets F.slot_list_getattribute (hT _) am_entry_list_getattribute (F.args_list_getattribute_2 _ _) (meets_getattribute_miss_list a xs k #[] "keys" _ list_no_keys hname (by decide +kernel)) ⟨hx, hA, fun h' tk' e hx' => ?_⟩
  obtain ⟨t', u', he⟩ := hx'.there
  show wpAny _ _ (getattributeRaised _ _ _ _ _ _ _) _ _ _
  unfold getattributeRaised
  refine wpAny_bind (wpAny_isInstance (T := "AttributeError") ⟨_, he, rfl⟩ f1 ?_)
  rw [if_pos rfl]
  refine wpAny_bind ?_
  show wpAny _ _ (typeLookup (.type "list") "__getattr__") _ _ _
  refine wpAny_of_eq f5 ?_
  show wpAny _ _ (throw (Value.ref e) >>= _) _ _ _
  refine wpAny_bind (wpAny_throw ?_)
  refine wpAny_bind (wpAny_isInstance (T := "AttributeError") ⟨_, he, rfl⟩ f1 ?_)
  rw [if_pos rfl]
  exact wpAny_pure (h _ _ hx'.keeps)
end
/-! ## dict(list of pairs) -/
noncomputable def pairV (p : Int × V) : V := .tup [.int p.1, p.2]
section
variable {g : Gr} {r : Nat} {A : Around}
theorem entry_update_loop : entryFor table "dict.update.loop" = some Builtin.«dict.update.loop» := entryFor_of_tree (by kernel_rfl)
theorem plain_update_loop : plainId "dict.update.loop" = true := by decide +kernel
/-- what an update has stored -/
noncomputable def putAll (kvs more : List (Int × V)) : List (Int × V) := more.foldl (fun acc kv => putD acc kv.1 kv.2) kvs
theorem update_loop {h0 : Heap} {l I d : Addr} {us : Array Value} {ps : List (Int × V)} {R : Result → Shared → Prop} (hh : A.handled = none) (hlI : l ≠ I) (hdl : d ≠ l) (hdI : d ≠ I) (hI0 : h0.get? I = none) (hd0 : h0.get? d = none) (hl0 : h0.IsList l us) (hlen : ps.length = us.size) (hvs : VRs g h0 (ps.map pairV) us.toList) (hsm : us.size ≤ 1000000) :
    ∀ (k i : Nat) (s : Shared) (acc : List (Int × V)) (ws : List (Int × Value)), us.size - i = k → i ≤ us.size → s.heap.IsListIter I l i → (∀ b o, h0.get? b = some o → s.heap.get? b = some o) → s.heap.DictOf (intKind g.prog g.w) d ws → ws.map (·.1) = acc.map (·.1) → VRs g h0 (acc.map (·.2)) (ws.map (·.2)) → ws.length ≤ i →
    (∀ h' tk ws', (∀ b o, h0.get? b = some o → h'.get? b = some o) → h'.DictOf (intKind g.prog g.w) d ws' → ws'.map (·.1) = (putAll acc (ps.drop i)).map (·.1) → VRs g h0 ((putAll acc (ps.drop i)).map (·.2)) (ws'.map (·.2)) → R (.ok (.ret .none)) { s with heap := h', toks := tk }) →
    codeAny (model g.prog g.w) A (.builtin "dict.update.loop" ⟨[.ref d, .ref I, rawInt i, .none], []⟩) R s := by
  intro k
  induction k with
  | zero =>
    intro i s acc ws hk hi hit kp hd hks hvv hwl hR
    have hie : i = us.size := by omega
    refine codeAny_builtin entry_update_loop ?_
    rw [Around.under_plainId plain_update_loop _]
    show wpAny _ A.in1 (pyNext (.ref I) >>= _) _ _ s
    refine wpAny_bind (wpAny_pyNext_list_end hh hit (hl0.at fun o e => kp _ _ e) (by simp [hie]) fun h' eb => ?_)
    show wpAny _ A.in1 (Builtin.Dict.addKeywords d [] >>= _) _ _ _
    refine wpAny_bind (wpAny_pure (wpAny_pure ?_))
    refine hR h' s.toks ws (fun b o e => eb b o (fun z => by rw [z, hI0] at e; cases e) (kp b o e)) (hd.extBut eb hdI) ?_ ?_
    · rw [hie, ← hlen, List.drop_length]; exact hks
    · rw [hie, ← hlen, List.drop_length]; exact hvv
  | succ k ih =>
    intro i s acc ws hk hi hit kp hd hks hvv hwl hR
    have hlt : i < us.size := by omega
    have hlp : i < ps.length := by omega
    refine codeAny_builtin entry_update_loop ?_
    rw [Around.under_plainId plain_update_loop _]
    show wpAny _ A.in1 (pyNext (.ref I) >>= _) _ _ s
    obtain ⟨v, ev, hv⟩ := VRs_get hvs (i := i) (x := pairV ps[i]) (by simp [hlp])
    have ev' : us[i]? = some v := by rw [← Array.getElem?_toList]; exact ev
    refine wpAny_bind (wpAny_pyNext_list_item hit (hl0.at fun o e => kp _ _ e) ev' fun h' hit' sb => ?_)
    have kp' : ∀ b o, h0.get? b = some o → h'.get? b = some o := fun b o e => sb.extBut b o (fun z => by rw [z, hI0] at e; cases e) (kp b o e)
    obtain ⟨_, ta, to, tus, tn, rfl, _, hto, htc, htd, htv⟩ := VR_tup.mp hv
    obtain ⟨u1, r1, q1, hu1, htv⟩ := VRs_cons_inv htv
    obtain ⟨u2, r2, rfl, hu2, htv⟩ := VRs_cons_inv htv
    rw [VRs_nil_inv htv] at q1
    obtain ⟨t1, rfl⟩ := VR_int.mp hu1
    show wpAny _ A.in1 (holding [.ref ta] _ >>= _) _ _ _
    refine wpAny_bind (wpAny_holding (wpAny_bind (wpAny_tryCatch ?_)))
    unfold Builtin.Dict.pairItems
    refine wpAny_bind (wpAny_typeOf (T := "tuple") ⟨_, kp' _ _ hto, htc⟩ ?_)
    rw [if_pos (by decide)]
    refine wpAny_bind (wpAny_seqItems (kp' _ _ hto) htd (wpAny_pure ?_))
    rw [show (some tus).getD #[] = tus from rfl, q1]
    show wpAny _ A.in1 (holding [.int ps[i].1 t1, u2] (dictSet d (.int ps[i].1 t1) u2)) _ _ _
    refine wpAny_holding (wpAny_dictSet_pairs (intKind_is _ _ ps[i].1 t1) (hd.extBut sb.extBut hdI) (fun h'' hd'' sb'' => ?_) (by have : sizeLine = 16777216 := rfl; omega))
    have hwv := stored_put (k := ps[i].1) (x := ps[i].2) hu2 hks hvv
    refine wpAny_pure ⟨plainId_quiet plain_update_loop _, ?_⟩
    have hdrop : ps.drop i = ps[i] :: ps.drop (i + 1) := List.drop_eq_getElem_cons hlp
    refine ih (i + 1) _ (putD acc ps[i].1 ps[i].2) (stored ws ps[i].1 u2) (by omega) hlt (hit'.at fun o e => sb''.extBut _ _ (Ne.symm hdI) e) (fun b o e => sb''.extBut b o (fun z => by rw [z, hd0] at e; cases e) (kp' b o e)) hd'' hwv.1 hwv.2 ?_ fun h3 tk ws' k1 k2 k3 k4 => ?_
    · have : (stored ws ps[i].1 u2).length ≤ ws.length + 1 := by unfold stored; split <;> simp
      omega
    · refine hR h3 tk ws' k1 k2 ?_ ?_
      · rw [hdrop]; exact k3
      · rw [hdrop]; exact k4
end
end
section
open PySem PySem.W PyProof.Rows
variable {g : Gr} {r : Nat} {sc : Scope} {c : Bool}
noncomputable def tDictP : TF := fun xs σ Q _ => ∃ a ps, xs = [.ref a] ∧ σ a = some (.list (ps.map pairV)) ∧ ∀ d ep, σ d = none → Q (.ref d) (σ.set d (.dictI (putAll [] ps) ep))
theorem putAll_length : ∀ (more kvs : List (Int × V)), (putAll kvs more).length ≤ kvs.length + more.length
  | [], kvs => Nat.le_refl _
  | p :: more, kvs => by
    have := putAll_length more (putD kvs p.1 p.2)
    have := putD_length kvs p.1 p.2
    show (putAll (putD kvs p.1 p.2) more).length ≤ _
    simp only [List.length_cons]; omega
theorem sndF_dictP : SndF g r (.type "dict") tDictP := .mk fun A s σ xs vs Q E G Fr Rm R hv h => by
  obtain ⟨a, ps, rfl, ea, h⟩ := h
  obtain ⟨v, _, rfl, hx, hr⟩ := VRs_cons_inv hv
  rw [VRs_nil_inv hr, VR_ref.mp hx]
  obtain ⟨hf, us, n, ho, hvs⟩ := (R.own a _ ea).2
  have hlen : ps.length = us.size := by have := VRs_length hvs; simpa using this
  have hsm : us.size ≤ 1000000 := by rw [← hlen]; simpa [Fits] using hf
  refine callType_codes (Q₁ := fun obj s₁ => obj = .ref s.heap.objs.size ∧ s₁ = { s with heap := s.heap.push { cls := .type "dict", data := .dict #[] } }) PySem.F.kt_called_dict (PySem.F.kt_typeCall_dict_1 _) PySem.F.entry_dict_init (kt_code_dict_new _ ⟨rfl, rfl⟩) ?_
  rintro obj s₁ ⟨rfl, rfl⟩
  have kp1 := push_keeps s.heap { cls := .type "dict", data := .dict #[] }
  have hnew : (s.heap.push { cls := .type "dict", data := .dict #[] }).DictOf (intKind g.prog g.w) s.heap.objs.size [] := Heap.DictOf.new s.heap
  have hal : a < s.heap.objs.size := Heap.lt_size ho
  refine ⟨hnew.typeIs, PySem.F.args_dict_init_2 _ _, ?_⟩
  unfold Builtin.«dict.__init__»
  refine wpAny_bind ?_
  unfold Builtin.Dict.selfAndRest
  refine wpAny_bind (wpAny_notOrdered_dict hnew.typeIs ?_)
  show wpAny _ _ (pure (s.heap.objs.size, [Value.ref a])) _ _ _
  refine wpAny_pure ?_
  show wpAny _ _ (Builtin.Dict.updateFrom "dict.__init__" s.heap.objs.size (.ref a) [] .none) _ _ _
  unfold Builtin.Dict.updateFrom
  refine wpAny_bind (wpAny_typeOf (T := "list") ⟨_, kp1 _ _ ho, rfl⟩ ?_)
  rw [if_pos (by decide)]
  refine wpAny_bind (keys_miss_list (A := A.in1.in1) (kp1 _ _ ho) (Rm.calm rfl) fun h2 tk2 kp2 => ?_)
  simp only [Option.isNone_none, if_true]
  refine wpAny_bind (wpAny_rule ?_)
  refine wpAny_bind (wpAny_pyIter_list ⟨_, kp2 _ _ (kp1 _ _ ho), rfl, n, rfl⟩ ?_)
  have kp3 := push_keeps h2 { cls := .type "list_iterator", data := .fields #[.ref a, .int 0 0] }
  have hlt2 : s.heap.objs.size < h2.objs.size := by
    obtain ⟨o, q⟩ : ∃ o, h2.get? s.heap.objs.size = some o := ⟨_, kp2 _ _ (Heap.get?_push_size _ rfl)⟩
    exact Heap.lt_size q
  refine wpAny_pure ⟨plainId_quiet plain_update_loop _, ?_⟩
  have kpA : ∀ b o, s.heap.get? b = some o → (h2.push { cls := .type "list_iterator", data := .fields #[.ref a, .int 0 0] }).get? b = some o := fun b o e => kp3 _ _ (kp2 _ _ (kp1 _ _ e))
  refine update_loop (A := A.in1) (h0 := s.heap) (l := a) (I := h2.objs.size) (us := us) (ps := ps) (Rm.calm rfl) ?_ (Nat.ne_of_gt hal) (Nat.ne_of_lt hlt2) (Heap.get?_none_of_le (Nat.le_of_lt hlt2)) (size_fresh _) ⟨_, ho, rfl, n, rfl⟩ hlen hvs hsm _ 0 { s with heap := h2.push { cls := .type "list_iterator", data := .fields #[.ref a, .int 0 0] }, toks := tk2 } [] [] rfl (Nat.zero_le _) ⟨_, Heap.get?_push_size _ rfl, rfl, rfl⟩ kpA ?_ rfl VRs_nil (Nat.le_refl _) fun h' tk ws' k1 k2 k3 k4 => ?_
  · exact Nat.ne_of_lt (Nat.lt_trans hal hlt2)
  · obtain ⟨o, es, ep, q, rest⟩ := hnew
    exact ⟨o, es, ep, kp3 _ _ (kp2 _ _ q), rest⟩
  · obtain ⟨ep, k2⟩ := DictAt_of k2
    refine ⟨rfl, .ref _, σ.set s.heap.objs.size (.dictI (putAll [] ps) ep), VR_ref.mpr rfl, R.alloc k1 (size_fresh _) ⟨?_, ws', k2, ?_, ?_⟩, .alloc k1 (size_fresh _), ⟨rfl, rfl, rfl⟩, h _ _ (R.fresh (size_fresh _))⟩
    · have := putAll_length ps []
      simp at this
      unfold Fits; omega
    · simpa using k3
    · exact VRs.mono (fun a o _ _ _ e _ _ => .of (k1 a o e)) (by simpa using k4)
/-! ## d != {} -/
noncomputable def tNeDict0 (t : TE) : TB := fun ℓ σ Q E => t ℓ σ (fun x σ₁ => ∃ a kvs ep, x = .ref a ∧ σ₁ a = some (.dictI kvs ep) ∧ ∀ d ep', σ₁ d = none → Q (!kvs.isEmpty) (σ₁.set d (.dictI [] ep'))) E
theorem sndB_neDict0 {e : Expr} {t : TE} {p pos : Pos} (h1 : SndE g sc r c e t) : SndB g sc r c (.Compare e [.NotEq] [.Dict [] [] p] pos) (tNeDict0 t) := .mk fun A env s ℓ σ Q E X h => by
  refine wpAny_isTrue_Compare1 (wpAny_mono (h1.run A env s ℓ σ _ E X h) (fun u s₁ p => ?_) fun _ _ p => p) rfl
  obtain ⟨x, σ₁, hu, hR, hx, hs, a, kvs, ep, rfl, e, hq⟩ := p
  have X₁ := X.step hR hx
  refine wpAny_mono (sndE_dict0.run A env s₁ ℓ σ₁ (fun v σ₂ => ∃ d ep', v = .ref d ∧ σ₁ d = none ∧ σ₂ = σ₁.set d (.dictI [] ep')) E X₁ fun d ep' q => ⟨d, ep', rfl, q, rfl⟩) (fun v s₂ p => ?_) fun _ _ p => p.back hx hs
  obtain ⟨b, σ₂, hv, hR2, hx2, hs2, d, ep', rfl, off, rfl⟩ := p
  have X₂ := X₁.step hR2 hx2
  have hne : a ≠ d := fun z => by rw [z, off] at e; cases e
  have e2 : (σ₁.set d (.dictI [] ep')) a = some (.dictI kvs ep) := by rw [AH.set_other hne]; exact e
  obtain ⟨hf, us, hd, hk, _⟩ := (hR2.own a _ e2).2
  obtain ⟨_, us', hd', hk', _⟩ := (hR2.own d _ AH.set_same).2
  have hus' : us' = [] := by cases us' with | nil => rfl | cons _ _ => simp at hk'
  subst hus'
  have hlen : kvs.length = us.length := by have := congrArg List.length hk; simpa using this.symm
  rw [VR_ref.mp hu, VR_ref.mp hv]
  refine keq_ne (knd := intKind g.prog g.w) (r := true) (sysMod_ne X.gok hR2 e2) (sysMod_ne X.gok hR2 AH.set_same) hd.dictOf hd'.dictOf (by have := X.room.cline; omega) (fun q => ?_) ?_
  · have : us = [] := List.length_eq_zero_iff.mp (by simpa using q)
    rw [this]; exact .nil
  · refine wpAny_truthy_bool ⟨!kvs.isEmpty, _, ?_, hR2, hx.trans hx2, hs.trans hs2, hq d ep' off⟩
    cases kvs with
    | nil => simp at hlen; simp [← hlen]
    | cons _ _ => simp at hlen; simp [← hlen]
end
section
/-! # the plain mathematics of a hall -/
structure Rw where
  n : Int
  l : Int
  r : Int
  h : Option Int
noncomputable def Rw.e (x : Rw) (s : Bool) : Int := if s then x.r else x.l
noncomputable def Inc (S : List Rw) : Prop := S.Pairwise fun x y => x.n < y.n
noncomputable def Proper (S : List Rw) : Prop := ∀ x ∈ S, ∀ y ∈ S, ∀ s, x.e s = y.e s → x.h = y.h → x.h ≠ none → x.n = y.n
noncomputable def FreeH (S : List Rw) (s : Bool) (e h : Int) : Prop := ∀ x ∈ S, x.e s = e → x.h ≠ some h
noncomputable def deg (S : List Rw) (s : Bool) (e : Int) : Nat := (S.filter fun x => x.e s == e).length
noncomputable def withH (S : List Rw) (s : Bool) (e h : Int) : Option Rw := S.find? fun x => x.e s == e && x.h == some h
theorem Inc.inj {S : List Rw} (hi : Inc S) : ∀ {x y : Rw}, x ∈ S → y ∈ S → x.n = y.n → x = y := by
  induction S with
  | nil => intro x y h; cases h
  | cons z S ih =>
    intro x y hx hy e
    rcases List.pairwise_cons.1 hi with ⟨h1, h2⟩
    rcases List.mem_cons.1 hx with p | p <;> rcases List.mem_cons.1 hy with q | q
    · rw [p, q]
    · have := h1 _ q; rw [← p] at this; omega
    · have := h1 _ p; rw [← q] at this; omega
    · exact ih h2 p q e
theorem nodup_le : ∀ (a b : List Int), a.Nodup → (∀ x ∈ a, x ∈ b) → a.length ≤ b.length
  | [], b, _, _ => Nat.zero_le _
  | x :: a, b, hn, hs => by
    have hx : x ∈ b := hs x (.head _)
    rcases List.nodup_cons.1 hn with ⟨h1, h2⟩
    have := nodup_le a (b.erase x) h2 fun y hy => (List.mem_erase_of_ne (by rintro rfl; exact h1 hy)).2 (hs y (.tail _ hy))
    rw [List.length_erase_of_mem hx] at this
    have : 0 < b.length := List.length_pos_of_mem hx
    simp only [List.length_cons]; omega
noncomputable def sideAt (s : Bool) (i : Nat) : Bool := if i % 2 = 0 then s else !s
noncomputable def wantAt (one other : Int) (i : Nat) : Int := if i % 2 = 0 then other else one
theorem sideAt_succ {s : Bool} {i : Nat} : sideAt s (i + 1) = !(sideAt s i) := by
  unfold sideAt
  rcases Nat.mod_two_eq_zero_or_one i with h | h
  · rw [if_neg (by omega), if_pos h]
  · rw [if_pos (by omega), if_neg (by omega)]; simp
theorem wantAt_succ {one other : Int} {i : Nat} : wantAt one other (i + 1) = one + other - wantAt one other i := by
  unfold wantAt
  rcases Nat.mod_two_eq_zero_or_one i with h | h
  · rw [if_neg (by omega), if_pos h]; omega
  · rw [if_pos (by omega), if_neg (by omega)]; omega
theorem sideAt_par {s : Bool} {i j : Nat} (h : i % 2 = j % 2) : sideAt s i = sideAt s j := by unfold sideAt; rw [h]
theorem wantAt_par {one other : Int} {i j : Nat} (h : i % 2 = j % 2) : wantAt one other i = wantAt one other j := by unfold wantAt; rw [h]
theorem wantAt_inj {one other : Int} (hne : one ≠ other) {i j : Nat} (h : wantAt one other i = wantAt one other j) : i % 2 = j % 2 := by
  unfold wantAt at h
  rcases Nat.mod_two_eq_zero_or_one i with a | a <;> rcases Nat.mod_two_eq_zero_or_one j with b | b
  · omega
  · rw [if_pos a, if_neg (by omega)] at h; exact absurd h.symm hne
  · rw [if_neg (by omega), if_pos b] at h; exact absurd h hne
  · omega
/-- a chain under way -/
structure Path (S : List Rw) (s : Bool) (e one other : Int) (l : List Rw) : Prop where
  mem : ∀ x ∈ l, x ∈ S
  hue : ∀ i x, l[i]? = some x → x.h = some (wantAt one other i)
  fst : ∀ x, l[0]? = some x → x.e s = e
  nxt : ∀ i x y, l[i]? = some x → l[i + 1]? = some y → y.e (sideAt s (i + 1)) = x.e (sideAt s (i + 1))
noncomputable def tipE (s : Bool) (e : Int) (l : List Rw) : Int := match l.getLast? with | none => e | some x => x.e (sideAt s l.length)
noncomputable def PDone (S : List Rw) (s : Bool) (e one other : Int) (l : List Rw) : Prop := FreeH S (sideAt s l.length) (tipE s e l) (wantAt one other l.length)
section
variable {S : List Rw} {s : Bool} {e one other : Int} {l : List Rw}
theorem Path.nil : Path S s e one other [] := ⟨fun _ h => absurd h (by simp), fun _ _ h => absurd h (by simp), fun _ h => absurd h (by simp), fun _ _ _ h => absurd h (by simp)⟩
theorem tipE_snoc {x : Rw} : tipE s e (l ++ [x]) = x.e (sideAt s (l.length + 1)) := by unfold tipE; simp
theorem snoc_get {i : Nat} {x y : Rw} (h : (l ++ [x])[i]? = some y) : (i < l.length ∧ l[i]? = some y) ∨ (i = l.length ∧ y = x) := by
  rcases Nat.lt_trichotomy i l.length with q | q | q
  · left; exact ⟨q, by rwa [List.getElem?_append_left q] at h⟩
  · right; subst q; simp at h; exact ⟨rfl, h.symm⟩
  · rw [List.getElem?_append_right (by omega), List.getElem?_eq_none (by simp; omega)] at h; cases h
theorem Path.snoc (P : Path S s e one other l) {x : Rw} (hx : x ∈ S) (hh : x.h = some (wantAt one other l.length)) (he : x.e (sideAt s l.length) = tipE s e l) : Path S s e one other (l ++ [x]) := by
  refine ⟨fun y hy => ?_, fun i y hy => ?_, fun y hy => ?_, fun i y z hy hz => ?_⟩
  · rcases List.mem_append.1 hy with h | h
    · exact P.mem y h
    · rw [List.mem_singleton.1 h]; exact hx
  · rcases snoc_get hy with ⟨_, h⟩ | ⟨rfl, rfl⟩
    · exact P.hue i y h
    · exact hh
  · rcases snoc_get hy with ⟨_, h⟩ | ⟨q, rfl⟩
    · exact P.fst y h
    · have hl : l = [] := List.length_eq_zero_iff.1 q.symm
      subst hl; exact he
  · rcases snoc_get hz with ⟨q, h⟩ | ⟨q, rfl⟩
    · rcases snoc_get hy with ⟨_, h'⟩ | ⟨q', _⟩
      · exact P.nxt i y z h' h
      · omega
    · rcases snoc_get hy with ⟨q', h'⟩ | ⟨q', _⟩
      · rw [q, he]
        unfold tipE
        have : l.getLast? = some y := by
          rw [List.getLast?_eq_getElem?, ← q]; simpa using h'
        rw [this]
      · omega
theorem Path.inj (P : Path S s e one other l) (hp : Proper S) (hi : Inc S) (hne : one ≠ other) (hf : FreeH S s e one) : ∀ (i j : Nat) (x y : Rw), i < j → l[i]? = some x → l[j]? = some y → x.n ≠ y.n := by
  intro i
  induction i with
  | zero =>
    intro j x y hij hx hy hn
    have hxy := hi.inj (P.mem x (List.mem_of_getElem? hx)) (P.mem y (List.mem_of_getElem? hy)) hn
    subst hxy
    have hpar := wantAt_inj hne (Option.some.inj ((P.hue _ _ hx).symm.trans (P.hue _ _ hy)))
    cases j with
    | zero => omega
    | succ j =>
      obtain ⟨z, hz⟩ : ∃ z, l[j]? = some z := by
        rcases Nat.lt_or_ge j l.length with q | q
        · exact ⟨_, List.getElem?_eq_getElem q⟩
        · rw [List.getElem?_eq_none (by omega)] at hy; cases hy
      have h1 := P.nxt j z x hz hy
      have hs : sideAt s (j + 1) = s := by unfold sideAt; rw [if_pos (by omega)]
      rw [hs, P.fst x hx] at h1
      refine hf z (P.mem z (List.mem_of_getElem? hz)) h1.symm ?_
      rw [P.hue j z hz]; unfold wantAt; rw [if_neg (by omega)]
  | succ i ih =>
    intro j x y hij hx hy hn
    have hxy := hi.inj (P.mem x (List.mem_of_getElem? hx)) (P.mem y (List.mem_of_getElem? hy)) hn
    subst hxy
    have hpar := wantAt_inj hne (Option.some.inj ((P.hue _ _ hx).symm.trans (P.hue _ _ hy)))
    cases j with
    | zero => omega
    | succ j =>
      have pred : ∀ k, l[k + 1]? = some x → ∃ z, l[k]? = some z := fun k hk => by
        rcases Nat.lt_or_ge k l.length with q | q
        · exact ⟨_, List.getElem?_eq_getElem q⟩
        · rw [List.getElem?_eq_none (by omega)] at hk; cases hk
      obtain ⟨z, hz⟩ := pred i hx
      obtain ⟨z', hz'⟩ := pred j hy
      have h1 := P.nxt i z x hz hx
      have h2 := P.nxt j z' x hz' hy
      rw [← sideAt_par hpar] at h2
      refine ih j z z' (by omega) hz hz' (hp z (P.mem z (List.mem_of_getElem? hz)) z' (P.mem z' (List.mem_of_getElem? hz')) _ (h1.symm.trans h2) ?_ ?_)
      · rw [P.hue i z hz, P.hue j z' hz', wantAt_par (by omega : i % 2 = j % 2)]
      · rw [P.hue i z hz]; simp
theorem nodup_of_get (as : List Int) (h : ∀ (i j : Nat) (x y : Int), i < j → as[i]? = some x → as[j]? = some y → x ≠ y) : as.Nodup := by
  rw [List.Nodup, List.pairwise_iff_getElem]
  intro i j hi hj hij
  exact h i j _ _ hij (List.getElem?_eq_getElem hi) (List.getElem?_eq_getElem hj)
theorem Path.nodup (P : Path S s e one other l) (hp : Proper S) (hi : Inc S) (hne : one ≠ other) (hf : FreeH S s e one) : (l.map Rw.n).Nodup := by
  refine nodup_of_get _ fun i j x y hij hx hy => ?_
  rw [List.getElem?_map] at hx hy
  cases ex : l[i]? with
  | none => rw [ex] at hx; cases hx
  | some a =>
    cases ey : l[j]? with
    | none => rw [ey] at hy; cases hy
    | some b =>
      rw [ex] at hx; rw [ey] at hy; cases hx; cases hy
      exact P.inj hp hi hne hf i j a b hij ex ey
theorem Path.len (P : Path S s e one other l) (hp : Proper S) (hi : Inc S) (hne : one ≠ other) (hf : FreeH S s e one) : l.length ≤ S.length := by
  have := nodup_le (l.map Rw.n) (S.map Rw.n) (P.nodup hp hi hne hf) fun x hx => by
    obtain ⟨a, ha, rfl⟩ := List.mem_map.1 hx
    exact List.mem_map.2 ⟨a, P.mem a ha, rfl⟩
  simpa using this
/-- the chain's two hues are changed -/
noncomputable def flipH (nums : List Int) (one other : Int) (x : Rw) : Rw := if x.n ∈ nums then { x with h := x.h.map fun h => one + other - h } else x
theorem flipH_n {nums : List Int} {x : Rw} : (flipH nums one other x).n = x.n := by unfold flipH; split <;> rfl
theorem flipH_e {nums : List Int} {x : Rw} {t : Bool} : (flipH nums one other x).e t = x.e t := by unfold flipH; split <;> rfl
theorem flipH_out {nums : List Int} {x : Rw} (h : x.n ∉ nums) : flipH nums one other x = x := if_neg h
theorem Path.at (P : Path S s e one other l) (hi : Inc S) {x : Rw} (hx : x ∈ S) (hn : x.n ∈ l.map Rw.n) : ∃ i : Nat, l[i]? = some x := by
  obtain ⟨a, ha, q⟩ := List.mem_map.1 hn
  have := hi.inj (P.mem a ha) hx q
  subst this
  obtain ⟨i, hi, e⟩ := List.getElem_of_mem ha
  exact ⟨i, by rw [List.getElem?_eq_getElem hi, e]⟩
theorem Path.flip_hue (P : Path S s e one other l) {i : Nat} {x : Rw} (hx : l[i]? = some x) : (flipH (l.map Rw.n) one other x).h = some (wantAt one other (i + 1)) := by
  unfold flipH
  rw [if_pos (List.mem_map.2 ⟨x, List.mem_of_getElem? hx, rfl⟩)]
  show x.h.map _ = _
  rw [P.hue i x hx, wantAt_succ]; rfl
theorem getPred {i : Nat} {x : Rw} (h : l[i + 1]? = some x) : ∃ z, l[i]? = some z := by
  rcases Nat.lt_or_ge i l.length with q | q
  · exact ⟨_, List.getElem?_eq_getElem q⟩
  · rw [List.getElem?_eq_none (by omega)] at h; cases h
/-- a neighbour of the chain of the wanted hue lies in the chain -/
theorem Path.near (P : Path S s e one other l) (D : PDone S s e one other l) (hp : Proper S) (hf : FreeH S s e one) {i : Nat} {x y : Rw} (hx : l[i]? = some x) (hy : y ∈ S) {t : Bool} (ht : y.e t = x.e t) (hh : y.h = some (wantAt one other (i + 1))) : y.n ∈ l.map Rw.n := by
  have hcase : t = sideAt s i ∨ t = sideAt s (i + 1) := by rw [sideAt_succ]; cases t <;> cases sideAt s i <;> simp
  have fin : ∀ {k : Nat} {z : Rw}, l[k]? = some z → z.e t = y.e t → z.h = y.h → y.n ∈ l.map Rw.n := fun {k z} hk q1 q2 => by
    have hz := List.mem_of_getElem? hk
    have := hp z (P.mem z hz) y hy t q1 q2 (by rw [q2, hh]; simp)
    exact this ▸ List.mem_map.2 ⟨z, hz, rfl⟩
  rcases hcase with rfl | rfl
  · cases i with
    | zero =>
      refine absurd ?_ (hf y hy (by rw [← P.fst x hx]; exact ht))
      rw [hh]; rfl
    | succ k =>
      obtain ⟨z, hz⟩ := getPred hx
      refine fin hz ((P.nxt k z x hz hx).symm.trans ht.symm) ?_
      rw [P.hue k z hz, hh, wantAt_par (by omega : k % 2 = (k + 1 + 1) % 2)]
  · cases q : l[i + 1]? with
    | some z => exact fin q ((P.nxt i x z hx q).trans ht.symm) (by rw [P.hue _ z q, hh])
    | none =>
      have hl : l.length = i + 1 := by
        have h1 : i < l.length := by
          rcases Nat.lt_or_ge i l.length with w | w
          · exact w
          · rw [List.getElem?_eq_none (by omega)] at hx; cases hx
        have h2 := List.getElem?_eq_none_iff.1 q
        omega
      refine absurd ?_ (D y hy ?_)
      · rw [hl]; exact hh
      · unfold tipE
        have : l.getLast? = some x := by rw [List.getLast?_eq_getElem?, hl]; simpa using hx
        rw [this, hl]; exact ht
theorem mem_flip {nums : List Int} {x' : Rw} (h : x' ∈ S.map (flipH nums one other)) : ∃ x ∈ S, x' = flipH nums one other x := by
  obtain ⟨x, a, b⟩ := List.mem_map.1 h; exact ⟨x, a, b.symm⟩
theorem Path.flip_proper (P : Path S s e one other l) (D : PDone S s e one other l) (hp : Proper S) (hi : Inc S) (hne : one ≠ other) (hf : FreeH S s e one) : Proper (S.map (flipH (l.map Rw.n) one other)) := by
  intro x' hx' y' hy' t ht hh hs
  obtain ⟨x, hx, rfl⟩ := mem_flip hx'
  obtain ⟨y, hy, rfl⟩ := mem_flip hy'
  rw [flipH_e, flipH_e] at ht
  rw [flipH_n, flipH_n]
  by_cases a : x.n ∈ l.map Rw.n <;> by_cases b : y.n ∈ l.map Rw.n
  · obtain ⟨i, hxi⟩ := P.at hi hx a
    obtain ⟨j, hyj⟩ := P.at hi hy b
    rw [P.flip_hue hxi, P.flip_hue hyj] at hh
    have := wantAt_inj hne (Option.some.inj hh)
    refine hp x hx y hy t ht ?_ ?_
    · rw [P.hue i x hxi, P.hue j y hyj, wantAt_par (by omega : i % 2 = j % 2)]
    · rw [P.hue i x hxi]; simp
  · obtain ⟨i, hxi⟩ := P.at hi hx a
    rw [P.flip_hue hxi, flipH_out b] at hh
    exact absurd (P.near D hp hf hxi hy ht.symm hh.symm) b
  · obtain ⟨j, hyj⟩ := P.at hi hy b
    rw [P.flip_hue hyj, flipH_out a] at hh
    exact absurd (P.near D hp hf hyj hx ht hh) a
  · rw [flipH_out a, flipH_out b] at hh
    rw [flipH_out a] at hs
    exact hp x hx y hy t ht hh hs
theorem Path.flip_free (P : Path S s e one other l) (D : PDone S s e one other l) (hp : Proper S) (hi : Inc S) (hne : one ≠ other) (hf : FreeH S s e one) : FreeH (S.map (flipH (l.map Rw.n) one other)) s e other := by
  intro x' hx' he hh
  obtain ⟨x, hx, rfl⟩ := mem_flip hx'
  rw [flipH_e] at he
  by_cases a : x.n ∈ l.map Rw.n
  · obtain ⟨i, hxi⟩ := P.at hi hx a
    rw [P.flip_hue hxi] at hh
    have h1 : wantAt one other (i + 1) = wantAt one other 0 := Option.some.inj hh
    have := wantAt_inj hne h1
    refine hf x hx he ?_
    rw [P.hue i x hxi]; unfold wantAt; rw [if_neg (by omega)]
  · rw [flipH_out a] at hh
    cases q : l with
    | nil =>
      subst q
      exact D x hx he hh
    | cons z r =>
      have hz0 : l[0]? = some z := by rw [q]; rfl
      have hz := List.mem_of_getElem? hz0
      have := hp z (P.mem z hz) x hx s ((P.fst z hz0).trans he.symm) (by rw [P.hue 0 z hz0, hh]; rfl) (by rw [P.hue 0 z hz0]; simp)
      exact a (this ▸ List.mem_map.2 ⟨z, hz, rfl⟩)
theorem Path.flip_far (P : Path S s e one other l) (hi : Inc S) (hne : one ≠ other) {e2 : Int} (hf : FreeH S (!s) e2 other) : FreeH (S.map (flipH (l.map Rw.n) one other)) (!s) e2 other := by
  intro x' hx' he hh
  obtain ⟨x, hx, rfl⟩ := mem_flip hx'
  rw [flipH_e] at he
  by_cases a : x.n ∈ l.map Rw.n
  · obtain ⟨i, hxi⟩ := P.at hi hx a
    rw [P.flip_hue hxi] at hh
    have h1 : wantAt one other (i + 1) = wantAt one other 0 := Option.some.inj hh
    have := wantAt_inj hne h1
    cases i with
    | zero => omega
    | succ k =>
      obtain ⟨z, hz⟩ := getPred hxi
      have h2 := P.nxt k z x hz hxi
      have hs : sideAt s (k + 1) = !s := by unfold sideAt; rw [if_neg (by omega)]
      rw [hs, he] at h2
      refine hf z (P.mem z (List.mem_of_getElem? hz)) h2.symm ?_
      rw [P.hue k z hz]; unfold wantAt; rw [if_pos (by omega)]
  · rw [flipH_out a] at hh
    exact hf x hx he hh
end
/-! ## a row gets its hue -/
noncomputable def putH (k : Int) (h : Option Int) (x : Rw) : Rw := if x.n = k then { x with h := h } else x
theorem putH_n {k : Int} {h : Option Int} {x : Rw} : (putH k h x).n = x.n := by unfold putH; split <;> rfl
theorem putH_e {k : Int} {h : Option Int} {x : Rw} {t : Bool} : (putH k h x).e t = x.e t := by unfold putH; split <;> rfl
theorem putH_same {k : Int} {h : Option Int} {x : Rw} (q : x.n = k) : (putH k h x).h = h := by unfold putH; rw [if_pos q]
theorem putH_out {k : Int} {h : Option Int} {x : Rw} (q : x.n ≠ k) : putH k h x = x := if_neg q
theorem inc_map {S : List Rw} {f : Rw → Rw} (hf : ∀ x, (f x).n = x.n) (hi : Inc S) : Inc (S.map f) := by
  unfold Inc at *
  rw [List.pairwise_map]
  exact hi.imp fun h => by rw [hf, hf]; exact h
theorem put_proper {S : List Rw} {k h : Int} (hp : Proper S) (hs : ∀ x ∈ S, x.n = k → ∀ t, FreeH S t (x.e t) h) : Proper (S.map (putH k (some h))) := by
  intro x' hx' y' hy' t ht hh hne
  obtain ⟨x, hx, rfl⟩ := List.mem_map.1 hx'
  obtain ⟨y, hy, rfl⟩ := List.mem_map.1 hy'
  rw [putH_e, putH_e] at ht
  rw [putH_n, putH_n]
  by_cases a : x.n = k <;> by_cases b : y.n = k
  · rw [a, b]
  · rw [putH_same a, putH_out b] at hh
    exact absurd hh.symm (hs x hx a t y hy ht.symm)
  · rw [putH_same b, putH_out a] at hh
    exact absurd hh (hs y hy b t x hx ht)
  · rw [putH_out a, putH_out b] at hh
    rw [putH_out a] at hne
    exact hp x hx y hy t ht hh hne
theorem put_none_proper {S : List Rw} {k : Int} (hp : Proper S) : Proper (S.map (putH k none)) := by
  intro x' hx' y' hy' t ht hh hne
  obtain ⟨x, hx, rfl⟩ := List.mem_map.1 hx'
  obtain ⟨y, hy, rfl⟩ := List.mem_map.1 hy'
  rw [putH_e, putH_e] at ht
  rw [putH_n, putH_n]
  by_cases a : x.n = k <;> by_cases b : y.n = k
  · rw [a, b]
  · rw [putH_same a] at hne; exact absurd rfl hne
  · rw [putH_same b] at hh; rw [hh] at hne; exact absurd rfl hne
  · rw [putH_out a, putH_out b] at hh
    rw [putH_out a] at hne
    exact hp x hx y hy t ht hh hne
/-! ## counting -/
noncomputable def rngI (m : Nat) : List Int := (List.range m).map Int.ofNat
theorem rngI_mem {m : Nat} {h : Int} : h ∈ rngI m ↔ 0 ≤ h ∧ h < m := by
  unfold rngI
  simp only [List.mem_map, List.mem_range]
  constructor
  · rintro ⟨a, b, rfl⟩; exact ⟨Int.natCast_nonneg _, by simpa using b⟩
  · rintro ⟨a, b⟩; exact ⟨h.toNat, by omega, by simp; omega⟩
theorem rngI_length {m : Nat} : (rngI m).length = m := by simp [rngI]
theorem rngI_nodup {m : Nat} : (rngI m).Nodup := by
  unfold rngI
  refine List.Pairwise.map _ ?_ (List.nodup_range (n := m))
  intro a b h q; exact h (Int.ofNat.inj q)
noncomputable def usedH (S : List Rw) (s : Bool) (e : Int) : List Int := (S.filter fun x => x.e s == e).filterMap Rw.h
theorem mem_usedH {S : List Rw} {s : Bool} {e h : Int} : h ∈ usedH S s e ↔ ∃ x ∈ S, x.e s = e ∧ x.h = some h := by
  unfold usedH
  simp only [List.mem_filterMap, List.mem_filter, beq_iff_eq, and_assoc]
theorem exists_free {S : List Rw} {s : Bool} {e : Int} {m : Nat} (hd : deg S s e ≤ m) (hx : ∃ x ∈ S, x.e s = e ∧ x.h = none) : ∃ h : Int, 0 ≤ h ∧ h < m ∧ FreeH S s e h := by
  refine Classical.byContradiction fun hn => ?_
  have hall : ∀ h ∈ rngI m, h ∈ usedH S s e := fun h hh => by
    obtain ⟨a, b⟩ := rngI_mem.1 hh
    refine Classical.byContradiction fun hq => hn ⟨h, a, b, fun x hx he hy => hq (mem_usedH.2 ⟨x, hx, he, hy⟩)⟩
  have h1 := nodup_le _ _ rngI_nodup hall
  rw [rngI_length] at h1
  have h2 : (usedH S s e).length < deg S s e := by
    obtain ⟨x, h1, h2, h3⟩ := hx
    have hm : x ∈ S.filter fun x => x.e s == e := List.mem_filter.2 ⟨h1, by simpa using h2⟩
    unfold usedH deg
    generalize S.filter (fun x => x.e s == e) = T at hm
    clear h1 hall hn hd
    induction T with
    | nil => cases hm
    | cons y T ih =>
      have hle := List.length_filterMap_le Rw.h T
      cases hm with
      | head => rw [List.filterMap_cons_none h3]; simp only [List.length_cons]; omega
      | tail _ hm =>
        have := ih hm
        cases q : y.h with
        | none => rw [List.filterMap_cons_none q]; simp only [List.length_cons]; omega
        | some v => rw [List.filterMap_cons_some q]; simp only [List.length_cons]; omega
  omega
theorem full_cover {S : List Rw} {s : Bool} {e : Int} {m : Nat} (hi : Inc S) (hp : Proper S) (hd : deg S s e = m) (hb : ∀ x ∈ S, ∃ h : Int, x.h = some h ∧ 0 ≤ h ∧ h < m) {h : Int} (h0 : 0 ≤ h) (h1 : h < m) : ∃ x ∈ S, x.e s = e ∧ x.h = some h := by
  refine Classical.byContradiction fun hn => ?_
  have hq : h ∉ usedH S s e := fun q => hn (mem_usedH.1 q)
  have hlen : (usedH S s e).length = m := by
    rw [← hd]
    unfold usedH deg
    have : ∀ x ∈ S.filter (fun x => x.e s == e), ∃ h : Int, x.h = some h := fun x hx => let ⟨h, q, _⟩ := hb x (List.mem_filter.1 hx).1; ⟨h, q⟩
    generalize S.filter (fun x => x.e s == e) = T at this
    induction T with
    | nil => rfl
    | cons y T ih =>
      obtain ⟨v, q⟩ := this y (.head _)
      rw [List.filterMap_cons_some q]
      simp only [List.length_cons]
      rw [ih fun x hx => this x (.tail _ hx)]
  have hnd : (usedH S s e).Nodup := by
    unfold usedH
    have hT : (S.filter fun x => x.e s == e).Pairwise fun x y => x.n < y.n := List.Pairwise.filter _ hi
    have hm : ∀ x ∈ S.filter (fun x => x.e s == e), x ∈ S ∧ x.e s = e := fun x hx => by simpa using List.mem_filter.1 hx
    generalize S.filter (fun x => x.e s == e) = T at hT hm
    rw [List.Nodup]
    refine List.Pairwise.filterMap Rw.h ?_ (hT.imp_of_mem ?_ (S := fun x y => x.n < y.n ∧ x ∈ T ∧ y ∈ T))
    · rintro a a' ⟨h1, h2, h3⟩ b hb b' hb' q
      subst q
      have := hp a (hm a h2).1 a' (hm a' h3).1 s ((hm a h2).2.trans (hm a' h3).2.symm) (hb.trans hb'.symm) (by rw [hb]; simp)
      omega
    · exact fun ha hb h => ⟨h, ha, hb⟩
  have := nodup_le (h :: usedH S s e) (rngI m) (List.nodup_cons.2 ⟨hq, hnd⟩) fun x hx => by
    rcases List.mem_cons.1 hx with rfl | hx
    · exact rngI_mem.2 ⟨h0, h1⟩
    · obtain ⟨y, hy, _, hh⟩ := mem_usedH.1 hx
      obtain ⟨h', q, a, b⟩ := hb y hy
      rw [hh] at q; cases q
      exact rngI_mem.2 ⟨a, b⟩
  simp only [List.length_cons, rngI_length] at this
  omega
end
section
/-! # degrees, counts, what come and go do -/
noncomputable def szOf (a b : Int) (s : Bool) : Int := if s then b else a
structure IsCnt (S : List Rw) (a b : Int) (m : Nat) : Prop where
  le : ∀ s e, 0 ≤ e → e < szOf a b s → deg S s e ≤ m
  got : m = 0 ∨ ∃ s e, 0 ≤ e ∧ e < szOf a b s ∧ deg S s e = m
noncomputable def InR (S : List Rw) (a b : Int) : Prop := ∀ x ∈ S, ∀ s, 0 ≤ x.e s ∧ x.e s < szOf a b s
structure Good (S : List Rw) (a b : Int) (m : Nat) : Prop where
  inc : Inc S
  proper : Proper S
  inr : InR S a b
  cnt : IsCnt S a b m
  hues : ∀ x ∈ S, ∃ h : Int, x.h = some h ∧ 0 ≤ h ∧ h < m
theorem IsCnt.uniq {S : List Rw} {a b : Int} {m m' : Nat} (x : IsCnt S a b m) (y : IsCnt S a b m') : m = m' := by
  have key : ∀ {m m' : Nat}, IsCnt S a b m → IsCnt S a b m' → m ≤ m' := fun {m m'} x y => by
    rcases x.got with h | ⟨s, e, h1, h2, h3⟩
    · omega
    · have := y.le s e h1 h2; omega
  have := key x y; have := key y x; omega
theorem deg_zero {S : List Rw} {s : Bool} {e : Int} (h : ∀ x ∈ S, x.e s ≠ e) : deg S s e = 0 := by
  unfold deg
  rw [List.length_eq_zero_iff, List.filter_eq_nil_iff]
  intro x hx; simpa using h x hx
theorem deg_pos {S : List Rw} {x : Rw} (h : x ∈ S) (s : Bool) : 0 < deg S s (x.e s) :=
  List.length_pos_of_mem (List.mem_filter.2 ⟨h, by simp⟩)
theorem IsCnt.all {S : List Rw} {a b : Int} {m : Nat} (x : IsCnt S a b m) (r : InR S a b) (s : Bool) (e : Int) : deg S s e ≤ m := by
  by_cases h : 0 ≤ e ∧ e < szOf a b s
  · exact x.le s e h.1 h.2
  · rw [deg_zero fun y hy q => h (by rw [← q]; exact r y hy s)]; omega
theorem IsCnt.empty {a b : Int} : IsCnt [] a b 0 := ⟨fun _ _ _ _ => Nat.le_refl _, .inl rfl⟩
theorem Good.empty {a b : Int} : Good [] a b 0 := ⟨.nil, fun _ h => absurd h (by simp), fun _ h => absurd h (by simp), .empty, fun _ h => absurd h (by simp)⟩
theorem cnt_zero {S : List Rw} {a b : Int} (x : IsCnt S a b 0) (r : InR S a b) : S = [] := by
  cases S with
  | nil => rfl
  | cons y S => have := deg_pos (List.mem_cons_self (a := y) (l := S)) true; have := x.all r true (y.e true); omega
theorem deg_map {S : List Rw} {f : Rw → Rw} (hf : ∀ x t, (f x).e t = x.e t) (s : Bool) (e : Int) : deg (S.map f) s e = deg S s e := by
  unfold deg
  rw [List.filter_map, List.length_map]
  congr 2
  funext x; simp [hf]
theorem deg_append {S T : List Rw} {s : Bool} {e : Int} : deg (S ++ T) s e = deg S s e + deg T s e := by unfold deg; simp
theorem deg_filter_le {S : List Rw} {p : Rw → Bool} {s : Bool} {e : Int} : deg (S.filter p) s e ≤ deg S s e := by
  unfold deg; rw [List.filter_filter]
  have : (S.filter fun a => a.e s == e && p a) = (S.filter fun x => x.e s == e).filter p := by rw [List.filter_filter]; congr 1; funext x; rw [Bool.and_comm]
  rw [this]; exact List.length_filter_le _ _
theorem IsCnt.congr {S T : List Rw} {a b : Int} {m : Nat} (x : IsCnt S a b m) (h : ∀ s e, deg T s e = deg S s e) : IsCnt T a b m :=
  ⟨fun s e h1 h2 => by rw [h]; exact x.le s e h1 h2, by
    rcases x.got with q | ⟨s, e, h1, h2, h3⟩
    · exact .inl q
    · exact .inr ⟨s, e, h1, h2, by rw [h]; exact h3⟩⟩
/-- a way to hue the row k: the hue, the other one, the chain -/
structure Way (S : List Rw) (k : Int) (m : Nat) (hue other : Int) (l : List Rw) : Prop where
  ex : ∃ (s : Bool) (x : Rw), x ∈ S ∧ x.n = k ∧ x.h = none ∧ Path S s (x.e s) other hue l ∧ PDone S s (x.e s) other hue l ∧ FreeH S s (x.e s) other ∧ FreeH S (!s) (x.e (!s)) hue
  ne : other ≠ hue
  hue : 0 ≤ hue ∧ hue < m
  other : 0 ≤ other ∧ other < m
/-- what a hall looks like behind a row's hueing -/
noncomputable def afterWay (S : List Rw) (k hue other : Int) (nums : List Int) : List Rw := (S.map (flipH nums hue other)).map (putH k (some hue))
theorem flipH_comm {nums : List Int} {a b : Int} : flipH nums a b = flipH nums b a := by
  funext x; unfold flipH; rw [Int.add_comm a b]
theorem Way.proper {S : List Rw} {k hue other : Int} {m : Nat} {l : List Rw} (w : Way S k m hue other l) (hp : Proper S) (hi : Inc S) : Proper (afterWay S k hue other (l.map Rw.n)) := by
  obtain ⟨s, x, hx, hk, hn, P, D, hf, hg⟩ := w.ex
  unfold afterWay
  rw [flipH_comm]
  refine put_proper (P.flip_proper D hp hi w.ne hf) fun y hy q t => ?_
  obtain ⟨z, hz, rfl⟩ := mem_flip hy
  rw [flipH_n] at q
  have : z = x := hi.inj hz hx (q.trans hk.symm)
  subst this
  rw [flipH_e]
  by_cases ht : t = s
  · subst ht; exact P.flip_free D hp hi w.ne hf
  · have : t = !s := by cases t <;> cases s <;> simp_all
    subst this
    exact P.flip_far hi w.ne hg
/-- the hues behind: of the row, of the chain, of the others -/
theorem Way.hues {S : List Rw} {k hue other : Int} {m : Nat} {l : List Rw} (w : Way S k m hue other l) (hi : Inc S) : ∀ y ∈ afterWay S k hue other (l.map Rw.n), (∃ h : Int, y.h = some h ∧ 0 ≤ h ∧ h < m) ∨ (y ∈ S ∧ y.n ≠ k) := by
  intro y hy
  obtain ⟨s, x, hx, hk, hn, P, D, hf, hg⟩ := w.ex
  unfold afterWay at hy
  obtain ⟨y', hy', rfl⟩ := List.mem_map.1 hy
  obtain ⟨z, hz, rfl⟩ := mem_flip hy'
  by_cases q : z.n = k
  · exact .inl ⟨hue, putH_same (by rw [flipH_n]; exact q), w.hue⟩
  · rw [putH_out (by rw [flipH_n]; exact q)]
    by_cases c : z.n ∈ l.map Rw.n
    · obtain ⟨i, e⟩ := P.at hi hz c
      refine .inl ⟨wantAt other hue (i + 1), by rw [flipH_comm]; exact P.flip_hue e, ?_⟩
      unfold wantAt; split
      · exact w.hue
      · exact w.other
    · rw [flipH_out c]; exact .inr ⟨hz, q⟩
noncomputable def afterBoth (S : List Rw) (k hue : Int) : List Rw := S.map (putH k (some hue))
theorem both_proper {S : List Rw} {k hue : Int} (hp : Proper S) (hi : Inc S) {x : Rw} (hx : x ∈ S) (hk : x.n = k) (hf : ∀ t, FreeH S t (x.e t) hue) : Proper (afterBoth S k hue) :=
  put_proper hp fun y hy q t => by
    have : y = x := hi.inj hy hx (q.trans hk.symm)
    subst this; exact hf t
/-! ## what hueing leaves: the same rows but for hues -/
noncomputable def sk (x : Rw) : Int × Int × Int := (x.n, x.l, x.r)
structure Hued (S S' : List Rw) (k : Int) (m : Nat) : Prop where
  sk : S'.map sk = S.map sk
  inc : Inc S'
  proper : Proper S'
  hues : ∀ y ∈ S', (∃ h : Int, y.h = some h ∧ 0 ≤ h ∧ h < m) ∨ (y ∈ S ∧ y.n ≠ k)
theorem sk_map {S : List Rw} {f : Rw → Rw} (hf : ∀ x, sk (f x) = sk x) : (S.map f).map sk = S.map sk := by
  rw [List.map_map]; exact List.map_congr_left fun x _ => hf x
theorem sk_flipH {nums : List Int} {a b : Int} {x : Rw} : sk (flipH nums a b x) = sk x := by unfold flipH; split <;> rfl
theorem sk_putH {k : Int} {h : Option Int} {x : Rw} : sk (putH k h x) = sk x := by unfold putH; split <;> rfl
theorem Way.hued {S : List Rw} {k hue other : Int} {m : Nat} {l : List Rw} (w : Way S k m hue other l) (hp : Proper S) (hi : Inc S) : Hued S (afterWay S k hue other (l.map Rw.n)) k m :=
  ⟨by unfold afterWay; rw [sk_map fun _ => sk_putH, sk_map fun _ => sk_flipH], inc_map (fun _ => putH_n) (inc_map (fun _ => flipH_n) hi), w.proper hp hi, w.hues hi⟩
theorem both_hued {S : List Rw} {k hue : Int} {m : Nat} (hp : Proper S) (hi : Inc S) {x : Rw} (hx : x ∈ S) (hk : x.n = k) (hf : ∀ t, FreeH S t (x.e t) hue) (hh : 0 ≤ hue ∧ hue < m) : Hued S (afterBoth S k hue) k m :=
  ⟨sk_map fun _ => sk_putH, inc_map (fun _ => putH_n) hi, both_proper hp hi hx hk hf, fun y hy => by
    obtain ⟨z, hz, rfl⟩ := List.mem_map.1 hy
    by_cases q : z.n = k
    · exact .inl ⟨hue, putH_same q, hh⟩
    · rw [putH_out q]; exact .inr ⟨hz, q⟩⟩
theorem deg_sk {S T : List Rw} (h : T.map sk = S.map sk) (s : Bool) (e : Int) : deg T s e = deg S s e := by
  have key : ∀ U : List Rw, deg U s e = ((U.map sk).filter fun p => (if s then p.2.2 else p.2.1) == e).length := fun U => by
    unfold deg; rw [List.filter_map, List.length_map]; rfl
  rw [key, key, h]
theorem inr_sk {S T : List Rw} {a b : Int} (h : T.map sk = S.map sk) (r : InR S a b) : InR T a b := fun x hx s => by
  have : sk x ∈ S.map sk := h ▸ List.mem_map.2 ⟨x, hx, rfl⟩
  obtain ⟨y, hy, q⟩ := List.mem_map.1 this
  have e : x.e s = y.e s := by unfold sk at q; simp only [Prod.mk.injEq] at q; unfold Rw.e; rw [q.2.1, q.2.2]
  rw [e]; exact r y hy s
/-- a pair comes -/
theorem Good.come {S : List Rw} {a b : Int} {m m' : Nat} (G : Good S a b m) {x : Rw} (hx : ∀ y ∈ S, y.n < x.n) (hr : ∀ s, 0 ≤ x.e s ∧ x.e s < szOf a b s) (hn : x.h = none) (hc : IsCnt (S ++ [x]) a b m') {S' : List Rw} (H : Hued (S ++ [x]) S' x.n m') : Good S' a b m' := by
  have hm : m ≤ m' := by
    rcases G.cnt.got with q | ⟨s, e, h1, h2, h3⟩
    · omega
    · have := hc.le s e h1 h2; rw [deg_append] at this; omega
  refine ⟨H.inc, H.proper, inr_sk H.sk fun y hy s => ?_, hc.congr (deg_sk H.sk), fun y hy => ?_⟩
  · rcases List.mem_append.1 hy with h | h
    · exact G.inr y h s
    · rw [List.mem_singleton.1 h]; exact hr s
  · rcases H.hues y hy with h | ⟨h, q⟩
    · exact h
    · rcases List.mem_append.1 h with h | h
      · obtain ⟨v, e, h1, h2⟩ := G.hues y h; exact ⟨v, e, h1, by omega⟩
      · rw [List.mem_singleton.1 h] at q; exact absurd rfl q
theorem Good.comeInc {S : List Rw} {a b : Int} {m : Nat} (G : Good S a b m) {x : Rw} (hx : ∀ y ∈ S, y.n < x.n) (hn : x.h = none) : Inc (S ++ [x]) ∧ Proper (S ++ [x]) := by
  refine ⟨?_, fun y hy z hz t h1 h2 h3 => ?_⟩
  · unfold Inc; rw [List.pairwise_append]
    exact ⟨G.inc, List.pairwise_singleton _ _, fun y hy z hz => by rw [List.mem_singleton.1 hz]; exact hx y hy⟩
  · rcases List.mem_append.1 hy with p | p <;> rcases List.mem_append.1 hz with q | q
    · exact G.proper y p z q t h1 h2 h3
    · rw [List.mem_singleton.1 q, hn] at h2; exact absurd h2 h3
    · rw [List.mem_singleton.1 p, hn] at h3; exact absurd rfl h3
    · rw [List.mem_singleton.1 p, List.mem_singleton.1 q]
end
section
theorem deg_drop {S : List Rw} {p : Rw → Bool} {s : Bool} {e : Int} (hi : Inc S) (h : ∀ x ∈ S, ∀ y ∈ S, x.e s = e → y.e s = e → p x = false → p y = false → x.n = y.n) : deg S s e ≤ deg (S.filter p) s e + 1 := by
  have h1 : deg S s e = ((S.filter fun x => x.e s == e).filter p).length + ((S.filter fun x => x.e s == e).filter fun x => !p x).length := by
    unfold deg
    generalize (S.filter fun x => x.e s == e) = T
    induction T with
    | nil => rfl
    | cons y T ih => cases q : p y <;> simp [List.filter_cons, q, ih] <;> omega
  have h2 : ((S.filter fun x => x.e s == e).filter p).length = deg (S.filter p) s e := by
    unfold deg; rw [List.filter_filter, List.filter_filter]; congr 2; funext x; rw [Bool.and_comm]
  have h3 : ((S.filter fun x => x.e s == e).filter fun x => !p x).length ≤ 1 := by
    have hT : ((S.filter fun x => x.e s == e).filter fun x => !p x).Pairwise fun x y => x.n < y.n := (List.Pairwise.filter _ hi).filter _
    have hm : ∀ x ∈ (S.filter fun x => x.e s == e).filter fun x => !p x, x ∈ S ∧ x.e s = e ∧ p x = false := fun x hx => by
      obtain ⟨a, b⟩ := List.mem_filter.1 hx
      obtain ⟨a, c⟩ := List.mem_filter.1 a
      exact ⟨a, by simpa using c, by simpa using b⟩
    generalize (S.filter fun x => x.e s == e).filter (fun x => !p x) = T at hT hm
    match T, hT, hm with
    | [], _, _ => simp
    | [_], _, _ => simp
    | x :: y :: T, hT, hm =>
      have h1 := (List.pairwise_cons.1 hT).1 y (.head _)
      have a := hm x (.head _)
      have b := hm y (.tail _ (.head _))
      have := h x a.1 y b.1 a.2.1 b.2.1 a.2.2 b.2.2
      omega
  omega
theorem deg_less {S : List Rw} {p : Rw → Bool} {s : Bool} {e : Int} {x : Rw} (hx : x ∈ S) (he : x.e s = e) (hp : p x = false) : deg (S.filter p) s e < deg S s e := by
  unfold deg
  induction S with
  | nil => cases hx
  | cons y S ih =>
    rcases List.mem_cons.1 hx with rfl | hx
    · have := deg_filter_le (S := S) (p := p) (s := s) (e := e)
      unfold deg at this
      rw [List.filter_filter] at this
      simp [List.filter_cons, hp, he]; omega
    · have := ih hx
      rw [List.filter_filter] at this
      cases q : p y <;> cases w : (y.e s == e) <;> simp [List.filter_cons, q, w] <;> omega
theorem Inc.filter {S : List Rw} (hi : Inc S) (p : Rw → Bool) : Inc (S.filter p) := List.Pairwise.filter _ hi
theorem Proper.filter {S : List Rw} (hp : Proper S) (p : Rw → Bool) : Proper (S.filter p) := fun x hx y hy => hp x (List.mem_filter.1 hx).1 y (List.mem_filter.1 hy).1
theorem InR.filter {S : List Rw} {a b : Int} (r : InR S a b) (p : Rw → Bool) : InR (S.filter p) a b := fun x hx => r x (List.mem_filter.1 hx).1
/-- some rows are still to be hued anew: those that are yet to come, and of the hue m -/
structure Pend (S : List Rw) (a b : Int) (m : Nat) (rest : List Int) : Prop where
  inc : Inc S
  proper : Proper S
  inr : InR S a b
  cnt : IsCnt S a b m
  hues : ∀ x ∈ S, ∃ h : Int, x.h = some h ∧ 0 ≤ h ∧ h ≤ m ∧ (x.n ∉ rest → h < m)
noncomputable def drp (k : Int) (S : List Rw) : List Rw := S.filter fun x => x.n != k
/-- a pair goes -/
theorem Good.go {S : List Rw} {a b : Int} {m m' : Nat} (G : Good S a b m) {k : Int} (hc : IsCnt (drp k S) a b m') : m' ≤ m ∧ (m' = m → Good (drp k S) a b m') ∧ (m' < m → Pend (drp k S) a b m' ((drp k S).map Rw.n)) := by
  have h1 : m' ≤ m := by
    rcases hc.got with h | ⟨s, e, h1, h2, h3⟩
    · omega
    · have := deg_filter_le (S := S) (p := fun x => x.n != k) (s := s) (e := e); have := G.cnt.le s e h1 h2; unfold drp at h3; omega
  have h2 : m ≤ m' + 1 := by
    rcases G.cnt.got with h | ⟨s, e, h1, h2, h3⟩
    · omega
    · have := deg_drop (S := S) (p := fun x => x.n != k) (s := s) (e := e) G.inc fun x _ y _ _ _ p q => by
        have p : x.n = k := by simpa using p
        have q : y.n = k := by simpa using q
        rw [p, q]
      have := hc.le s e h1 h2; unfold drp at this; omega
  refine ⟨h1, fun e => ⟨G.inc.filter _, G.proper.filter _, G.inr.filter _, hc, fun x hx => ?_⟩, fun e => ⟨G.inc.filter _, G.proper.filter _, G.inr.filter _, hc, fun x hx => ?_⟩⟩
  · obtain ⟨h, q, p1, p2⟩ := G.hues x (List.mem_filter.1 hx).1
    exact ⟨h, q, p1, by omega⟩
  · obtain ⟨h, q, p1, p2⟩ := G.hues x (List.mem_filter.1 hx).1
    exact ⟨h, q, p1, by omega, fun n => absurd (List.mem_map.2 ⟨x, hx, rfl⟩) n⟩
theorem Pend.done {S : List Rw} {a b : Int} {m : Nat} (P : Pend S a b m []) : Good S a b m :=
  ⟨P.inc, P.proper, P.inr, P.cnt, fun x hx => let ⟨h, q, p1, _, p3⟩ := P.hues x hx; ⟨h, q, p1, p3 (by simp)⟩⟩
theorem Pend.skip {S : List Rw} {a b : Int} {m : Nat} {k : Int} {rest : List Int} (P : Pend S a b m (k :: rest)) {x : Rw} (hx : x ∈ S) (hk : x.n = k) (hh : x.h ≠ some (m : Int)) : Pend S a b m rest :=
  ⟨P.inc, P.proper, P.inr, P.cnt, fun y hy => by
    obtain ⟨h, q, p1, p2, p3⟩ := P.hues y hy
    refine ⟨h, q, p1, p2, fun n => ?_⟩
    by_cases z : y.n = k
    · have : y = x := P.inc.inj hy hx (z.trans hk.symm)
      subst this
      rw [q] at hh
      have : h ≠ m := fun w => hh (by rw [w])
      omega
    · exact p3 (by simp only [List.mem_cons, not_or]; exact ⟨z, n⟩)⟩
theorem Pend.step {S S' : List Rw} {a b : Int} {m : Nat} {k : Int} {rest : List Int} (P : Pend S a b m (k :: rest)) (H : Hued (S.map (putH k none)) S' k m) : Pend S' a b m rest := by
  have hsk : S'.map sk = S.map sk := H.sk.trans (sk_map fun _ => sk_putH)
  refine ⟨H.inc, H.proper, inr_sk hsk P.inr, P.cnt.congr (deg_sk hsk), fun y hy => ?_⟩
  rcases H.hues y hy with ⟨h, q, p1, p2⟩ | ⟨hm, hn⟩
  · exact ⟨h, q, p1, by omega, fun _ => p2⟩
  · obtain ⟨z, hz, rfl⟩ := List.mem_map.1 hm
    rw [putH_n] at hn
    rw [putH_out hn]
    obtain ⟨h, q, p1, p2, p3⟩ := P.hues z hz
    exact ⟨h, q, p1, p2, fun n => p3 (by simp only [List.mem_cons, not_or]; exact ⟨hn, n⟩)⟩
/-! ## a hue's pairs go -/
noncomputable def ofHue (S : List Rw) (h : Int) : List Rw := S.filter fun x => x.h == some h
theorem class_gone {S : List Rw} {a b : Int} {c : Nat} (G : Good S a b (c + 1)) {h : Int} (h0 : 0 ≤ h) (h1 : h < (c : Int) + 1) : IsCnt (S.filter fun x => x.h != some h) a b c := by
  have hle : ∀ s e, 0 ≤ e → e < szOf a b s → deg (S.filter fun x => x.h != some h) s e ≤ c := fun s e p q => by
    have h2 := G.cnt.le s e p q
    have h3 := deg_filter_le (S := S) (p := fun x => x.h != some h) (s := s) (e := e)
    by_cases w : deg S s e = c + 1
    · obtain ⟨x, hx, he, hh⟩ := full_cover G.inc G.proper w G.hues h0 (by omega)
      have := deg_less (S := S) (p := fun x => x.h != some h) hx he (by simp [hh])
      omega
    · omega
  refine ⟨hle, ?_⟩
  rcases G.cnt.got with q | ⟨s, e, p1, p2, p3⟩
  · omega
  · have := deg_drop (S := S) (p := fun x => x.h != some h) (s := s) (e := e) G.inc fun x hx y hy p q r t => by
      have r : x.h = some h := by simpa using r
      have t : y.h = some h := by simpa using t
      exact G.proper x hx y hy s (p.trans q.symm) (r.trans t.symm) (by rw [r]; simp)
    have := hle s e p1 p2
    exact .inr ⟨s, e, p1, p2, by omega⟩
/-- a hue's pairs have unlike ends -/
theorem class_ends {S : List Rw} {a b : Int} {m : Nat} (G : Good S a b m) {h : Int} (s : Bool) : ((ofHue S h).map fun x => x.e s).Nodup := by
  unfold ofHue
  have hT : (S.filter fun x => x.h == some h).Pairwise fun x y => x.n < y.n := List.Pairwise.filter _ G.inc
  have hm : ∀ x ∈ S.filter (fun x => x.h == some h), x ∈ S ∧ x.h = some h := fun x hx => by simpa using List.mem_filter.1 hx
  generalize S.filter (fun x => x.h == some h) = T at hT hm
  rw [List.Nodup, List.pairwise_map]
  refine hT.imp_of_mem fun {x y} hx hy h q => ?_
  have := G.proper x (hm x hx).1 y (hm y hy).1 s q ((hm x hx).2.trans (hm y hy).2.symm) (by rw [(hm x hx).2]; simp)
  omega
theorem class_full {S : List Rw} {a b : Int} {m : Nat} (G : Good S a b m) {h : Int} (h0 : 0 ≤ h) (h1 : h < m) {s : Bool} {e : Int} (hd : deg S s e = m) : e ∈ (ofHue S h).map fun x => x.e s := by
  obtain ⟨x, hx, he, hh⟩ := full_cover G.inc G.proper hd G.hues h0 h1
  exact List.mem_map.2 ⟨x, List.mem_filter.2 ⟨hx, by simp [hh]⟩, he⟩
theorem class_some {S : List Rw} {a b : Int} {m : Nat} (G : Good S a b m) {h : Int} (h0 : 0 ≤ h) (h1 : h < m) : ofHue S h ≠ [] := by
  rcases G.cnt.got with q | ⟨s, e, p1, p2, p3⟩
  · omega
  · intro w
    have := class_full G h0 h1 p3
    rw [w] at this; cases this
/-- the skeletons tell the count -/
theorem cnt_sk {S T : List Rw} {a b : Int} {m : Nat} (h : T.map sk = S.map sk) (x : IsCnt S a b m) : IsCnt T a b m := x.congr (deg_sk h)
end
section
open PySem PySem.W PyProof.Rows
variable {g : Gr} {sc csc : Scope} {r : Nat} {c : Bool} {K : Frag}
/-- a class of the program called by its name -/
theorem sndE_callC {n : String} {f : Value} {p pos : Pos} {args : List Expr} {ts : TL} {t : TF} (hK : K.In g.b0) (hm : (Str.ofString n, NameKind.globalImplicit) ∈ sc.names) (hk : Known g n f) (hkp : keepIn K f = true) (hF : SndF g r f t) (hL : SndL g sc r true args ts) (hp : Plain args) :
    SndE g sc r true (.Call (.Name (Str.ofString n) p) args [] pos) (tCall ts t) := .mk fun A env s ℓ σ Q E X h => by
  show wpAny _ A (do callWith pos (← eval (.Name (Str.ofString n) p) env) [] (backTo pos (starEach args env)) (backToKw pos (keywordEach [] env))) _ _ s
  refine wpAny_bind (name_global X hm hk ?_)
  refine callWith_in hK hkp (backTo_plain hp pos env) (wpAny_mono (hL.run A env pos s ℓ σ _ E X h) (fun vs s₁ p => ?_) fun _ _ p => p)
  obtain ⟨xs, σ₁, hv, hR, hx, hs, hq⟩ := p
  have X1 := X.step hR hx
  exact ⟨fun a o e => hR.base a o e, wp_back hx hs (hF.run A s₁ σ₁ xs vs Q E X.gok X1.fr.frl X1.room hR hv hq)⟩
section
variable {o : Expr} {apos pos : Pos} {args : List Expr} {to : TE} {ts : TL}
theorem mPop (ho : SndE g sc r true o to) (hL : SndL g sc r true args ts) (hp : Plain args) (hbase : isCall o = false) (hfew : decide (args.length < 30) = true)
    (hline : (apos.endLine == pos.line) = true) : SndE g sc r true (.Call (.Attribute o (Str.ofString "pop") apos) args [] pos) (tMethod "dict" tPop to ts) :=
  sndE_method F.plainAttrs_dict F.slot_dict_pop F.type_dict_pop sndF_pop ho hL hp hbase hfew hline
end
theorem unmoved_name {i : String} : Unmoved (tName i) := fun ℓ σ Q E h => by
  unfold tName at h
  split at h
  · rename_i v e; exact ⟨v, h, fun _ _ _ q => by unfold tName; rw [e]; exact q⟩
  · exact h.elim
/-! ## strings, none, data -/
theorem lay_str {x : Str} (h : PyData.strOk x = true) : Lay (.str x) := ⟨by simpa [PyData.canLay0] using h, by simp [PyData.depth]⟩
theorem eqD_str {σ : AH} {a b : Str} {Q : Bool → Prop} (ha : PyData.strOk a = true) (hb : PyData.strOk b = true) (h : Q (a == b)) : eqD (.str a) (.str b) σ Q := by
  unfold eqD
  exact ⟨.str a, .str b, by simp [DataOf], by simp [DataOf], lay_str ha, lay_str hb, by simpa only [PyData.eqv] using h⟩
/-- a hue as a value -/
noncomputable def hueV : Option Int → V
  | none => .none
  | some h => .int h
noncomputable def hueD : Option Int → PyData
  | none => .none
  | some h => .int h
theorem data_hue {σ : AH} (h : Option Int) : DataOf σ (hueD h) (hueV h) := by cases h <;> simp [hueD, hueV, DataOf]
theorem eqD_hue {σ : AH} {a : Option Int} {b : Int} {Q : Bool → Prop} (h : Q (a == some b)) : eqD (hueV a) (.int b) σ Q := by
  cases a with
  | none => unfold eqD hueV; exact ⟨.none, .int b, by simp [DataOf], by simp [DataOf], lay_none, lay_int b, by simpa [PyData.eqv] using h⟩
  | some x => simp only [hueV, eqD]; simpa using h
theorem data_hues {σ : AH} : ∀ (hs : List (Option Int)), DataOfs σ (hs.map hueD) (hs.map hueV)
  | [] => by simp [DataOfs]
  | h :: hs => by simp only [List.map_cons, DataOfs]; exact ⟨_, _, rfl, data_hue h, data_hues hs⟩
theorem canLay_hues : ∀ hs : List (Option Int), PyData.canLayAll0 (hs.map hueD) = true
  | [] => by simp [PyData.canLayAll0]
  | h :: hs => by cases h <;> simp [PyData.canLayAll0, PyData.canLay0, hueD, canLay_hues hs]
theorem depth_hues : ∀ hs : List (Option Int), PyData.depthAll (hs.map hueD) ≤ 1
  | [] => by simp [PyData.depthAll]
  | h :: hs => by
    have := depth_hues hs
    cases h <;> (simp only [List.map_cons, hueD, PyData.depthAll, PyData.depth]; omega)
theorem lay_hues (hs : List (Option Int)) : Lay (.list (hs.map hueD)) := ⟨by simp [PyData.canLay0, canLay_hues], by have := depth_hues hs; simp only [PyData.depth]; omega⟩
theorem any_hue : ∀ (hs : List (Option Int)) (k : Int), ((hs.map hueD).any fun y => PyData.eqv y (.int k)) = decide (some k ∈ hs)
  | [], k => by simp
  | h :: hs, k => by
    rw [List.map_cons, List.any_cons, any_hue hs k]
    cases h with
    | none => simp [hueD, PyData.eqv]
    | some x =>
      simp only [hueD, PyData.eqv]
      by_cases q : x = k
      · subst q; simp
      · have q' : ¬ k = x := fun z => q z.symm
        have : (x == k) = false := by simpa using q
        rw [this]; simp [q']
theorem inD_hues {σ : AH} {a : Addr} {hs : List (Option Int)} {k : Int} {Q : Bool → Prop} (ha : σ a = some (.list (hs.map hueV))) (h : Q (decide (some k ∈ hs))) : inD (.int k) (.ref a) σ Q := by
  simp only [inD, ha]
  exact ⟨_, .int k, data_hues hs, by simp [DataOf], lay_hues hs, lay_int k, by rw [any_hue]; exact h⟩
/-- equality of lists of ints -/
theorem eqD_ints {σ : AH} {a b : Addr} {ns ms : List Int} {Q : Bool → Prop} (ha : σ a = some (.list (ns.map V.int))) (hb : σ b = some (.list (ms.map V.int))) (h : Q (ns == ms)) : eqD (.ref a) (.ref b) σ Q := by
  unfold eqD
  exact ⟨_, _, data_list ha (data_ints ns), data_list hb (data_ints ms), lay_ints ns, lay_ints ms, by simpa only [PyData.eqv, eqvAll_ints] using h⟩
/-! ## a hall in the abstract heap -/
noncomputable def sideS (s : Bool) : Str := if s then Str.ofString "right" else Str.ofString "left"
theorem sideS_left (s : Bool) : (sideS s == Str.ofString "left") = !s := by cases s <;> decide +kernel
theorem sideS_ok (s : Bool) : PyData.strOk (sideS s) = true := by cases s <;> decide +kernel
theorem left_ok : PyData.strOk (Str.ofString "left") = true := by decide +kernel
theorem left_ne_right : Str.ofString "left" ≠ Str.ofString "right" := by decide +kernel
noncomputable def rowL (x : Rw) : List V := [.int x.l, .int x.r, hueV x.h]
/-- where a hall's parts lie -/
structure HD where
  T : List (Rw × Addr)
  a : Int
  b : Int
  nx : Int
  d : Addr
  rd : Addr
  sd : Addr
  kvs : List (Str × V)
noncomputable def HD.S (D : HD) : List Rw := D.T.map (·.1)
noncomputable def HD.foot (D : HD) (y : Addr) : Prop := y = D.d ∨ y = D.rd ∨ y ∈ D.T.map (·.2)
structure HallAt (σ : AH) (C x : Addr) (D : HD) : Prop where
  inst : σ x = some (.inst C D.d)
  attrs : σ D.d = some (.attrs D.kvs)
  aRows : D.kvs.lookup (Str.ofString "rows") = some (.ref D.rd)
  aSizes : D.kvs.lookup (Str.ofString "sizes") = some (.ref D.sd)
  aNext : D.kvs.lookup (Str.ofString "next_number") = some (.int D.nx)
  names : ∀ p ∈ D.kvs, p.1 = Str.ofString "rows" ∨ p.1 = Str.ofString "sizes" ∨ p.1 = Str.ofString "next_number"
  few : D.kvs.length ≤ 3 + D.nx.toNat
  rows : ∃ ep, σ D.rd = some (.dictI (D.T.map fun t => (t.1.n, V.ref t.2)) ep)
  row : ∀ t ∈ D.T, σ t.2 = some (.list (rowL t.1))
  nodup : (D.T.map (·.2)).Nodup
  sizes : ∃ ep, σ D.sd = some (.dictS [(Str.ofString "left", .int D.a), (Str.ofString "right", .int D.b)] ep)
theorem HallAt.sub {σ σ' : AH} {C x : Addr} {D : HD} (H : HallAt σ C x D) (s : Sub σ σ') : HallAt σ' C x D :=
  ⟨s _ _ H.inst, s _ _ H.attrs, H.aRows, H.aSizes, H.aNext, H.names, H.few, let ⟨ep, e⟩ := H.rows; ⟨ep, s _ _ e⟩, fun t ht => s _ _ (H.row t ht), H.nodup, let ⟨ep, e⟩ := H.sizes; ⟨ep, s _ _ e⟩⟩
theorem HallAt.noName {σ : AH} {C x : Addr} {D : HD} (H : HallAt σ C x D) {n : Str} (h : (n == Str.ofString "rows" || n == Str.ofString "sizes" || n == Str.ofString "next_number") = false) : D.kvs.lookup n = none := by
  cases e : D.kvs.lookup n with
  | none => rfl
  | some v =>
    have := mem_names (x := n) (kvs := D.kvs) (by rw [e]; simp)
    obtain ⟨p, hp, q⟩ := List.mem_map.1 this
    rcases H.names p hp with z | z | z <;> (rw [← q, z] at h; simp at h)
theorem HallAt.instOf {σ : AH} {C x : Addr} {D : HD} (H : HallAt σ C x D) {n : Str} (h : (n == Str.ofString "rows" || n == Str.ofString "sizes" || n == Str.ofString "next_number") = false) : Mine.instOf C n (.ref x) σ :=
  ⟨x, D.d, D.kvs, rfl, H.inst, H.attrs, H.noName h⟩
theorem HallAt.rowsA {σ : AH} {C x : Addr} {D : HD} (H : HallAt σ C x D) : attrOf C (Str.ofString "rows") (.ref x) σ = some (.ref D.rd) := attrOf_eq H.inst H.attrs H.aRows
theorem HallAt.sizesA {σ : AH} {C x : Addr} {D : HD} (H : HallAt σ C x D) : attrOf C (Str.ofString "sizes") (.ref x) σ = some (.ref D.sd) := attrOf_eq H.inst H.attrs H.aSizes
theorem HallAt.nextA {σ : AH} {C x : Addr} {D : HD} (H : HallAt σ C x D) : attrOf C (Str.ofString "next_number") (.ref x) σ = some (.int D.nx) := attrOf_eq H.inst H.attrs H.aNext
/-- looking a row up -/
theorem lookup_T {T : List (Rw × Addr)} (hi : Inc (T.map (·.1))) {t : Rw × Addr} (ht : t ∈ T) : (T.map fun t => (t.1.n, V.ref t.2)).lookup t.1.n = some (.ref t.2) := by
  induction T with
  | nil => cases ht
  | cons u T ih =>
    rw [List.map_cons, List.lookup_cons]
    rcases List.mem_cons.1 ht with rfl | h
    · simp
    · have : u.1.n < t.1.n := (List.pairwise_cons.1 hi).1 t.1 (List.mem_map.2 ⟨t, h, rfl⟩)
      have q : (t.1.n == u.1.n) = false := by simp; omega
      rw [q]; exact ih (List.pairwise_cons.1 hi).2 h
/-- an item of a hall's rows -/
theorem HallAt.item {σ : AH} {C x : Addr} {D : HD} (H : HallAt σ C x D) (hi : Inc D.S) {t : Rw × Addr} (ht : t ∈ D.T) {Q : V → Prop} (h : Q (.ref t.2)) : itemV (.ref D.rd) (.int t.1.n) σ Q := by
  obtain ⟨ep, e⟩ := H.rows
  simp only [itemV, e, lookup_T hi ht]
  exact h
theorem mem_S {D : HD} {x : Rw} (h : x ∈ D.S) : ∃ t ∈ D.T, t.1 = x := List.mem_map.1 h
theorem HallAt.item0 {σ : AH} {C x : Addr} {D : HD} (H : HallAt σ C x D) {t : Rw × Addr} (ht : t ∈ D.T) {Q : V → Prop} (h : Q (.int t.1.l)) : itemV (.ref t.2) (.int 0) σ Q := by
  simp only [itemV, H.row t ht]
  exact h
theorem HallAt.item1 {σ : AH} {C x : Addr} {D : HD} (H : HallAt σ C x D) {t : Rw × Addr} (ht : t ∈ D.T) {Q : V → Prop} (h : Q (.int t.1.r)) : itemV (.ref t.2) (.int 1) σ Q := by
  simp only [itemV, H.row t ht]
  exact h
theorem HallAt.item2 {σ : AH} {C x : Addr} {D : HD} (H : HallAt σ C x D) {t : Rw × Addr} (ht : t ∈ D.T) {Q : V → Prop} (h : Q (hueV t.1.h)) : itemV (.ref t.2) (.int 2) σ Q := by
  simp only [itemV, H.row t ht]
  exact h
theorem HallAt.size {σ : AH} {C x : Addr} {D : HD} (H : HallAt σ C x D) (s : Bool) {Q : V → Prop} (h : Q (.int (szOf D.a D.b s))) : itemV (.ref D.sd) (.str (sideS s)) σ Q := by
  obtain ⟨ep, e⟩ := H.sizes
  cases s with
  | false => simp only [itemV, e, sideS, List.lookup_cons]; simpa [szOf] using h
  | true =>
    have : (Str.ofString "right" == Str.ofString "left") = false := by decide +kernel
    simp only [itemV, e, sideS, List.lookup_cons, if_true, this]; simpa [szOf] using h
end
section
open PySem PySem.W PyProof.Rows
theorem compT_growS {α : Type} {t : Tgt} {inv : AH → Prop} {tifs : TB} {telt : TE} {ℓ : Loc} {σ : AH} {Q : List V → AH → Prop} {E : Addr → AH → Prop} (f : α → V) (p : α → Bool) (F : α → V) (xs : List α) (hinv : ∀ σ', Sub σ σ' → inv σ')
    (hs : ∀ x ∈ xs, ∀ σ', Sub σ σ' → ∃ ℓ₁, (∀ P : Loc → Prop, P ℓ₁ → bindV t (f x) ℓ.bare σ' P) ∧ (∀ Qb : Bool → AH → Prop, (∀ σ'', Sub σ' σ'' → Qb (p x) σ'') → tifs ℓ₁ σ' Qb E) ∧
        (p x = true → ∀ σ'', Sub σ' σ'' → ∀ Qv : V → AH → Prop, (∀ σ₃, Sub σ'' σ₃ → Qv (F x) σ₃) → telt ℓ₁ σ'' Qv E))
    (h : ∀ σ', Sub σ σ' → Q ((xs.filter p).map F) σ') : compT t inv tifs telt ℓ (xs.map f) [] σ Q E :=
  compT_grow f p F hinv xs [] σ Sub.refl hs h
/-- the same without tests -/
theorem compT_growE {α : Type} {t : Tgt} {inv : AH → Prop} {telt : TE} {ℓ : Loc} {σ : AH} {Q : List V → AH → Prop} {E : Addr → AH → Prop} (f : α → V) (F : α → V) (xs : List α) (hinv : ∀ σ', Sub σ σ' → inv σ')
    (hs : ∀ x ∈ xs, ∃ ℓ₁, (∀ σ', Sub σ σ' → ∀ P : Loc → Prop, P ℓ₁ → bindV t (f x) ℓ.bare σ' P) ∧ (∀ σ', Sub σ σ' → ∀ Qv : V → AH → Prop, (∀ σ₃, Sub σ' σ₃ → Qv (F x) σ₃) → telt ℓ₁ σ' Qv E))
    (h : ∀ σ', Sub σ σ' → Q (xs.map F) σ') : compT t inv (tConstB true) telt ℓ (xs.map f) [] σ Q E := by
  refine compT_grow f (fun _ => true) F hinv xs [] σ Sub.refl (fun x hx σ' s' => ?_) (fun σ' s' => by rw [filter_all]; exact h σ' s')
  obtain ⟨ℓ₁, h1, h2⟩ := hs x hx
  exact ⟨ℓ₁, h1 σ' s', fun Qb q => q _ Sub.refl, fun _ σ'' s'' Qv q => h2 σ'' (s'.trans s'') Qv q⟩
/-- what is forgotten at a function's end -/
theorem sub_set {σ σ' : AH} {d : Addr} {o : AO} (s : Sub σ σ') : Sub (σ.set d o) (σ'.set d o) := fun y p q => by
  unfold AH.set at q ⊢
  split at q
  · rename_i z; rw [if_pos z]; exact q
  · rename_i z; rw [if_neg z]; exact s _ _ q
theorem perm_sorted : ∀ {ns ms : List Int}, ms.Perm ns → ms.Pairwise (· ≤ ·) → ns.Pairwise (· < ·) → ms = ns
  | [], ms, hp, _, _ => List.Perm.eq_nil hp
  | n :: ns, [], hp, _, _ => absurd hp.length_eq (by simp)
  | n :: ns, m :: ms, hp, h1, h2 => by
    have e : m = n := by
      have a : m ∈ n :: ns := hp.mem_iff.1 (.head _)
      have b : n ∈ m :: ms := hp.mem_iff.2 (.head _)
      rcases List.mem_cons.1 a with q | q
      · exact q
      · have h3 := (List.pairwise_cons.1 h2).1 m q
        rcases List.mem_cons.1 b with w | w
        · exact w.symm
        · have h4 := (List.pairwise_cons.1 h1).1 n w
          omega
    subst e
    rw [perm_sorted (List.Perm.cons_inv hp) (List.pairwise_cons.1 h1).2 (List.pairwise_cons.1 h2).2]
theorem tSorted_rows {σ : AH} {C x : Addr} {D : HD} (H : HallAt σ C x D) (hi : Inc D.S) (h64 : D.T.length < 64) {Q : V → AH → Prop} {E : Addr → AH → Prop} (h : ∀ b, σ b = none → Q (.ref b) (σ.set b (.list (D.T.map fun t => V.int t.1.n)))) : tSorted [.ref D.rd] σ Q E := by
  obtain ⟨ep, er⟩ := H.rows
  simp only [tSorted, keysInts, er]
  refine ⟨by simpa using h64, fun ns' b hp hs hb => ?_⟩
  have e : ns' = D.T.map fun t => t.1.n := by
    refine perm_sorted (by simpa [List.map_map, Function.comp_def] using hp) hs ?_
    unfold Inc HD.S at hi
    rw [List.pairwise_map] at hi
    rw [List.pairwise_map]
    exact hi
  rw [e, List.map_map]
  exact h b hb
noncomputable def metT (T : List (Rw × Addr)) (s : Bool) (e : Int) : List (Rw × Addr) := T.filter fun t => t.1.e s == e
theorem metT_deg (D : HD) (s : Bool) (e : Int) : (metT D.T s e).length = deg D.S s e := by
  unfold metT deg HD.S
  rw [List.filter_map, List.length_map]; rfl
noncomputable def sMet (C : Addr) : TF := fun xs σ Q _ => ∃ x D s e, xs = [.ref x, .str (sideS s), .int e] ∧ HallAt σ C x D ∧ Inc D.S ∧ D.T.length < 64 ∧ ∀ b, σ b = none → Q (.ref b) (σ.set b (.list ((metT D.T s e).map fun t => V.int t.1.n)))
noncomputable def sCount (C : Addr) : TF := fun xs σ Q _ => ∃ x D, xs = [.ref x] ∧ HallAt σ C x D ∧ Inc D.S ∧ D.T.length < 64 ∧ 0 ≤ D.a ∧ D.a ≤ 1000 ∧ 0 ≤ D.b ∧ D.b ≤ 1000 ∧ ∀ m : Nat, IsCnt D.S D.a D.b m → Q (.int m) σ
/-- the hues that are open -/
noncomputable def openL (S : List Rw) (s : Bool) (e : Int) (m : Nat) : List Int := (rngI m).filter fun h => !(usedH S s e).contains h
theorem mem_openL {S : List Rw} {s : Bool} {e : Int} {m : Nat} {h : Int} : h ∈ openL S s e m ↔ (0 ≤ h ∧ h < m) ∧ FreeH S s e h := by
  unfold openL
  rw [List.mem_filter, rngI_mem]
  refine and_congr_right fun _ => ?_
  simp only [Bool.not_eq_true', List.contains_eq_mem, decide_eq_false_iff_not]
  rw [mem_usedH]
  constructor
  · intro q x hx he hh; exact q ⟨x, hx, he, hh⟩
  · rintro q ⟨x, hx, he, hh⟩; exact q x hx he hh
noncomputable def sOpen (C : Addr) : TF := fun xs σ Q _ => ∃ x D s e m, xs = [.ref x, .str (sideS s), .int e, .int (m : Nat)] ∧ HallAt σ C x D ∧ Inc D.S ∧ D.T.length < 64 ∧ m ≤ 1000 ∧ ∀ b, σ b = none → Q (.ref b) (σ.set b (.list ((openL D.S s e m).map V.int)))
noncomputable def numV : Option Rw → V
  | none => .none
  | some x => .int x.n
noncomputable def sWith (C : Addr) : TF := fun xs σ Q _ => ∃ x D s e h, xs = [.ref x, .str (sideS s), .int e, .int h] ∧ HallAt σ C x D ∧ Inc D.S ∧ D.T.length < 64 ∧ Q (numV (withH D.S s e h)) σ
theorem withH_some {S : List Rw} {s : Bool} {e h : Int} {x : Rw} (q : withH S s e h = some x) : x ∈ S ∧ x.e s = e ∧ x.h = some h := by
  unfold withH at q
  have := List.find?_some q
  simp only [Bool.and_eq_true, beq_iff_eq] at this
  exact ⟨List.mem_of_find?_eq_some q, this⟩
theorem withH_none {S : List Rw} {s : Bool} {e h : Int} (q : withH S s e h = none) : FreeH S s e h := fun x hx he hh => by
  unfold withH at q
  have := List.find?_eq_none.1 q x hx
  simp [he, hh] at this
theorem rangeV_rng {n : Nat} : rangeV 0 n = (rngI n).map V.int := by
  unfold rangeV rngI
  rw [List.map_map]
  refine List.map_congr_left fun i _ => ?_
  simp
/-! ## counting -/
noncomputable def cntL (S : List Rw) (a b : Int) (done : List Bool) : List Int := done.flatMap fun s => (rngI (szOf a b s).toNat).map fun e => (deg S s e : Int)
theorem cntL_snoc {S : List Rw} {a b : Int} {done : List Bool} {s : Bool} : cntL S a b (done ++ [s]) = cntL S a b done ++ (rngI (szOf a b s).toNat).map fun e => (deg S s e : Int) := by
  unfold cntL; rw [List.flatMap_append]; simp
theorem isCnt_of {S : List Rw} {a b : Int} {m : Int} (h1 : m ∈ (0 : Int) :: cntL S a b [false, true]) (h2 : ∀ n ∈ (0 : Int) :: cntL S a b [false, true], n ≤ m) : ∃ k : Nat, m = k ∧ IsCnt S a b k := by
  have h0 := h2 0 (.head _)
  refine ⟨m.toNat, by omega, fun s e p q => ?_, ?_⟩
  · have : (deg S s e : Int) ∈ (0 : Int) :: cntL S a b [false, true] := by
      refine .tail _ ?_
      unfold cntL
      exact List.mem_flatMap.2 ⟨s, by cases s <;> simp, List.mem_map.2 ⟨e, rngI_mem.2 ⟨p, by omega⟩, rfl⟩⟩
    have := h2 _ this
    omega
  · rcases List.mem_cons.1 h1 with q | q
    · left; omega
    · unfold cntL at q
      obtain ⟨s, _, q⟩ := List.mem_flatMap.1 q
      obtain ⟨e, he, q⟩ := List.mem_map.1 q
      have := rngI_mem.1 he
      exact .inr ⟨s, e, this.1, by omega, by omega⟩
theorem used_hues (D : HD) (s : Bool) (e : Int) (m : Nat) : ((rngI m).filter fun h => !decide (some h ∈ (metT D.T s e).map fun t => t.1.h)) = openL D.S s e m := by
  unfold openL
  congr 1
  funext h
  congr 1
  rw [List.contains_eq_mem]
  congr 1
  rw [mem_usedH, eq_iff_iff]
  constructor
  · intro q
    obtain ⟨t, ht, q⟩ := List.mem_map.1 q
    obtain ⟨ht, he⟩ := List.mem_filter.1 ht
    exact ⟨t.1, List.mem_map.2 ⟨t, ht, rfl⟩, by simpa using he, q⟩
  · rintro ⟨x, hx, he, hh⟩
    obtain ⟨t, ht, rfl⟩ := List.mem_map.1 hx
    exact List.mem_map.2 ⟨t, List.mem_filter.2 ⟨ht, by simpa using he⟩, hh⟩
theorem withH_find (D : HD) (s : Bool) (e h : Int) : withH D.S s e h = ((metT D.T s e).find? fun t => t.1.h == some h).map (·.1) := by
  unfold withH metT HD.S
  rw [List.find?_filter, List.find?_map]
  congr 2
  funext a
  rw [Bool.eq_iff_iff]
  simp
theorem openL_length {S : List Rw} {s : Bool} {e : Int} {m : Nat} : (openL S s e m).length ≤ m := by
  unfold openL
  have := List.length_filter_le (fun h => !(usedH S s e).contains h) (rngI m)
  rw [rngI_length] at this; exact this
end
section
open PySem PySem.W PyProof.Rows
noncomputable def sChain (C : Addr) : TF := fun xs σ Q _ => ∃ x D s e one other, xs = [.ref x, .str (sideS s), .int e, .int one, .int other] ∧ HallAt σ C x D ∧ Inc D.S ∧ D.T.length < 64 ∧ Proper D.S ∧ FreeH D.S s e one ∧ one ≠ other ∧
  ∀ b l, Path D.S s e one other l → PDone D.S s e one other l → σ b = none → Q (.ref b) (σ.set b (.list (l.map fun x => V.int x.n)))
noncomputable def HD.put (D : HD) (k : Int) (h : Option Int) : HD := { D with T := D.T.map fun t => (putH k h t.1, t.2) }
noncomputable def HD.flip (D : HD) (nums : List Int) (one other : Int) : HD := { D with T := D.T.map fun t => (flipH nums one other t.1, t.2) }
theorem HD.put_S {D : HD} {k : Int} {h : Option Int} : (D.put k h).S = D.S.map (putH k h) := by simp [HD.put, HD.S, Function.comp_def]
theorem HD.flip_S {D : HD} {nums : List Int} {one other : Int} : (D.flip nums one other).S = D.S.map (flipH nums one other) := by simp [HD.flip, HD.S, Function.comp_def]
theorem HD.put_addr {D : HD} {k : Int} {h : Option Int} : (D.put k h).T.map (·.2) = D.T.map (·.2) := by simp [HD.put, Function.comp_def]
theorem HD.flip_addr {D : HD} {nums : List Int} {one other : Int} : (D.flip nums one other).T.map (·.2) = D.T.map (·.2) := by simp [HD.flip, Function.comp_def]
theorem snd_inj {T : List (Rw × Addr)} (hn : (T.map (·.2)).Nodup) {t u : Rw × Addr} (ht : t ∈ T) (hu : u ∈ T) (h : t.2 = u.2) : t = u := by
  induction T with
  | nil => cases ht
  | cons v T ih =>
    rw [List.map_cons, List.nodup_cons] at hn
    rcases List.mem_cons.1 ht with p | p <;> rcases List.mem_cons.1 hu with q | q
    · rw [p, q]
    · exact absurd (List.mem_map.2 ⟨u, q, by rw [← h, p]⟩) hn.1
    · exact absurd (List.mem_map.2 ⟨t, p, by rw [h, q]⟩) hn.1
    · exact ih hn.2 p q
theorem fst_inj {T : List (Rw × Addr)} (hi : Inc (T.map (·.1))) {t u : Rw × Addr} (ht : t ∈ T) (hu : u ∈ T) (h : t.1.n = u.1.n) : t = u := by
  induction T with
  | nil => cases ht
  | cons v T ih =>
    rcases List.pairwise_cons.1 hi with ⟨h1, h2⟩
    rcases List.mem_cons.1 ht with p | p <;> rcases List.mem_cons.1 hu with q | q
    · rw [p, q]
    · have : v.1.n < u.1.n := h1 _ (List.mem_map.2 ⟨u, q, rfl⟩); rw [← p] at this; omega
    · have : v.1.n < t.1.n := h1 _ (List.mem_map.2 ⟨t, p, rfl⟩); rw [← q] at this; omega
    · exact ih h2 p q
/-- no other part of a hall lies where a row lies -/
theorem HallAt.apart {σ : AH} {C x : Addr} {D : HD} (H : HallAt σ C x D) {t : Rw × Addr} (ht : t ∈ D.T) : x ≠ t.2 ∧ D.d ≠ t.2 ∧ D.rd ≠ t.2 ∧ D.sd ≠ t.2 := by
  have r := H.row t ht
  obtain ⟨ep, er⟩ := H.rows
  obtain ⟨eq, es⟩ := H.sizes
  refine ⟨fun z => ?_, fun z => ?_, fun z => ?_, fun z => ?_⟩
  · have := H.inst; rw [z, r] at this; cases this
  · have := H.attrs; rw [z, r] at this; cases this
  · rw [z, r] at er; cases er
  · rw [z, r] at es; cases es
/-- a row's hue is set in place -/
theorem HallAt.setHue {σ : AH} {C x : Addr} {D : HD} (H : HallAt σ C x D) (hi : Inc D.S) {t : Rw × Addr} (ht : t ∈ D.T) (h : Option Int) : HallAt (σ.set t.2 (.list (rowL { t.1 with h := h }))) C x (D.put t.1.n h) := by
  obtain ⟨a1, a2, a3, a4⟩ := H.apart ht
  obtain ⟨ep, er⟩ := H.rows
  obtain ⟨eq, es⟩ := H.sizes
  refine ⟨(AH.set_other a1).trans H.inst, (AH.set_other a2).trans H.attrs, H.aRows, H.aSizes, H.aNext, H.names, H.few, ⟨ep, ?_⟩, fun u hu => ?_, ?_, ⟨eq, (AH.set_other a4).trans es⟩⟩
  · show (σ.set t.2 _) D.rd = _
    rw [AH.set_other a3, er]
    simp [HD.put, Function.comp_def, putH_n]
  · obtain ⟨v, hv, rfl⟩ := List.mem_map.1 hu
    show (σ.set t.2 _) v.2 = _
    by_cases z : v.2 = t.2
    · have := snd_inj H.nodup hv ht z
      subst this
      rw [AH.set_same]
      unfold putH; rw [if_pos rfl]
    · rw [AH.set_other z, H.row v hv]
      rw [putH_out fun w => z (by rw [fst_inj hi hv ht w])]
  · rw [HD.put_addr]; exact H.nodup
theorem flip_snoc {D : HD} (hi : Inc D.S) {done : List Int} {one other : Int} {t : Rw × Addr} (ht : t ∈ D.T) (hn : t.1.n ∉ done) {h : Int} (hh : t.1.h = some h) : (D.flip done one other).put t.1.n (some (one + other - h)) = D.flip (done ++ [t.1.n]) one other := by
  unfold HD.flip HD.put
  congr 1
  rw [List.map_map]
  refine List.map_congr_left fun u hu => ?_
  simp only [Function.comp_apply]
  congr 1
  by_cases z : u.1.n = t.1.n
  · have := fst_inj hi hu ht z
    subst this
    rw [flipH_out hn]
    unfold putH flipH
    rw [if_pos rfl, if_pos (by simp), hh]; rfl
  · have : (flipH done one other u.1).n ≠ t.1.n := by rw [flipH_n]; exact z
    rw [putH_out this]
    unfold flipH
    by_cases w : u.1.n ∈ done
    · rw [if_pos w, if_pos (List.mem_append_left _ w)]
    · rw [if_neg w, if_neg (by simp [w, z])]
theorem flip_nil {D : HD} {one other : Int} : D.flip [] one other = D := by
  unfold HD.flip
  have : (D.T.map fun t => (flipH [] one other t.1, t.2)) = D.T := by
    conv => rhs; rw [← List.map_id D.T]
    refine List.map_congr_left fun t _ => ?_
    rw [flipH_out (by simp)]; rfl
  rw [this]
noncomputable def sTurn (C : Addr) : TF := fun xs σ Q _ => ∃ x D c nums one other, xs = [.ref x, .ref c, .int one, .int other] ∧ HallAt σ C x D ∧ Inc D.S ∧ σ c = some (.list (nums.map V.int)) ∧ c ∉ D.T.map (·.2) ∧ nums.Nodup ∧ (∀ k ∈ nums, ∃ t ∈ D.T, t.1.n = k ∧ ∃ h, t.1.h = some h) ∧
  ∀ σ', HallAt σ' C x (D.flip nums one other) → (∀ y, y ∉ D.T.map (·.2) → σ' y = σ y) → Q .none σ'
theorem inc_flip {D : HD} {nums : List Int} {one other : Int} (hi : Inc D.S) : Inc (D.flip nums one other).S := by rw [HD.flip_S]; exact inc_map (fun _ => flipH_n) hi
end
section
open PySem PySem.W PyProof.Rows
noncomputable def endS (l r : Int) (s : Bool) : Int := if s then r else l
/-- a way as found: its length, hue, other hue and where its chain lies -/
noncomputable def WayQ (S : List Rw) (l r : Int) (m : Nat) (σ : AH) (t : Int × Int × Int × Addr) : Prop :=
  ∃ s c, t.1 = (c.length : Int) ∧ σ t.2.2.2 = some (.list (c.map fun x => V.int x.n)) ∧ t.2.1 ∈ openL S (!s) (endS l r (!s)) m ∧ t.2.2.1 ∈ openL S s (endS l r s) m ∧ Path S s (endS l r s) t.2.2.1 t.2.1 c ∧ PDone S s (endS l r s) t.2.2.1 t.2.1 c
theorem WayQ.sub {S : List Rw} {l r : Int} {m : Nat} {σ σ' : AH} {t : Int × Int × Int × Addr} (w : WayQ S l r m σ t) (h : ∀ o, σ t.2.2.2 = some o → σ' t.2.2.2 = some o) : WayQ S l r m σ' t := by
  obtain ⟨s, c, h1, h2, h3⟩ := w
  exact ⟨s, c, h1, h _ h2, h3⟩
/-- the pair (hue, other) has been found -/
noncomputable def GotW (es : List (Int × Int × Int × Addr)) (hue other : Int) : Prop := ∃ t ∈ es, t.2.1 = hue ∧ t.2.2.1 = other
theorem GotW.more {es fs : List (Int × Int × Int × Addr)} {a b : Int} (h : GotW es a b) : GotW (es ++ fs) a b := let ⟨t, ht, q⟩ := h; ⟨t, List.mem_append_left _ ht, q⟩
noncomputable def sWays (C : Addr) : TF := fun xs σ Q _ => ∃ x D l r m, xs = [.ref x, .int l, .int r, .int (m : Nat)] ∧ HallAt σ C x D ∧ Inc D.S ∧ D.T.length < 64 ∧ Proper D.S ∧ m ≤ 100 ∧ (∀ h, h ∈ openL D.S false l m → h ∉ openL D.S true r m) ∧
  ∀ σ' b es, Sub σ σ' → σ b = none → σ' b = some (.list (es.map quad)) → (∀ t ∈ es, WayQ D.S l r m σ' t ∧ σ t.2.2.2 = none) → (∀ one ∈ openL D.S false l m, ∀ two ∈ openL D.S true r m, GotW es one two ∧ GotW es two one) → Q (.ref b) σ'
structure WInv (S : List Rw) (l r : Int) (m : Nat) (σ : AH) (b : Addr) (σ' : AH) (es : List (Int × Int × Int × Addr)) : Prop where
  fb : σ' b = some (.list (es.map quad))
  sub : Sub σ σ'
  way : ∀ t ∈ es, WayQ S l r m σ' t ∧ σ t.2.2.2 = none ∧ t.2.2.2 ≠ b
theorem WInv.keep {S : List Rw} {l r : Int} {m : Nat} {σ σ' : AH} {b c : Addr} {o : AO} {es : List (Int × Int × Int × Addr)} (w : WInv S l r m σ b σ' es) (hc : σ' c = none) : WInv S l r m σ b (σ'.set c o) es :=
  ⟨new_keeps w.fb hc, w.sub.new hc, fun t ht => ⟨(w.way t ht).1.sub fun p e => new_keeps e hc, (w.way t ht).2⟩⟩
theorem WInv.add {S : List Rw} {l r : Int} {m : Nat} {σ σ' : AH} {b c : Addr} {es : List (Int × Int × Int × Addr)} (hb : σ b = none) (w : WInv S l r m σ b σ' es) (hc : σ' c = none) (ch : List Rw) {s : Bool} {hue other : Int}
    (h1 : hue ∈ openL S (!s) (endS l r (!s)) m) (h2 : other ∈ openL S s (endS l r s) m) (hp : Path S s (endS l r s) other hue ch) (hd : PDone S s (endS l r s) other hue ch) :
    WInv S l r m σ b ((σ'.set c (.list (ch.map fun x => V.int x.n))).set b (.list ((es ++ [((ch.length : Int), hue, other, c)]).map quad))) (es ++ [((ch.length : Int), hue, other, c)]) := by
  have hcb : c ≠ b := fun z => by rw [z, w.fb] at hc; cases hc
  refine ⟨AH.set_same, (w.sub.new hc).upd hb, fun t ht => ?_⟩
  rcases List.mem_append.1 ht with q | q
  · obtain ⟨w1, w2, w3⟩ := w.way t q
    exact ⟨w1.sub fun p e => by rw [AH.set_other w3]; exact new_keeps e hc, w2, w3⟩
  · rw [List.mem_singleton.1 q]
    exact ⟨⟨s, ch, rfl, by rw [AH.set_other hcb]; exact AH.set_same, h1, h2, hp, hd⟩, w.sub.none hc, hcb⟩
end
section
open PySem PySem.W PyProof.Rows
/-! ## a chain is the only one -/
theorem Path.tip {S : List Rw} {s : Bool} {e one other : Int} {l : List Rw} (P : Path S s e one other l) {i : Nat} {x : Rw} (h : l[i]? = some x) : x.e (sideAt s i) = tipE s e (l.take i) := by
  have hi : i < l.length := by
    rcases Nat.lt_or_ge i l.length with q | q
    · exact q
    · rw [List.getElem?_eq_none q] at h; cases h
  have hl : (l.take i).length = i := by rw [List.length_take]; omega
  unfold tipE
  cases i with
  | zero => simp only [List.take_zero, List.getLast?_nil]; exact P.fst x h
  | succ k =>
    obtain ⟨z, hz⟩ := getPred h
    have : (l.take (k + 1)).getLast? = some z := by
      rw [List.getLast?_eq_getElem?, hl, List.getElem?_take, if_pos (by omega)]; exact hz
    rw [this, hl]
    exact P.nxt k z x hz h
theorem Path.unique {S : List Rw} {s : Bool} {e one other : Int} {l l' : List Rw} (hp : Proper S) (hi : Inc S) (P : Path S s e one other l) (D : PDone S s e one other l) (P' : Path S s e one other l') (D' : PDone S s e one other l') : l = l' := by
  have key : ∀ {l l' : List Rw}, Path S s e one other l → Path S s e one other l' → PDone S s e one other l' → ∀ i, l.take i = l'.take i → ∀ x, l[i]? = some x → l'[i]? = some x := by
    intro l l' P P' D' i ht x hx
    have h1 := P.tip hx
    have h2 := P.hue i x hx
    have hxS := P.mem x (List.mem_of_getElem? hx)
    cases hy : l'[i]? with
    | some y =>
      have h3 := P'.tip hy
      have h4 := P'.hue i y hy
      have := hp x hxS y (P'.mem y (List.mem_of_getElem? hy)) (sideAt s i) (by rw [h1, h3, ht]) (by rw [h2, h4]) (by rw [h2]; simp)
      rw [hi.inj hxS (P'.mem y (List.mem_of_getElem? hy)) this]
    | none =>
      have hlen : l'.length ≤ i := List.getElem?_eq_none_iff.1 hy
      have hil : i < l.length := by
        rcases Nat.lt_or_ge i l.length with q | q
        · exact q
        · rw [List.getElem?_eq_none q] at hx; cases hx
      have hl2 : (l.take i).length = i := by rw [List.length_take]; omega
      have htk : l'.take i = l' := List.take_of_length_le hlen
      have hle : l'.length = i := by rw [← htk, ← ht, hl2]
      refine absurd ?_ (D' x hxS ?_)
      · rw [hle]; exact h2
      · rw [hle]; rw [ht, htk] at h1; exact h1
  have main : ∀ i, l.take i = l'.take i := by
    intro i
    induction i with
    | zero => rfl
    | succ i ih =>
      rw [List.take_add_one, List.take_add_one, ih]
      congr 2
      cases hx : l[i]? with
      | some x => exact (key P P' D' i ih x hx).symm
      | none =>
        cases hy : l'[i]? with
        | none => rfl
        | some y => rw [key P' P D i ih.symm y hy] at hx; cases hx
  have := main (l.length + l'.length)
  rwa [List.take_of_length_le (by omega), List.take_of_length_le (by omega)] at this
/-! ## a row is laid anew -/
noncomputable def HD.renew (D : HD) (k : Int) (p : Addr) : HD := { D with T := D.T.map fun u => if u.1.n = k then (putH k none u.1, p) else u }
theorem HD.renew_S {D : HD} {k : Int} {p : Addr} : (D.renew k p).S = D.S.map (putH k none) := by
  unfold HD.renew HD.S
  simp only [List.map_map]
  refine List.map_congr_left fun u _ => ?_
  simp only [Function.comp_apply]
  split
  · rfl
  · rename_i q; rw [putH_out q]
theorem renew_mem {D : HD} {k : Int} {p : Addr} {t : Rw × Addr} (ht : t ∈ D.T) (hk : t.1.n = k) : (putH k none t.1, p) ∈ (D.renew k p).T := List.mem_map.2 ⟨t, ht, by rw [if_pos hk]⟩
theorem renew_addr {D : HD} {k : Int} {p y : Addr} (h : y ∈ (D.renew k p).T.map (·.2)) : y = p ∨ y ∈ D.T.map (·.2) := by
  obtain ⟨u, hu, rfl⟩ := List.mem_map.1 h
  obtain ⟨v, hv, rfl⟩ := List.mem_map.1 hu
  split
  · exact .inl rfl
  · exact .inr (List.mem_map.2 ⟨v, hv, rfl⟩)
theorem HallAt.renew {σ : AH} {C x : Addr} {D : HD} (H : HallAt σ C x D) (hi : Inc D.S) {t : Rw × Addr} (ht : t ∈ D.T) {p : Addr} (hp : σ p = none) (ep : Nat) :
    HallAt ((σ.set p (.list [.int t.1.l, .int t.1.r, .none])).set D.rd (.dictI (putD (D.T.map fun t => (t.1.n, V.ref t.2)) t.1.n (.ref p)) ep)) C x (D.renew t.1.n p) := by
  have H1 := H.sub (Sub.refl.new (o := .list [.int t.1.l, .int t.1.r, .none]) hp)
  obtain ⟨e1, er⟩ := H1.rows
  obtain ⟨e2, es⟩ := H1.sizes
  have er0 : σ D.rd ≠ none := by obtain ⟨_, q⟩ := H.rows; rw [q]; simp
  have ne : ∀ {y o}, (σ.set p (.list [.int t.1.l, .int t.1.r, .none])) y = some o → (∀ kvs ep, o ≠ .dictI kvs ep) → y ≠ D.rd := fun {y o} h1 h2 z => by rw [z, er] at h1; cases h1; exact h2 _ _ rfl
  have prd : p ≠ D.rd := fun z => er0 (by rw [← z]; exact hp)
  refine ⟨(AH.set_other (ne H1.inst (by simp))).trans H1.inst, (AH.set_other (ne H1.attrs (by simp))).trans H1.attrs, H.aRows, H.aSizes, H.aNext, H.names, H.few, ⟨ep, ?_⟩, fun u hu => ?_, ?_, ⟨e2, (AH.set_other (ne es (by simp))).trans es⟩⟩
  · show (AH.set _ D.rd _) D.rd = _
    rw [AH.set_same]
    congr 2
    unfold putD
    rw [if_pos (by rw [List.any_eq_true]; exact ⟨(t.1.n, .ref t.2), List.mem_map.2 ⟨t, ht, rfl⟩, by simp⟩)]
    unfold HD.renew
    simp only [List.map_map]
    refine List.map_congr_left fun u _ => ?_
    simp only [Function.comp_apply]
    by_cases q : u.1.n = t.1.n
    · rw [if_pos q, if_pos q]; simp [putH_n]
    · rw [if_neg q, if_neg q]
  · obtain ⟨v, hv, rfl⟩ := List.mem_map.1 hu
    by_cases q : v.1.n = t.1.n
    · have := fst_inj hi hv ht q
      subst this
      rw [if_pos rfl]
      show (AH.set _ D.rd _) p = _
      rw [AH.set_other prd, AH.set_same]
      unfold putH; rw [if_pos rfl]; rfl
    · rw [if_neg q]
      show (AH.set _ D.rd _) v.2 = _
      rw [AH.set_other (ne (H1.row v hv) (by simp))]
      exact H1.row v hv
  · unfold HD.renew
    simp only [List.map_map]
    have hnd := H.nodup
    have hin : ∀ v ∈ D.T, v.2 ≠ p := fun v hv z => by have := H.row v hv; rw [z, hp] at this; cases this
    rw [List.Nodup, List.pairwise_map] at hnd ⊢
    have hi2 : D.T.Pairwise fun a b => a.1.n < b.1.n := by unfold Inc HD.S at hi; rw [List.pairwise_map] at hi; exact hi
    refine (hnd.and hi2).imp_of_mem fun {a b} ha hb h => ?_
    simp only [Function.comp_apply]
    by_cases qa : a.1.n = t.1.n <;> by_cases qb : b.1.n = t.1.n
    · have := h.2; omega
    · rw [if_pos qa, if_neg qb]; exact fun z => hin b hb z.symm
    · rw [if_neg qa, if_pos qb]; exact hin a ha
    · rw [if_neg qa, if_neg qb]; exact h.1
/-! ## hueing a row -/
/-- what a hall may have changed -/
structure Frm (σ σ' : AH) (D D' : HD) : Prop where
  keep : ∀ y o, σ y = some o → ¬ D.foot y → σ' y = some o
  new : ∀ y, D'.foot y → D.foot y ∨ σ y = none
  sz : D'.a = D.a ∧ D'.b = D.b ∧ D'.nx = D.nx
  dom : ∀ y, σ' y = none → σ y = none
theorem Frm.trans {σ σ' σ'' : AH} {D D' D'' : HD} (x : Frm σ σ' D D') (y : Frm σ' σ'' D' D'') : Frm σ σ'' D D'' := by
  refine ⟨fun z o h1 h2 => y.keep z o (x.keep z o h1 h2) fun q => ?_, fun z q => ?_, ⟨y.sz.1.trans x.sz.1, y.sz.2.1.trans x.sz.2.1, y.sz.2.2.trans x.sz.2.2⟩, fun z q => x.dom z (y.dom z q)⟩
  · rcases x.new z q with w | w
    · exact h2 w
    · rw [w] at h1; cases h1
  · rcases y.new z q with w | w
    · exact x.new z w
    · exact .inr (x.dom z w)
theorem Frm.setNew {σ σ' : AH} {D D' : HD} (x : Frm σ σ' D D') {b : Addr} {o : AO} (hb : σ b = none) : Frm σ (σ'.set b o) D D' :=
  ⟨fun y p h1 h2 => by rw [AH.set_other fun z => by rw [z, hb] at h1; cases h1]; exact x.keep y p h1 h2, x.new, x.sz, fun y q => by
    by_cases z : y = b
    · rw [z]; exact hb
    · rw [AH.set_other z] at q; exact x.dom y q⟩
theorem sub_at {σ σ' : AH} {b : Addr} {o : AO} (s : Sub σ σ') (h : σ' b = some o) : Sub (σ.set b o) σ' := fun y p q => by
  unfold AH.set at q
  split at q
  · rename_i z; rw [z, h]; exact q
  · exact s y p q
/-- a list that is no row of the hall is changed -/
theorem HallAt.setList {σ : AH} {C x : Addr} {D : HD} (H : HallAt σ C x D) {b : Addr} {l l' : List V} (hb : σ b = some (.list l)) (hn : b ∉ D.T.map (·.2)) : HallAt (σ.set b (.list l')) C x D := by
  obtain ⟨ep, er⟩ := H.rows
  obtain ⟨eq, es⟩ := H.sizes
  have ne : ∀ {y o}, σ y = some o → (∀ l, o ≠ .list l) → y ≠ b := fun {y o} h1 h2 z => by rw [z, hb] at h1; cases h1; exact h2 _ rfl
  exact ⟨(AH.set_other (ne H.inst (by simp))).trans H.inst, (AH.set_other (ne H.attrs (by simp))).trans H.attrs, H.aRows, H.aSizes, H.aNext, H.names, H.few, ⟨ep, (AH.set_other (ne er (by simp))).trans er⟩,
    fun t ht => (AH.set_other fun z => hn (List.mem_map.2 ⟨t, ht, z⟩)).trans (H.row t ht), H.nodup, ⟨eq, (AH.set_other (ne es (by simp))).trans es⟩⟩
noncomputable def HuedTo (S0 : List Rw) (k l r : Int) (m : Nat) (hue : Int) (other : Option Int) (nums : List Int) (S' : List Rw) : Prop :=
  (other = none ∧ nums = [] ∧ hue ∈ openL S0 false l m ∧ hue ∈ openL S0 true r m ∧ S' = afterBoth S0 k hue) ∨
  ((∀ h ∈ openL S0 false l m, h ∉ openL S0 true r m) ∧ ∃ o s ch, other = some o ∧ nums = ch.map Rw.n ∧ hue ∈ openL S0 (!s) (endS l r (!s)) m ∧ o ∈ openL S0 s (endS l r s) m ∧ Path S0 s (endS l r s) o hue ch ∧ PDone S0 s (endS l r s) o hue ch ∧ S' = afterWay S0 k hue o nums ∧
    ∀ s' hue' o' ch', hue' ∈ openL S0 (!s') (endS l r (!s')) m → o' ∈ openL S0 s' (endS l r s') m → Path S0 s' (endS l r s') o' hue' ch' → PDone S0 s' (endS l r s') o' hue' ch' → ch.length ≤ ch'.length)
theorem open_ne {S0 : List Rw} {l r : Int} {m : Nat} (hd : ∀ h ∈ openL S0 false l m, h ∉ openL S0 true r m) {s : Bool} {hue o : Int} (h1 : hue ∈ openL S0 (!s) (endS l r (!s)) m) (h2 : o ∈ openL S0 s (endS l r s) m) : o ≠ hue := fun z => by
  subst z
  cases s with
  | false => exact hd _ h2 h1
  | true => exact hd _ h1 h2
theorem HuedTo.hued {S0 S' : List Rw} {k l r : Int} {m : Nat} {hue : Int} {other : Option Int} {nums : List Int} (h : HuedTo S0 k l r m hue other nums S') (hp : Proper S0) (hi : Inc S0) {x : Rw} (hx : x ∈ S0) (hk : x.n = k) (hn : x.h = none) (hl : x.l = l) (hr : x.r = r) : Hued S0 S' k m := by
  rcases h with ⟨_, _, h1, h2, rfl⟩ | ⟨hd, o, s, ch, _, rfl, h1, h2, hP, hD, rfl, _⟩
  · have m1 := mem_openL.1 h1
    have m2 := mem_openL.1 h2
    refine both_hued hp hi hx hk (fun t => ?_) m1.1
    cases t with
    | false => show FreeH S0 false x.l hue; rw [hl]; exact m1.2
    | true => show FreeH S0 true x.r hue; rw [hr]; exact m2.2
  · have m1 := mem_openL.1 h1
    have m2 := mem_openL.1 h2
    have he : ∀ t, x.e t = endS l r t := fun t => by cases t <;> simp [Rw.e, endS, hl, hr]
    refine Way.hued (m := m) ⟨⟨s, x, hx, hk, hn, by rw [he]; exact hP, by rw [he]; exact hD, by rw [he]; exact m2.2, by rw [he]; exact m1.2⟩, open_ne hd h1 h2, m1.1, m2.1⟩ hp hi
noncomputable def othV : Option Int → V
  | none => .none
  | some o => .int o
noncomputable def toldV (k hue : Int) (other : Option Int) (c : Addr) : V := .tup [.int k, .int hue, othV other, .ref c]
noncomputable def sHued (C : Addr) : TF := fun xs σ Q _ => ∃ x D t m, xs = [.ref x, .int t.1.n, .int t.1.l, .int t.1.r, .int (m : Nat)] ∧ t ∈ D.T ∧ HallAt σ C x D ∧ Inc D.S ∧ D.T.length < 64 ∧ m ≤ 100 ∧ Proper (D.S.map (putH t.1.n none)) ∧ deg D.S false t.1.l ≤ m ∧ deg D.S true t.1.r ≤ m ∧
  ∀ σ' D' hue other nums c, HallAt σ' C x D' → Frm σ σ' D D' → HuedTo (D.S.map (putH t.1.n none)) t.1.n t.1.l t.1.r m hue other nums D'.S → σ c = none → ¬ D'.foot c → σ' c = some (.list (nums.map V.int)) → Q (toldV t.1.n hue other c) σ'
theorem itemL {σ : AH} {a : Addr} {xs : List V} {k : Int} {x : V} {Q : V → Prop} (h : σ a = some (.list xs)) (e : atV xs k = some x) (q : Q x) : itemV (.ref a) (.int k) σ Q := by
  simp only [itemV, h, e]; exact q
theorem itemT {σ : AH} {xs : List V} {k : Int} {x : V} {Q : V → Prop} (e : atV xs k = some x) (q : Q x) : itemV (.tup xs) (.int k) σ Q := by
  simp only [itemV, e]; exact q
theorem itemI {σ : AH} {a : Addr} {kvs : List (Int × V)} {ep : Nat} {k : Int} {x : V} {Q : V → Prop} (h : σ a = some (.dictI kvs ep)) (e : kvs.lookup k = some x) (q : Q x) : itemV (.ref a) (.int k) σ Q := by
  simp only [itemV, h, e]; exact q
end
section
open PySem PySem.W PyProof.Rows
section
variable {g : Gr} {sc csc : Scope} {r : Nat} {c : Bool} {K : Frag}
/-- a chain of two comparisons, as a value -/
noncomputable def tCmp2 (op op' : CmpOp) (t₁ t₂ t₃ : TE) : TE := fun ℓ σ Q E => t₁ ℓ σ (fun a σ₁ => t₂ ℓ σ₁ (fun b σ₂ => cmpV op a b σ₂ fun r => match r with | true => t₃ ℓ σ₂ (fun d σ₃ => cmpV op' b d σ₃ fun q => Q (.bool q) σ₃) E | false => Q (.bool false) σ₂) E) E
theorem sndE_cmp2 {op op' : CmpOp} {e₁ e₂ e₃ : Expr} {t₁ t₂ t₃ : TE} {pos : Pos} (h1 : SndE g sc r c e₁ t₁) (h2 : SndE g sc r c e₂ t₂) (h3 : SndE g sc r c e₃ t₃) (hm : lastMarks [op, op'] [e₂, e₃] = false) :
    SndE g sc r c (.Compare e₁ [op, op'] [e₂, e₃] pos) (tCmp2 op op' t₁ t₂ t₃) := .mk fun A env s ℓ σ Q E X h => by
  refine Compare_chain (wpAny_mono (h1.run A env s ℓ σ _ E X h) (fun u s₁ p => ?_) fun _ _ p => p) hm
  obtain ⟨a, σ₁, hu, hR, hx, hs, hq⟩ := p
  have X₁ := X.step hR hx
  refine chain_link (wpAny_mono (h2.run A env s₁ ℓ σ₁ _ E X₁ hq) (fun v s₂ p => ?_) fun _ _ p => p.back hx hs)
  obtain ⟨b, σ₂, hv, hR2, hx2, hs2, hq2⟩ := p
  have X₂ := X₁.step hR2 hx2
  refine wpAny_mono (cmp_ok (E := fun _ _ => False) X₂ (hx2.vr hR noSeq_no hu) hv hq2) (fun w s₃ p => ?_) fun _ _ p => p.elim
  obtain ⟨bb, tk, rfl, rfl, hq3⟩ := p
  have hs' : Same s { s₂ with toks := tk } := hs.trans (hs2.trans ⟨rfl, rfl, rfl⟩)
  refine wpAny_truthy_bool ?_
  cases bb with
  | false => exact ⟨.bool false, σ₂, VR_bool.mpr rfl, hR2, hx.trans hx2, hs', hq3⟩
  | true =>
    refine chain_last (wpAny_mono (h3.run A env { s₂ with toks := tk } ℓ σ₂ _ E X₂ hq3) (fun y s₄ p => ?_) fun _ _ p => p.back (hx.trans hx2) hs')
    obtain ⟨d, σ₃, hy, hR3, hx3, hs3, hq4⟩ := p
    refine wpAny_mono (cmp_ok (E := fun _ _ => False) (X₂.step hR3 hx3) (hx3.vr hR2 noSeq_no hv) hy hq4) (fun w s₅ p => ?_) fun _ _ p => p.elim
    obtain ⟨bb, tk', rfl, rfl, hq5⟩ := p
    exact ⟨.bool bb, σ₃, VR_bool.mpr rfl, hR3, (hx.trans hx2).trans hx3, hs'.trans (hs3.trans ⟨rfl, rfl, rfl⟩), hq5⟩
end
/-! ## a hall's number and rows grow -/
theorem HallAt.dNe {σ : AH} {C x : Addr} {D : HD} (H : HallAt σ C x D) : x ≠ D.d ∧ D.rd ≠ D.d ∧ D.sd ≠ D.d ∧ ∀ t ∈ D.T, t.2 ≠ D.d := by
  obtain ⟨ep, er⟩ := H.rows
  obtain ⟨eq, es⟩ := H.sizes
  have ha := H.attrs
  refine ⟨fun z => ?_, fun z => ?_, fun z => ?_, fun t ht z => ?_⟩
  · have := H.inst; rw [z, ha] at this; cases this
  · rw [z, ha] at er; cases er
  · rw [z, ha] at es; cases es
  · have := H.row t ht; rw [z, ha] at this; cases this
theorem HallAt.rdNe {σ : AH} {C x : Addr} {D : HD} (H : HallAt σ C x D) : x ≠ D.rd ∧ D.d ≠ D.rd ∧ D.sd ≠ D.rd ∧ ∀ t ∈ D.T, t.2 ≠ D.rd := by
  obtain ⟨ep, er⟩ := H.rows
  obtain ⟨eq, es⟩ := H.sizes
  refine ⟨fun z => ?_, fun z => ?_, fun z => ?_, fun t ht z => ?_⟩
  · have := H.inst; rw [z, er] at this; cases this
  · have := H.attrs; rw [z, er] at this; cases this
  · rw [z, er] at es; cases es
  · have := H.row t ht; rw [z, er] at this; cases this
theorem lookup_skip {kvs : List (Str × V)} {a b : Str} {v : V} (h : (b == a) = false) : ((a, v) :: kvs).lookup b = kvs.lookup b := by
  rw [List.lookup_cons, h]
theorem HallAt.setNext {σ : AH} {C x : Addr} {D : HD} (H : HallAt σ C x D) (h0 : 0 ≤ D.nx) :
    HallAt (σ.set D.d (.attrs ((Str.ofString "next_number", .int (D.nx + 1)) :: D.kvs))) C x { D with nx := D.nx + 1, kvs := (Str.ofString "next_number", .int (D.nx + 1)) :: D.kvs } := by
  obtain ⟨n1, n2, n3, n4⟩ := H.dNe
  obtain ⟨ep, er⟩ := H.rows
  obtain ⟨eq, es⟩ := H.sizes
  refine ⟨(AH.set_other n1).trans H.inst, AH.set_same, ?_, ?_, ?_, fun p hp => ?_, ?_, ⟨ep, (AH.set_other n2).trans er⟩, fun t ht => (AH.set_other (n4 t ht)).trans (H.row t ht), H.nodup, ⟨eq, (AH.set_other n3).trans es⟩⟩
  · show List.lookup _ (_ :: _) = _
    rw [lookup_skip (by decide +kernel)]; exact H.aRows
  · show List.lookup _ (_ :: _) = _
    rw [lookup_skip (by decide +kernel)]; exact H.aSizes
  · show List.lookup _ (_ :: _) = _
    rw [List.lookup_cons]; simp
  · rcases List.mem_cons.1 hp with rfl | q
    · exact .inr (.inr rfl)
    · exact H.names p q
  · have := H.few
    show ((Str.ofString "next_number", V.int (D.nx + 1)) :: D.kvs).length ≤ 3 + (D.nx + 1).toNat
    rw [List.length_cons]; omega
noncomputable def HD.add (D : HD) (w : Rw) (p : Addr) : HD := { D with T := D.T ++ [(w, p)] }
theorem HD.add_S {D : HD} {w : Rw} {p : Addr} : (D.add w p).S = D.S ++ [w] := by simp [HD.add, HD.S]
theorem HallAt.addRow {σ : AH} {C x : Addr} {D : HD} (H : HallAt σ C x D) {w : Rw} (hw : ∀ t ∈ D.T, t.1.n ≠ w.n) {p : Addr} (hp : σ p = none) (ep : Nat) :
    HallAt ((σ.set p (.list (rowL w))).set D.rd (.dictI (putD (D.T.map fun t => (t.1.n, V.ref t.2)) w.n (.ref p)) ep)) C x (D.add w p) := by
  have H1 := H.sub (Sub.refl.new (o := .list (rowL w)) hp)
  obtain ⟨n1, n2, n3, n4⟩ := H1.rdNe
  obtain ⟨e2, es⟩ := H1.sizes
  have prd : p ≠ D.rd := fun z => by obtain ⟨_, q⟩ := H.rows; rw [← z, hp] at q; cases q
  refine ⟨(AH.set_other n1).trans H1.inst, (AH.set_other n2).trans H1.attrs, H.aRows, H.aSizes, H.aNext, H.names, H.few, ⟨ep, ?_⟩, fun u hu => ?_, ?_, ⟨e2, (AH.set_other n3).trans es⟩⟩
  · show (AH.set _ D.rd _) D.rd = _
    rw [AH.set_same]
    unfold putD
    rw [if_neg ?_]
    · simp [HD.add]
    · rw [List.any_eq_true]
      rintro ⟨q, hq, z⟩
      obtain ⟨t, ht, rfl⟩ := List.mem_map.1 hq
      exact hw t ht (by simpa using z)
  · show (AH.set _ D.rd _) u.2 = _
    rcases List.mem_append.1 hu with q | q
    · rw [AH.set_other (n4 u q)]; exact H1.row u q
    · rw [List.mem_singleton.1 q, AH.set_other prd, AH.set_same]
  · show ((D.T ++ [(w, p)]).map (·.2)).Nodup
    rw [List.map_append, List.nodup_append]
    refine ⟨H.nodup, by simp, fun a ha b hb z => ?_⟩
    simp at hb; subst hb
    obtain ⟨t, ht, rfl⟩ := List.mem_map.1 ha
    have := H.row t ht; rw [z, hp] at this; cases this
noncomputable def HD.drop (D : HD) (k : Int) : HD := { D with T := D.T.filter fun t => t.1.n != k }
theorem HD.drop_S {D : HD} {k : Int} : (D.drop k).S = drp k D.S := by
  unfold HD.drop HD.S drp
  rw [List.filter_map]; rfl
theorem HallAt.dropRow {σ : AH} {C x : Addr} {D : HD} (H : HallAt σ C x D) (k : Int) (ep : Nat) :
    HallAt (σ.set D.rd (.dictI ((D.T.map fun t => (t.1.n, V.ref t.2)).filter fun kv => decide (kv.1 ≠ k)) ep)) C x (D.drop k) := by
  obtain ⟨n1, n2, n3, n4⟩ := H.rdNe
  obtain ⟨e2, es⟩ := H.sizes
  refine ⟨(AH.set_other n1).trans H.inst, (AH.set_other n2).trans H.attrs, H.aRows, H.aSizes, H.aNext, H.names, H.few, ⟨ep, ?_⟩, fun u hu => ?_, ?_, ⟨e2, (AH.set_other n3).trans es⟩⟩
  · show (AH.set _ D.rd _) D.rd = _
    rw [AH.set_same]
    unfold HD.drop
    rw [List.filter_map]
    congr 4
    funext t
    simp only [Function.comp_apply]
    rw [Bool.eq_iff_iff]; simp
  · have hu' := (List.mem_filter.1 hu).1
    show (AH.set _ D.rd _) u.2 = _
    rw [AH.set_other (n4 u hu')]; exact H.row u hu'
  · exact H.nodup.sublist (List.Sublist.map _ List.filter_sublist)
theorem deg_le_length {S : List Rw} {s : Bool} {e : Int} : deg S s e ≤ S.length := List.length_filter_le _ _
theorem cnt_le_length {S : List Rw} {a b : Int} {m : Nat} (h : IsCnt S a b m) : m ≤ S.length := by
  rcases h.got with q | ⟨s, e, _, _, q⟩
  · omega
  · have := deg_le_length (S := S) (s := s) (e := e); omega
/-! ## what the larger ones do -/
noncomputable def sNeedEnd (C : Addr) : TF := fun xs σ Q _ => ∃ x D s e, xs = [.ref x, .str (sideS s), .int e] ∧ HallAt σ C x D ∧ 0 ≤ e ∧ e < szOf D.a D.b s ∧ Q .none σ
noncomputable def sInit (C : Addr) : TF := fun xs σ Q _ => ∃ x d a b, xs = [.ref x, .int a, .int b] ∧ 1 ≤ a ∧ a ≤ 8 ∧ 1 ≤ b ∧ b ≤ 8 ∧ σ x = some (.inst C d) ∧ σ d = some (.attrs []) ∧
  ∀ σ' D, HallAt σ' C x D → D.T = [] → D.a = a → D.b = b → D.nx = 0 → D.d = d → σ D.rd = none → (∀ y o, σ y = some o → y ≠ d → σ' y = some o) → Q .none σ'
/-- a hall is well: its sizes, its number -/
structure Well (D : HD) (m : Nat) : Prop where
  good : Good D.S D.a D.b m
  a8 : 1 ≤ D.a ∧ D.a ≤ 8
  b8 : 1 ≤ D.b ∧ D.b ≤ 8
  nx : 0 ≤ D.nx ∧ D.nx ≤ 1000
  below : ∀ x ∈ D.S, x.n < D.nx
noncomputable def sCome (C : Addr) : TF := fun xs σ Q _ => ∃ x D l r m, xs = [.ref x, .int l, .int r] ∧ HallAt σ C x D ∧ Well D m ∧ D.nx < 1000 ∧ D.T.length < 40 ∧ (0 ≤ l ∧ l < D.a) ∧ (0 ≤ r ∧ r < D.b) ∧
  ∀ σ' D' m' hue other nums c, HallAt σ' C x D' → Well D' m' → D'.nx = D.nx + 1 → D'.a = D.a → D'.b = D.b → (∀ y o, σ y = some o → ¬ D.foot y → σ' y = some o) → (∀ y, D'.foot y → D.foot y ∨ σ y = none) → (∀ y, σ' y = none → σ y = none) → D'.S.map sk = D.S.map sk ++ [(D.nx, l, r)] →
    HuedTo (D.S ++ [⟨D.nx, l, r, none⟩]) D.nx l r m' hue other nums D'.S → σ c = none → ¬ D'.foot c → σ' c = some (.list (nums.map V.int)) → Q (toldV D.nx hue other c) σ'
noncomputable def sNeedPair (C : Addr) : TF := fun xs σ Q _ => ∃ x D t, xs = [.ref x, .int t.1.n] ∧ t ∈ D.T ∧ HallAt σ C x D ∧ Q .none σ
/-- an entry of what go tells -/
structure LogE where
  k : Int
  hue : Int
  other : Option Int
  nums : List Int
  c : Addr
noncomputable def LogE.v (e : LogE) : V := toldV e.k e.hue e.other e.c
inductive GoLog (m : Nat) : List Rw → List LogE → List Rw → Prop
  | nil {S : List Rw} : GoLog m S [] S
  | snoc {S S1 S2 : List Rw} {log : List LogE} {e : LogE} {t : Rw} : GoLog m S log S1 → t ∈ S1 → t.n = e.k → t.h = some (m : Int) → HuedTo (S1.map (putH e.k none)) e.k t.l t.r m e.hue e.other e.nums S2 → GoLog m S (log ++ [e]) S2
noncomputable def sGo (C : Addr) : TF := fun xs σ Q _ => ∃ x D m t, xs = [.ref x, .int t.1.n] ∧ t ∈ D.T ∧ HallAt σ C x D ∧ Well D m ∧ D.T.length < 64 ∧
  ∀ σ' D' m' b log, HallAt σ' C x D' → Well D' m' → Frm σ σ' D D' → D'.S.map sk = (drp t.1.n D.S).map sk → IsCnt (drp t.1.n D.S) D.a D.b m' → GoLog m' (drp t.1.n D.S) log D'.S → σ b = none → ¬ D'.foot b → σ' b = some (.list (log.map LogE.v)) → (∀ e ∈ log, σ' e.c = some (.list (e.nums.map V.int)) ∧ σ e.c = none ∧ ¬ D'.foot e.c) → Q (.ref b) σ'
noncomputable def pairRow (t : Rw × Addr) : V := .tup [.int t.1.n, .int t.1.l, .int t.1.r, hueV t.1.h]
noncomputable def sPairs (C : Addr) : TF := fun xs σ Q _ => ∃ x D, xs = [.ref x] ∧ HallAt σ C x D ∧ Inc D.S ∧ D.T.length < 64 ∧ ∀ b, σ b = none → Q (.ref b) (σ.set b (.list (D.T.map pairRow)))
noncomputable def sIsHue (C : Addr) : TF := fun xs σ Q _ => ∃ x D m h, xs = [.ref x, .int h] ∧ HallAt σ C x D ∧ Well D m ∧ D.T.length < 64 ∧ Q (.bool (decide (0 ≤ h ∧ h < m))) σ
noncomputable def sOfHue (C : Addr) : TF := fun xs σ Q _ => ∃ x D m h, xs = [.ref x, .int h] ∧ HallAt σ C x D ∧ Well D m ∧ D.T.length < 64 ∧ 0 ≤ h ∧ h < m ∧ ∀ b, σ b = none → Q (.ref b) (σ.set b (.list ((ofHue D.S h).map fun x => V.int x.n)))
/-- the fullest ends -/
noncomputable def fullL (S : List Rw) (s : Bool) (n : Int) (m : Nat) : List Int := (rngI n.toNat).filter fun e => deg S s e == m
noncomputable def sFullest (C : Addr) : TF := fun xs σ Q _ => ∃ x D m, xs = [.ref x] ∧ HallAt σ C x D ∧ Well D m ∧ D.T.length < 64 ∧
  ∀ b c, σ b = none → σ c = none → b ≠ c → Q (.tup [.ref b, .ref c]) ((σ.set b (.list ((if m = 0 then [] else fullL D.S false D.a m).map V.int))).set c (.list ((if m = 0 then [] else fullL D.S true D.b m).map V.int)))
theorem sk_ns {S T : List Rw} (h : S.map sk = T.map sk) : S.map Rw.n = T.map Rw.n := by
  have : ∀ U : List Rw, U.map Rw.n = (U.map sk).map (·.1) := fun U => by rw [List.map_map]; rfl
  rw [this, this, h]
theorem Well.of_sk {D D' : HD} {m m' : Nat} (W : Well D m) (hg : Good D'.S D.a D.b m') (hs : D'.a = D.a ∧ D'.b = D.b ∧ D'.nx = D.nx) (hsk : ∀ n ∈ D'.S.map Rw.n, n ∈ D.S.map Rw.n) : Well D' m' :=
  ⟨by rw [hs.1, hs.2.1]; exact hg, by rw [hs.1]; exact W.a8, by rw [hs.2.1]; exact W.b8, by rw [hs.2.2]; exact W.nx, fun x hx => by
    obtain ⟨y, hy, e⟩ := List.mem_map.1 (hsk x.n (List.mem_map.2 ⟨x, hx, rfl⟩))
    rw [hs.2.2, ← e]; exact W.below y hy⟩
end
section
open PySem PySem.W PyProof.Rows
theorem putAll_nil : ∀ (ps acc : List (Int × V)), (acc ++ ps).Pairwise (fun a b => a.1 ≠ b.1) → putAll acc ps = acc ++ ps
  | [], acc, _ => by simp [putAll]
  | p :: ps, acc, h => by
    show putAll (putD acc p.1 p.2) ps = _
    have hn : (acc.any fun kv => decide (kv.1 = p.1)) = false := by
      rw [List.any_eq_false]
      intro q hq
      have := (List.pairwise_append.1 h).2.2 q hq p (.head _)
      simpa using this
    have e : putD acc p.1 p.2 = acc ++ [p] := by unfold putD; rw [if_neg (by rw [hn]; simp)]
    rw [e, putAll_nil ps (acc ++ [p]) (by simpa using h)]
    simp
theorem data_bools {σ : AH} : ∀ (bs : List Bool), DataOfs σ (bs.map PyData.bool) (bs.map V.bool)
  | [] => by simp [DataOfs]
  | b :: bs => by simp only [List.map_cons, DataOfs]; exact ⟨_, _, rfl, by simp [DataOf], data_bools bs⟩
theorem canLay_bools : ∀ bs : List Bool, PyData.canLayAll0 (bs.map PyData.bool) = true
  | [] => by simp [PyData.canLayAll0]
  | b :: bs => by simp [PyData.canLayAll0, PyData.canLay0, canLay_bools bs]
theorem depth_bools : ∀ bs : List Bool, PyData.depthAll (bs.map PyData.bool) ≤ 1
  | [] => by simp [PyData.depthAll]
  | b :: bs => by have := depth_bools bs; simp only [List.map_cons, PyData.depthAll, PyData.depth]; omega
theorem lay_bools (bs : List Bool) : Lay (.list (bs.map PyData.bool)) := ⟨by simp [PyData.canLay0, canLay_bools], by have := depth_bools bs; simp only [PyData.depth]; omega⟩
theorem eqvAll_bools : ∀ ns ms : List Bool, PyData.eqvAll (ns.map PyData.bool) (ms.map PyData.bool) = (ns == ms)
  | [], [] => by simp [PyData.eqvAll]
  | [], m :: ms => by simp [PyData.eqvAll]
  | n :: ns, [] => by simp [PyData.eqvAll]
  | n :: ns, m :: ms => by
    simp only [List.map_cons, PyData.eqvAll, PyData.eqv, eqvAll_bools ns ms]
    rw [Bool.eq_iff_iff]; simp
theorem eqD_bools {σ : AH} {a b : Addr} {ns ms : List Bool} {Q : Bool → Prop} (ha : σ a = some (.list (ns.map V.bool))) (hb : σ b = some (.list (ms.map V.bool))) (h : Q (ns == ms)) : eqD (.ref a) (.ref b) σ Q := by
  unfold eqD
  exact ⟨_, _, data_list ha (data_bools ns), data_list hb (data_bools ms), lay_bools ns, lay_bools ms, by simpa only [PyData.eqv, eqvAll_bools] using h⟩
theorem data_nil {σ : AH} {a : Addr} (h : σ a = some (.list [])) : DataOf σ (.list []) (.ref a) := data_list h (by simp [DataOfs])
theorem eqD_nil2 {σ : AH} {a b c d : Addr} {Q : Bool → Prop} (ha : σ a = some (.list [])) (hb : σ b = some (.list [])) (hc : σ c = some (.list [])) (hd : σ d = some (.list [])) (h : Q true) : eqD (.tup [.ref a, .ref b]) (.tup [.ref c, .ref d]) σ Q := by
  unfold eqD
  refine ⟨.tuple [.list [], .list []], .tuple [.list [], .list []], ?_, ?_, ?_, ?_, ?_⟩
  · unfold DataOf; exact ⟨_, rfl, by simp only [DataOfs]; exact ⟨_, _, rfl, data_nil ha, _, _, rfl, data_nil hb, rfl⟩⟩
  · unfold DataOf; exact ⟨_, rfl, by simp only [DataOfs]; exact ⟨_, _, rfl, data_nil hc, _, _, rfl, data_nil hd, rfl⟩⟩
  · exact ⟨by simp [PyData.canLay0, PyData.canLayAll0], by simp [PyData.depth, PyData.depthAll]⟩
  · exact ⟨by simp [PyData.canLay0, PyData.canLayAll0], by simp [PyData.depth, PyData.depthAll]⟩
  · simpa [PyData.eqv, PyData.eqvAll] using h
theorem eqD_nil {σ : AH} {a b : Addr} {Q : Bool → Prop} (ha : σ a = some (.list [])) (hb : σ b = some (.list [])) (h : Q true) : eqD (.ref a) (.ref b) σ Q :=
  eqD_ints (ns := []) (ms := []) (by simpa using ha) (by simpa using hb) (by simpa using h)
/-- a dict that is not the hall's is changed -/
theorem HallAt.setDict {σ : AH} {C x : Addr} {D : HD} (H : HallAt σ C x D) {b : Addr} {l l' : List (Int × V)} {ep ep' : Nat} (hb : σ b = some (.dictI l ep)) (hn : ¬ D.foot b) : HallAt (σ.set b (.dictI l' ep')) C x D := by
  obtain ⟨e1, er⟩ := H.rows
  obtain ⟨eq, es⟩ := H.sizes
  have ne : ∀ {y o}, σ y = some o → (∀ l ep, o ≠ .dictI l ep) → y ≠ b := fun {y o} h1 h2 z => by rw [z, hb] at h1; cases h1; exact h2 _ _ rfl
  exact ⟨(AH.set_other (ne H.inst (by simp))).trans H.inst, (AH.set_other (ne H.attrs (by simp))).trans H.attrs, H.aRows, H.aSizes, H.aNext, H.names, H.few, ⟨e1, (AH.set_other fun z => hn (.inr (.inl z.symm))).trans er⟩,
    fun t ht => (AH.set_other (ne (H.row t ht) (by simp))).trans (H.row t ht), H.nodup, ⟨eq, (AH.set_other (ne es (by simp))).trans es⟩⟩
/-! ## the ends as the law keeps them -/
noncomputable def endKV (p : Int × Int × Int) : Int × V := (p.1, .tup [.int p.2.1, .int p.2.2])
noncomputable def endsOf (S : List Rw) : List (Int × V) := (S.map sk).map endKV
noncomputable def sCellAt : TF := fun xs σ Q _ => ∃ (ns : List Int) (k : Nat), xs = [.frz (ns.map V.int), .int k] ∧ ∀ c, Q (.int c) σ
noncomputable def sMixed : TF := fun xs σ Q _ => ∃ c k, xs = [.int c, .int k] ∧ 0 ≤ k ∧ k ≤ 1000000 ∧ ∀ n : Int, 0 ≤ n → Q (.int n) σ
noncomputable def sSizesBy : TF := fun xs σ Q _ => ∃ c, xs = [.int c] ∧ ∀ a b k : Int, 1 ≤ a → a ≤ 8 → 1 ≤ b → b ≤ 8 → Q (.tup [.int a, .int b, .int k]) σ
noncomputable def sEnds : TF := fun xs σ Q _ => ∃ (c a b k : Int) (ed : Addr) (kvs : List (Int × Int × Int)) (ep : Nat), xs = [.int c, .tup [.int a, .int b, .int k], .ref ed] ∧ σ ed = some (.dictI (kvs.map endKV) ep) ∧ 1 ≤ a ∧ a ≤ 8 ∧ 1 ≤ b ∧ b ≤ 8 ∧ ∀ l r, 0 ≤ l → l < a → 0 ≤ r → r < b → Q (.tup [.int l, .int r]) σ
noncomputable def goS : Str := Str.ofString "go"
noncomputable def comeS : Str := Str.ofString "come"
noncomputable def sDeed : TF := fun xs σ Q _ => ∃ (c a b k : Int) (ed : Addr) (kvs : List (Int × Int × Int)) (ep : Nat), xs = [.int c, .tup [.int a, .int b, .int k], .ref ed, .int 40] ∧ σ ed = some (.dictI (kvs.map endKV) ep) ∧ 1 ≤ a ∧ a ≤ 8 ∧ 1 ≤ b ∧ b ≤ 8 ∧ kvs.length ≤ 40 ∧ (kvs.map (·.1)).Pairwise (· < ·) ∧
  (∀ n ∈ kvs.map (·.1), Q (.tup [.str goS, .int n]) σ) ∧ (kvs.length < 40 → ∀ l r, 0 ≤ l → l < a → 0 ≤ r → r < b → Q (.tup [.str comeS, .int l, .int r]) σ)
theorem tSorted_dict {σ : AH} {a : Addr} {kvs : List (Int × V)} {ep : Nat} (ha : σ a = some (.dictI kvs ep)) (hi : (kvs.map (·.1)).Pairwise (· < ·)) (h64 : kvs.length < 64) {Q : V → AH → Prop} {E : Addr → AH → Prop} (h : ∀ b, σ b = none → Q (.ref b) (σ.set b (.list ((kvs.map (·.1)).map V.int)))) : tSorted [.ref a] σ Q E := by
  simp only [tSorted, keysInts, ha]
  refine ⟨by simpa using h64, fun ns' b hp hs hb => ?_⟩
  rw [perm_sorted hp hs hi]
  exact h b hb
theorem atV_mem {xs : List V} {k : Int} (h0 : 0 ≤ k) (h1 : k < xs.length) : ∃ x, atV xs k = some x ∧ x ∈ xs := by
  have hk : k.toNat < xs.length := by omega
  exact ⟨xs[k.toNat], atV_int h0 (by simp [hk]), List.getElem_mem hk⟩
theorem tIfS_k {t : TB} {a b : TS} {ℓ : Loc} {σ : AH} {Q : Fl → Loc → AH → Prop} {E : Addr → Loc → AH → Prop} (h : ∀ K : Bool → AH → Prop, (∀ σ', a ℓ σ' Q E → K true σ') → (∀ σ', b ℓ σ' Q E → K false σ') → t ℓ σ K fun C σ' => E C ℓ σ') : tIfS t a b ℓ σ Q E :=
  h _ (fun _ h => h) (fun _ h => h)
theorem go_come : (goS == comeS) = false := by decide +kernel
theorem come_ok : PyData.strOk comeS = true := by decide +kernel
theorem go_ok : PyData.strOk goS = true := by decide +kernel
theorem endKV_vals (kvs : List (Int × Int × Int)) : (kvs.map endKV).map (·.2) = kvs.map fun p => V.tup [.int p.2.1, .int p.2.2] := by rw [List.map_map]; rfl
end
section
open PySem PySem.W PyProof.Rows
theorem lookup_ends {S : List Rw} (hi : Inc S) {x : Rw} (hx : x ∈ S) : (endsOf S).lookup x.n = some (.tup [.int x.l, .int x.r]) := by
  induction S with
  | nil => cases hx
  | cons y S ih =>
    unfold endsOf at ih ⊢
    rw [List.map_cons, List.map_cons, List.lookup_cons]
    rcases List.mem_cons.1 hx with rfl | h
    · simp [endKV, sk]
    · have : y.n < x.n := (List.pairwise_cons.1 hi).1 x h
      have q : (x.n == (endKV (sk y)).1) = false := by simp [endKV, sk]; omega
      rw [q]; exact ih (List.pairwise_cons.1 hi).2 h
theorem ends_distinct {S : List Rw} (hi : Inc S) : (endsOf S).Pairwise fun a b => a.1 ≠ b.1 := by
  unfold endsOf
  rw [List.map_map, List.pairwise_map]
  exact hi.imp fun h => by simp [endKV, sk]; omega
theorem ends_inc {S : List Rw} (hi : Inc S) : ((S.map sk).map (·.1)).Pairwise (· < ·) := by
  rw [List.map_map, List.pairwise_map]
  exact hi.imp fun h => h
noncomputable def sMeets (C : Addr) : TF := fun xs σ Q _ => ∃ x nb D m h, xs = [.ref x, .ref nb] ∧ HallAt σ C x D ∧ Well D m ∧ D.T.length < 64 ∧ 0 ≤ h ∧ h < (m : Int) ∧ σ nb = some (.list ((ofHue D.S h).map fun x => V.int x.n)) ∧ Q (.bool true) σ
noncomputable def sAlive (C : Addr) : TF := fun xs σ Q _ => ∃ x D m, xs = [.ref x] ∧ HallAt σ C x D ∧ Well D m ∧ D.T.length < 64 ∧ Q (.bool true) σ
theorem fullL_in {S : List Rw} {a b : Int} {m : Nat} (G : Good S a b m) {h : Int} (h0 : 0 ≤ h) (h1 : h < m) {s : Bool} {n : Int} {e : Int} (he : e ∈ fullL S s n m) : e ∈ (ofHue S h).map fun x => x.e s := by
  have := (List.mem_filter.1 he).2
  exact class_full G h0 h1 (by simpa using this)
/-- what a law is: it gives back True -/
noncomputable def sLaw : TF := fun xs σ Q _ => ∃ ns : List Int, xs = [.frz (ns.map V.int)] ∧ ns.length ≤ 63 ∧ Q (.bool true) σ
theorem eqD_int {σ : AH} {i j : Int} {Q : Bool → Prop} (h : Q (i == j)) : eqD (.int i) (.int j) σ Q := by
  simp only [eqD]; exact h
end
section
open PySem PySem.W PyProof.Rows
theorem sk_filter (S : List Rw) (p : Int → Bool) : (S.filter fun x => p x.n).map sk = (S.map sk).filter fun q => p q.1 := by
  rw [List.filter_map]; rfl
theorem endsOf_congr {S T : List Rw} (h : S.map sk = T.map sk) : endsOf S = endsOf T := by unfold endsOf; rw [h]
theorem ends_drop (S : List Rw) (k : Int) : ((endsOf S).filter fun kv => decide (kv.1 ≠ k)) = endsOf (drp k S) := by
  unfold endsOf drp
  rw [sk_filter S (fun n => n != k), List.filter_map]
  congr 1
  congr 1
  funext q
  simp only [Function.comp_apply, endKV]
  rw [Bool.eq_iff_iff, bne_iff_ne]
  exact decide_eq_true_iff
theorem ends_add {S S' : List Rw} {k l r : Int} (h : S'.map sk = S.map sk ++ [(k, l, r)]) (hk : ∀ x ∈ S, x.n ≠ k) : putD (endsOf S) k (.tup [.int l, .int r]) = endsOf S' := by
  unfold putD
  rw [if_neg ?_]
  · unfold endsOf; rw [h, List.map_append]; rfl
  · rw [List.any_eq_true]
    rintro ⟨q, hq, z⟩
    unfold endsOf at hq
    rw [List.map_map] at hq
    obtain ⟨x, hx, rfl⟩ := List.mem_map.1 hq
    exact hk x hx (of_decide_eq_true z)
theorem class_filter {S : List Rw} (hi : Inc S) {h : Int} {L : List Int} (hp : L.Perm ((ofHue S h).map Rw.n)) : (S.filter fun x => !L.contains x.n) = S.filter fun x => x.h != some h := by
  refine List.filter_congr fun x hx => ?_
  rw [Bool.eq_iff_iff]
  simp only [Bool.not_eq_true', List.contains_eq_mem, decide_eq_false_iff_not, bne_iff_ne, ne_eq]
  refine not_congr ?_
  rw [hp.mem_iff]
  constructor
  · intro q
    obtain ⟨y, hy, e⟩ := List.mem_map.1 q
    obtain ⟨hy, hh⟩ := List.mem_filter.1 hy
    have := hi.inj hy hx e
    subst this
    simpa using hh
  · intro q
    exact List.mem_map.2 ⟨x, List.mem_filter.2 ⟨hx, by simp [q]⟩, rfl⟩
theorem drop_more {S T : List Rw} {done : List Int} {k : Int} (h : T.map sk = (S.filter fun x => !done.contains x.n).map sk) : (drp k T).map sk = (S.filter fun x => !(done ++ [k]).contains x.n).map sk := by
  unfold drp
  rw [sk_filter T (fun n => n != k), h, sk_filter S (fun n => !done.contains n), sk_filter S (fun n => !(done ++ [k]).contains n), List.filter_filter]
  congr 1
  funext q
  rw [Bool.eq_iff_iff]
  simp only [Bool.and_eq_true, bne_iff_ne, ne_eq, Bool.not_eq_true', List.contains_eq_mem, decide_eq_false_iff_not, List.mem_append, List.mem_singleton, not_or]
  exact And.comm
theorem noFoot {σ : AH} {C x : Addr} {D : HD} {b : Addr} (H : HallAt σ C x D) (hb : σ b = none) : ¬ D.foot b := fun q => by
  rcases q with q | q | q
  · have := H.attrs; rw [← q, hb] at this; cases this
  · obtain ⟨_, this⟩ := H.rows; rw [← q, hb] at this; cases this
  · obtain ⟨u, hu, rfl⟩ := List.mem_map.1 q
    have := H.row u hu; rw [hb] at this; cases this
theorem Frm.off {σ σ' : AH} {D D' : HD} (F : Frm σ σ' D D') {b : Addr} {o : AO} (hb : σ b = some o) (h : ¬ D.foot b) : ¬ D'.foot b := fun z => by
  rcases F.new b z with w | w
  · exact h w
  · rw [hb] at w; cases w
noncomputable def sLawT : TF := fun xs σ Q _ => ∃ ns : List Int, xs = [.frz (ns.map V.int)] ∧ ns.length ≤ 63 ∧ ∀ σ', Q (.bool true) σ'
end
section
open PySem PySem.W PyProof.Rows
/-! the part of the heap at the law's call that the walk reads: functions by the row's own statements -/
noncomputable def top (i : Nat) : Stmt := (PySem.Challenge.pw_uf040033_07.main.body[i]?).getD (.Pass ⟨0, 0, 0, 0⟩)
noncomputable def inCls : Stmt → Nat → Stmt
  | .ClassDef _ _ _ b _ _ _ _ _ _ _, i => (b[i]?).getD (.Pass ⟨0, 0, 0, 0⟩)
  | s, _ => s
noncomputable def fnO (s : Stmt) (q : String) (m : Value) (c : Nat) : Obj := match s with
  | .FunctionDef n as b _ _ _ sc _ _ _ => { cls := .type "function", data := .func { name := n, qualname := Str.ofString q, params := as, body := .stmts b, scope := sc, globals := 3, closure := [], defaults := .none, kwdefaults := .none, pyModule := m, code := .ref c } }
  | _ => { cls := .none, data := .dict #[] 0 }
noncomputable def ent (P : Params) (n : String) (t : Nat) (v : Value) : DictEntry := ⟨PyData.keyHash P (Str.ofString n), .str (Str.ofString n) t, v⟩
noncomputable def KK (P : Params) : Frag :=
  [(2, { cls := Value.none, data := Data.dict #[] }),
   (3, { cls := Value.type "dict", data := Data.dict #[ent P "__name__" 165 (Value.str (Str.ofString "law_uf040033_07") 574), ent P "__doc__" 166 (Value.none), ent P "__package__" 167 (Value.none), ent P "__loader__" 168 (Value.builtin "__main__.__loader__#opaque"), ent P "__spec__" 169 (Value.none), ent P "__annotations__" 170 (Value.ref 6), ent P "__builtins__" 171 (Value.ref 4), ent P "__file__" 173 (Value.str (Str.ofString "/claim/cut.py") 172), ent P "__cached__" 174 (Value.none), ent P "_wall" 193 (Value.ref 21), ent P "PairError" 213 (Value.ref 31), ent P "BadCount" 229 (Value.ref 44), ent P "BadSide" 245 (Value.ref 56), ent P "BadEnd" 261 (Value.ref 68), ent P "TooMany" 277 (Value.ref 80), ent P "NoPair" 293 (Value.ref 92), ent P "BadHue" 309 (Value.ref 104), ent P "NotFree" 325 (Value.ref 116), ent P "MOST_ENDS" 329 (Value.int 8 328), ent P "MOST_PAIRS" 331 (Value.int 40 330), ent P "LEFT" 333 (Value.str (Str.ofString "left") 332), ent P "RIGHT" 335 (Value.str (Str.ofString "right") 334), ent P "is_number" 342 (Value.ref 125), ent P "other_side" 349 (Value.ref 132), ent P "Hall" 573 (Value.ref 284), ent P "_law_cell_at" 583 (Value.ref 295), ent P "_law_mixed" 591 (Value.ref 302), ent P "_law_whole" 598 (Value.ref 309), ent P "_law_sizes_by" 606 (Value.ref 316), ent P "_law_ends" 612 (Value.ref 321), ent P "_law_deed" 622 (Value.ref 328), ent P "_law_meets" 628 (Value.ref 333), ent P "_law_alive" 634 (Value.ref 338), ent P "law" 651 (Value.ref 345)] 34 }),
   (124, { cls := Value.type "code", data := Data.fields #[Value.str (Str.ofString "is_number") 336, Value.str (Str.ofString "is_number") 337, Value.str (Str.ofString "/claim/cut.py") 338, Value.int 26 0, Value.int 1 0, Value.int 0 0, Value.int 0 0, Value.int 3 0, Value.ref 119, Value.bool true, Value.int 181 0, Value.ref 120, Value.none, Value.ref 121, Value.ref 122, Value.ref 123, Value.int 340 0, Value.int 26 0, Value.str (Str.ofString "/claim/cut.py") 341] }),
   (125, fnO (top 15) "is_number" (Value.str (Str.ofString "pairhues.halls") 326) 124),
   (131, { cls := Value.type "code", data := Data.fields #[Value.str (Str.ofString "other_side") 343, Value.str (Str.ofString "other_side") 344, Value.str (Str.ofString "/claim/cut.py") 345, Value.int 28 0, Value.int 1 0, Value.int 0 0, Value.int 0 0, Value.int 3 0, Value.ref 126, Value.bool true, Value.int 181 0, Value.ref 127, Value.none, Value.ref 128, Value.ref 129, Value.ref 130, Value.int 347 0, Value.int 28 0, Value.str (Str.ofString "/claim/cut.py") 348] }),
   (132, fnO (top 16) "other_side" (Value.str (Str.ofString "pairhues.halls") 326) 131),
   (145, { cls := Value.type "code", data := Data.fields #[Value.str (Str.ofString "__init__") 362, Value.str (Str.ofString "Hall.__init__") 363, Value.str (Str.ofString "/claim/cut.py") 364, Value.int 34 0, Value.int 3 0, Value.int 0 0, Value.int 0 0, Value.int 3 0, Value.ref 140, Value.bool true, Value.int 181 0, Value.ref 141, Value.none, Value.ref 142, Value.ref 143, Value.ref 144, Value.int 369 0, Value.int 34 0, Value.str (Str.ofString "/claim/cut.py") 370] }),
   (146, fnO (inCls (top 17) 0) "Hall.__init__" (Value.str (Str.ofString "pairhues.halls") 326) 145),
   (152, { cls := Value.type "code", data := Data.fields #[Value.str (Str.ofString "need_end") 372, Value.str (Str.ofString "Hall.need_end") 373, Value.str (Str.ofString "/claim/cut.py") 374, Value.int 42 0, Value.int 3 0, Value.int 0 0, Value.int 0 0, Value.int 3 0, Value.ref 147, Value.bool true, Value.int 181 0, Value.ref 148, Value.none, Value.ref 149, Value.ref 150, Value.ref 151, Value.int 378 0, Value.int 42 0, Value.str (Str.ofString "/claim/cut.py") 379] }),
   (153, fnO (inCls (top 17) 1) "Hall.need_end" (Value.str (Str.ofString "pairhues.halls") 326) 152),
   (159, { cls := Value.type "code", data := Data.fields #[Value.str (Str.ofString "need_place") 381, Value.str (Str.ofString "Hall.need_place") 382, Value.str (Str.ofString "/claim/cut.py") 383, Value.int 46 0, Value.int 3 0, Value.int 0 0, Value.int 0 0, Value.int 3 0, Value.ref 154, Value.bool true, Value.int 181 0, Value.ref 155, Value.none, Value.ref 156, Value.ref 157, Value.ref 158, Value.int 387 0, Value.int 46 0, Value.str (Str.ofString "/claim/cut.py") 388] }),
   (160, fnO (inCls (top 17) 2) "Hall.need_place" (Value.str (Str.ofString "pairhues.halls") 326) 159),
   (166, { cls := Value.type "code", data := Data.fields #[Value.str (Str.ofString "end_of") 390, Value.str (Str.ofString "Hall.end_of") 391, Value.str (Str.ofString "/claim/cut.py") 392, Value.int 51 0, Value.int 3 0, Value.int 0 0, Value.int 0 0, Value.int 3 0, Value.ref 161, Value.bool true, Value.int 181 0, Value.ref 162, Value.none, Value.ref 163, Value.ref 164, Value.ref 165, Value.int 396 0, Value.int 51 0, Value.str (Str.ofString "/claim/cut.py") 397] }),
   (167, fnO (inCls (top 17) 3) "Hall.end_of" (Value.str (Str.ofString "pairhues.halls") 326) 166),
   (171, { cls := Value.type "code", data := Data.fields #[Value.str (Str.ofString "met") 399, Value.str (Str.ofString "Hall.met") 400, Value.str (Str.ofString "/claim/cut.py") 401, Value.int 56 0, Value.int 3 0, Value.int 0 0, Value.int 0 0, Value.int 3 0, Value.ref 168, Value.bool true, Value.int 181 0, Value.ref 169, Value.none, Value.none, Value.none, Value.ref 170, Value.int 402 0, Value.int 56 0, Value.str (Str.ofString "/claim/cut.py") 403] }),
   (172, fnO (inCls (top 17) 4) "Hall.met" (Value.str (Str.ofString "pairhues.halls") 326) 171),
   (176, { cls := Value.type "code", data := Data.fields #[Value.str (Str.ofString "count") 405, Value.str (Str.ofString "Hall.count") 406, Value.str (Str.ofString "/claim/cut.py") 407, Value.int 59 0, Value.int 1 0, Value.int 0 0, Value.int 0 0, Value.int 3 0, Value.ref 173, Value.bool true, Value.int 181 0, Value.ref 174, Value.none, Value.none, Value.none, Value.ref 175, Value.int 408 0, Value.int 59 0, Value.str (Str.ofString "/claim/cut.py") 409] }),
   (177, fnO (inCls (top 17) 5) "Hall.count" (Value.str (Str.ofString "pairhues.halls") 326) 176),
   (181, { cls := Value.type "code", data := Data.fields #[Value.str (Str.ofString "open_hues") 411, Value.str (Str.ofString "Hall.open_hues") 412, Value.str (Str.ofString "/claim/cut.py") 413, Value.int 65 0, Value.int 4 0, Value.int 0 0, Value.int 0 0, Value.int 3 0, Value.ref 178, Value.bool true, Value.int 181 0, Value.ref 179, Value.none, Value.none, Value.none, Value.ref 180, Value.int 414 0, Value.int 65 0, Value.str (Str.ofString "/claim/cut.py") 415] }),
   (182, fnO (inCls (top 17) 6) "Hall.open_hues" (Value.str (Str.ofString "pairhues.halls") 326) 181),
   (188, { cls := Value.type "code", data := Data.fields #[Value.str (Str.ofString "with_hue") 417, Value.str (Str.ofString "Hall.with_hue") 418, Value.str (Str.ofString "/claim/cut.py") 419, Value.int 69 0, Value.int 4 0, Value.int 0 0, Value.int 0 0, Value.int 3 0, Value.ref 183, Value.bool true, Value.int 181 0, Value.ref 184, Value.none, Value.ref 185, Value.ref 186, Value.ref 187, Value.int 425 0, Value.int 69 0, Value.str (Str.ofString "/claim/cut.py") 426] }),
   (189, fnO (inCls (top 17) 7) "Hall.with_hue" (Value.str (Str.ofString "pairhues.halls") 326) 188),
   (195, { cls := Value.type "code", data := Data.fields #[Value.str (Str.ofString "chain_from") 428, Value.str (Str.ofString "Hall.chain_from") 429, Value.str (Str.ofString "/claim/cut.py") 430, Value.int 75 0, Value.int 5 0, Value.int 0 0, Value.int 0 0, Value.int 3 0, Value.ref 190, Value.bool true, Value.int 181 0, Value.ref 191, Value.none, Value.ref 192, Value.ref 193, Value.ref 194, Value.int 439 0, Value.int 75 0, Value.str (Str.ofString "/claim/cut.py") 440] }),
   (196, fnO (inCls (top 17) 8) "Hall.chain_from" (Value.str (Str.ofString "pairhues.halls") 326) 195),
   (202, { cls := Value.type "code", data := Data.fields #[Value.str (Str.ofString "turn") 442, Value.str (Str.ofString "Hall.turn") 443, Value.str (Str.ofString "/claim/cut.py") 444, Value.int 86 0, Value.int 4 0, Value.int 0 0, Value.int 0 0, Value.int 3 0, Value.ref 197, Value.bool true, Value.int 181 0, Value.ref 198, Value.none, Value.ref 199, Value.ref 200, Value.ref 201, Value.int 450 0, Value.int 86 0, Value.str (Str.ofString "/claim/cut.py") 451] }),
   (203, fnO (inCls (top 17) 9) "Hall.turn" (Value.str (Str.ofString "pairhues.halls") 326) 202),
   (209, { cls := Value.type "code", data := Data.fields #[Value.str (Str.ofString "ways") 453, Value.str (Str.ofString "Hall.ways") 454, Value.str (Str.ofString "/claim/cut.py") 455, Value.int 90 0, Value.int 4 0, Value.int 0 0, Value.int 0 0, Value.int 3 0, Value.ref 204, Value.bool true, Value.int 181 0, Value.ref 205, Value.none, Value.ref 206, Value.ref 207, Value.ref 208, Value.int 464 0, Value.int 90 0, Value.str (Str.ofString "/claim/cut.py") 465] }),
   (210, fnO (inCls (top 17) 10) "Hall.ways" (Value.str (Str.ofString "pairhues.halls") 326) 209),
   (214, { cls := Value.type "code", data := Data.fields #[Value.str (Str.ofString "hued") 467, Value.str (Str.ofString "Hall.hued") 468, Value.str (Str.ofString "/claim/cut.py") 469, Value.int 100 0, Value.int 5 0, Value.int 0 0, Value.int 0 0, Value.int 3 0, Value.ref 211, Value.bool true, Value.int 181 0, Value.ref 212, Value.none, Value.none, Value.none, Value.ref 213, Value.int 470 0, Value.int 100 0, Value.str (Str.ofString "/claim/cut.py") 471] }),
   (215, fnO (inCls (top 17) 11) "Hall.hued" (Value.str (Str.ofString "pairhues.halls") 326) 214),
   (221, { cls := Value.type "code", data := Data.fields #[Value.str (Str.ofString "come") 473, Value.str (Str.ofString "Hall.come") 474, Value.str (Str.ofString "/claim/cut.py") 475, Value.int 111 0, Value.int 3 0, Value.int 0 0, Value.int 0 0, Value.int 3 0, Value.ref 216, Value.bool true, Value.int 181 0, Value.ref 217, Value.none, Value.ref 218, Value.ref 219, Value.ref 220, Value.int 480 0, Value.int 111 0, Value.str (Str.ofString "/claim/cut.py") 481] }),
   (222, fnO (inCls (top 17) 12) "Hall.come" (Value.str (Str.ofString "pairhues.halls") 326) 221),
   (228, { cls := Value.type "code", data := Data.fields #[Value.str (Str.ofString "need_pair") 483, Value.str (Str.ofString "Hall.need_pair") 484, Value.str (Str.ofString "/claim/cut.py") 485, Value.int 121 0, Value.int 2 0, Value.int 0 0, Value.int 0 0, Value.int 3 0, Value.ref 223, Value.bool true, Value.int 181 0, Value.ref 224, Value.none, Value.ref 225, Value.ref 226, Value.ref 227, Value.int 488 0, Value.int 121 0, Value.str (Str.ofString "/claim/cut.py") 489] }),
   (229, fnO (inCls (top 17) 13) "Hall.need_pair" (Value.str (Str.ofString "pairhues.halls") 326) 228),
   (235, { cls := Value.type "code", data := Data.fields #[Value.str (Str.ofString "go") 491, Value.str (Str.ofString "Hall.go") 492, Value.str (Str.ofString "/claim/cut.py") 493, Value.int 125 0, Value.int 2 0, Value.int 0 0, Value.int 0 0, Value.int 3 0, Value.ref 230, Value.bool true, Value.int 181 0, Value.ref 231, Value.none, Value.ref 232, Value.ref 233, Value.ref 234, Value.int 500 0, Value.int 125 0, Value.str (Str.ofString "/claim/cut.py") 501] }),
   (236, fnO (inCls (top 17) 14) "Hall.go" (Value.str (Str.ofString "pairhues.halls") 326) 235),
   (242, { cls := Value.type "code", data := Data.fields #[Value.str (Str.ofString "pairs") 503, Value.str (Str.ofString "Hall.pairs") 504, Value.str (Str.ofString "/claim/cut.py") 505, Value.int 137 0, Value.int 1 0, Value.int 0 0, Value.int 0 0, Value.int 3 0, Value.ref 237, Value.bool true, Value.int 181 0, Value.ref 238, Value.none, Value.ref 239, Value.ref 240, Value.ref 241, Value.int 512 0, Value.int 137 0, Value.str (Str.ofString "/claim/cut.py") 513] }),
   (243, fnO (inCls (top 17) 15) "Hall.pairs" (Value.str (Str.ofString "pairhues.halls") 326) 242),
   (249, { cls := Value.type "code", data := Data.fields #[Value.str (Str.ofString "hue_of") 515, Value.str (Str.ofString "Hall.hue_of") 516, Value.str (Str.ofString "/claim/cut.py") 517, Value.int 144 0, Value.int 2 0, Value.int 0 0, Value.int 0 0, Value.int 3 0, Value.ref 244, Value.bool true, Value.int 181 0, Value.ref 245, Value.none, Value.ref 246, Value.ref 247, Value.ref 248, Value.int 520 0, Value.int 144 0, Value.str (Str.ofString "/claim/cut.py") 521] }),
   (250, fnO (inCls (top 17) 16) "Hall.hue_of" (Value.str (Str.ofString "pairhues.halls") 326) 249),
   (256, { cls := Value.type "code", data := Data.fields #[Value.str (Str.ofString "is_hue") 523, Value.str (Str.ofString "Hall.is_hue") 524, Value.str (Str.ofString "/claim/cut.py") 525, Value.int 147 0, Value.int 2 0, Value.int 0 0, Value.int 0 0, Value.int 3 0, Value.ref 251, Value.bool true, Value.int 181 0, Value.ref 252, Value.none, Value.ref 253, Value.ref 254, Value.ref 255, Value.int 528 0, Value.int 147 0, Value.str (Str.ofString "/claim/cut.py") 529] }),
   (257, fnO (inCls (top 17) 17) "Hall.is_hue" (Value.str (Str.ofString "pairhues.halls") 326) 256),
   (261, { cls := Value.type "code", data := Data.fields #[Value.str (Str.ofString "of_hue") 531, Value.str (Str.ofString "Hall.of_hue") 532, Value.str (Str.ofString "/claim/cut.py") 533, Value.int 150 0, Value.int 2 0, Value.int 0 0, Value.int 0 0, Value.int 3 0, Value.ref 258, Value.bool true, Value.int 181 0, Value.ref 259, Value.none, Value.none, Value.none, Value.ref 260, Value.int 534 0, Value.int 150 0, Value.str (Str.ofString "/claim/cut.py") 535] }),
   (262, fnO (inCls (top 17) 18) "Hall.of_hue" (Value.str (Str.ofString "pairhues.halls") 326) 261),
   (268, { cls := Value.type "code", data := Data.fields #[Value.str (Str.ofString "free") 537, Value.str (Str.ofString "Hall.free") 538, Value.str (Str.ofString "/claim/cut.py") 539, Value.int 155 0, Value.int 3 0, Value.int 0 0, Value.int 0 0, Value.int 3 0, Value.ref 263, Value.bool true, Value.int 181 0, Value.ref 264, Value.none, Value.ref 265, Value.ref 266, Value.ref 267, Value.int 543 0, Value.int 155 0, Value.str (Str.ofString "/claim/cut.py") 544] }),
   (269, fnO (inCls (top 17) 19) "Hall.free" (Value.str (Str.ofString "pairhues.halls") 326) 268),
   (273, { cls := Value.type "code", data := Data.fields #[Value.str (Str.ofString "fullest") 546, Value.str (Str.ofString "Hall.fullest") 547, Value.str (Str.ofString "/claim/cut.py") 548, Value.int 159 0, Value.int 1 0, Value.int 0 0, Value.int 0 0, Value.int 3 0, Value.ref 270, Value.bool true, Value.int 181 0, Value.ref 271, Value.none, Value.none, Value.none, Value.ref 272, Value.int 549 0, Value.int 159 0, Value.str (Str.ofString "/claim/cut.py") 550] }),
   (274, fnO (inCls (top 17) 20) "Hall.fullest" (Value.str (Str.ofString "pairhues.halls") 326) 273),
   (280, { cls := Value.type "code", data := Data.fields #[Value.str (Str.ofString "chain") 552, Value.str (Str.ofString "Hall.chain") 553, Value.str (Str.ofString "/claim/cut.py") 554, Value.int 167 0, Value.int 5 0, Value.int 0 0, Value.int 0 0, Value.int 3 0, Value.ref 275, Value.bool true, Value.int 181 0, Value.ref 276, Value.none, Value.ref 277, Value.ref 278, Value.ref 279, Value.int 560 0, Value.int 167 0, Value.str (Str.ofString "/claim/cut.py") 561] }),
   (281, fnO (inCls (top 17) 21) "Hall.chain" (Value.str (Str.ofString "pairhues.halls") 326) 280),
   (283, { cls := Value.type "dict", data := Data.dict #[ent P "__module__" 357 (Value.str (Str.ofString "pairhues.halls") 326), ent P "__firstlineno__" 361 (Value.int 32 360), ent P "__init__" 371 (Value.ref 146), ent P "need_end" 380 (Value.ref 153), ent P "need_place" 389 (Value.ref 160), ent P "end_of" 398 (Value.ref 167), ent P "met" 404 (Value.ref 172), ent P "count" 410 (Value.ref 177), ent P "open_hues" 416 (Value.ref 182), ent P "with_hue" 427 (Value.ref 189), ent P "chain_from" 441 (Value.ref 196), ent P "turn" 452 (Value.ref 203), ent P "ways" 466 (Value.ref 210), ent P "hued" 472 (Value.ref 215), ent P "come" 482 (Value.ref 222), ent P "need_pair" 490 (Value.ref 229), ent P "go" 502 (Value.ref 236), ent P "pairs" 514 (Value.ref 243), ent P "hue_of" 522 (Value.ref 250), ent P "is_hue" 530 (Value.ref 257), ent P "of_hue" 536 (Value.ref 262), ent P "free" 545 (Value.ref 269), ent P "fullest" 551 (Value.ref 274), ent P "chain" 562 (Value.ref 281), ent P "__static_attributes__" 566 (Value.ref 282), ent P "__dict__" 568 (Value.ref 285), ent P "__weakref__" 570 (Value.ref 286), ent P "__doc__" 571 (Value.none)] 4 }),
   (284, { cls := Value.type "type", data := Data.cls { name := Str.ofString "Hall", bases := [Value.type "object"], mro := [Value.ref 284, Value.type "object"], ns := 283, qualname := Str.ofString "Hall" }, slots := #[none, none, some (Value.str (Str.ofString "Hall") 350), some (Value.str (Str.ofString "Hall") 358), some (Value.builtin "object.__new__"), some (Value.bool true)] }),
   (294, { cls := Value.type "code", data := Data.fields #[Value.str (Str.ofString "_law_cell_at") 576, Value.str (Str.ofString "_law_cell_at") 577, Value.str (Str.ofString "/claim/cut.py") 578, Value.int 175 0, Value.int 2 0, Value.int 0 0, Value.int 0 0, Value.int 3 0, Value.ref 289, Value.bool true, Value.int 181 0, Value.ref 290, Value.none, Value.ref 291, Value.ref 292, Value.ref 293, Value.int 581 0, Value.int 175 0, Value.str (Str.ofString "/claim/cut.py") 582] }),
   (295, fnO (top 19) "_law_cell_at" (Value.str (Str.ofString "law_uf040033_07") 574) 294),
   (301, { cls := Value.type "code", data := Data.fields #[Value.str (Str.ofString "_law_mixed") 584, Value.str (Str.ofString "_law_mixed") 585, Value.str (Str.ofString "/claim/cut.py") 586, Value.int 179 0, Value.int 2 0, Value.int 0 0, Value.int 0 0, Value.int 3 0, Value.ref 296, Value.bool true, Value.int 181 0, Value.ref 297, Value.none, Value.ref 298, Value.ref 299, Value.ref 300, Value.int 589 0, Value.int 179 0, Value.str (Str.ofString "/claim/cut.py") 590] }),
   (302, fnO (top 20) "_law_mixed" (Value.str (Str.ofString "law_uf040033_07") 574) 301),
   (315, { cls := Value.type "code", data := Data.fields #[Value.str (Str.ofString "_law_sizes_by") 599, Value.str (Str.ofString "_law_sizes_by") 600, Value.str (Str.ofString "/claim/cut.py") 601, Value.int 183 0, Value.int 1 0, Value.int 0 0, Value.int 0 0, Value.int 3 0, Value.ref 310, Value.bool true, Value.int 181 0, Value.ref 311, Value.none, Value.ref 312, Value.ref 313, Value.ref 314, Value.int 604 0, Value.int 183 0, Value.str (Str.ofString "/claim/cut.py") 605] }),
   (316, fnO (top 22) "_law_sizes_by" (Value.str (Str.ofString "law_uf040033_07") 574) 315),
   (320, { cls := Value.type "code", data := Data.fields #[Value.str (Str.ofString "_law_ends") 607, Value.str (Str.ofString "_law_ends") 608, Value.str (Str.ofString "/claim/cut.py") 609, Value.int 186 0, Value.int 3 0, Value.int 0 0, Value.int 0 0, Value.int 3 0, Value.ref 317, Value.bool true, Value.int 181 0, Value.ref 318, Value.none, Value.none, Value.none, Value.ref 319, Value.int 610 0, Value.int 186 0, Value.str (Str.ofString "/claim/cut.py") 611] }),
   (321, fnO (top 23) "_law_ends" (Value.str (Str.ofString "law_uf040033_07") 574) 320),
   (327, { cls := Value.type "code", data := Data.fields #[Value.str (Str.ofString "_law_deed") 613, Value.str (Str.ofString "_law_deed") 614, Value.str (Str.ofString "/claim/cut.py") 615, Value.int 194 0, Value.int 4 0, Value.int 0 0, Value.int 0 0, Value.int 3 0, Value.ref 322, Value.bool true, Value.int 181 0, Value.ref 323, Value.none, Value.ref 324, Value.ref 325, Value.ref 326, Value.int 620 0, Value.int 194 0, Value.str (Str.ofString "/claim/cut.py") 621] }),
   (328, fnO (top 24) "_law_deed" (Value.str (Str.ofString "law_uf040033_07") 574) 327),
   (332, { cls := Value.type "code", data := Data.fields #[Value.str (Str.ofString "_law_meets") 623, Value.str (Str.ofString "_law_meets") 624, Value.str (Str.ofString "/claim/cut.py") 625, Value.int 198 0, Value.int 2 0, Value.int 0 0, Value.int 0 0, Value.int 3 0, Value.ref 329, Value.bool true, Value.int 181 0, Value.ref 330, Value.none, Value.none, Value.none, Value.ref 331, Value.int 626 0, Value.int 198 0, Value.str (Str.ofString "/claim/cut.py") 627] }),
   (333, fnO (top 25) "_law_meets" (Value.str (Str.ofString "law_uf040033_07") 574) 332),
   (337, { cls := Value.type "code", data := Data.fields #[Value.str (Str.ofString "_law_alive") 629, Value.str (Str.ofString "_law_alive") 630, Value.str (Str.ofString "/claim/cut.py") 631, Value.int 206 0, Value.int 1 0, Value.int 0 0, Value.int 0 0, Value.int 3 0, Value.ref 334, Value.bool true, Value.int 181 0, Value.ref 335, Value.none, Value.none, Value.none, Value.ref 336, Value.int 632 0, Value.int 206 0, Value.str (Str.ofString "/claim/cut.py") 633] }),
   (338, fnO (top 26) "_law_alive" (Value.str (Str.ofString "law_uf040033_07") 574) 337),
   (344, { cls := Value.type "code", data := Data.fields #[Value.str (Str.ofString "law") 635, Value.str (Str.ofString "law") 636, Value.str (Str.ofString "/claim/cut.py") 637, Value.int 209 0, Value.int 1 0, Value.int 0 0, Value.int 0 0, Value.int 3 0, Value.ref 339, Value.bool true, Value.int 181 0, Value.ref 340, Value.none, Value.ref 341, Value.ref 342, Value.ref 343, Value.int 649 0, Value.int 209 0, Value.str (Str.ofString "/claim/cut.py") 650] }),
   (345, fnO (top 27) "law" (Value.str (Str.ofString "law_uf040033_07") 574) 344)]
theorem KK_as (P : Params) : [2, 3, 124, 125, 131, 132, 145, 146, 152, 153, 159, 160, 166, 167, 171, 172, 176, 177, 181, 182, 188, 189, 195, 196, 202, 203, 209, 210, 214, 215, 221, 222, 228, 229, 235, 236, 242, 243, 249, 250, 256, 257, 261, 262, 268, 269, 273, 274, 280, 281, 283, 284, 294, 295, 301, 302, 315, 316, 320, 321, 327, 328, 332, 333, 337, 338, 344, 345] = (KK P).map (·.1) := rfl
noncomputable def HKK : Hook := kHook KK _ KK_as
/-- the statements that the head looks at -/
noncomputable def qq : Program := view PySem.Challenge.pw_uf040033_07 [27]
noncomputable def LL : List Str := [Str.ofString "_wall", Str.ofString "__name__", Str.ofString "PairError", Str.ofString "BadCount", Str.ofString "BadSide", Str.ofString "BadEnd", Str.ofString "TooMany", Str.ofString "NoPair", Str.ofString "BadHue", Str.ofString "NotFree", Str.ofString "MOST_ENDS", Str.ofString "MOST_PAIRS", Str.ofString "LEFT", Str.ofString "RIGHT", Str.ofString "is_number", Str.ofString "other_side", Str.ofString "Hall", Str.ofString "_law_cell_at", Str.ofString "_law_mixed", Str.ofString "_law_whole", Str.ofString "_law_sizes_by", Str.ofString "_law_ends", Str.ofString "_law_deed", Str.ofString "_law_meets", Str.ofString "_law_alive"]
theorem shared_of {s : Shared} {h : Heap} {gs : Array GenState} {d : Drawn} {k : Nat} (e : (s.heap, s.gens, s.drawn, s.toks) = (h, gs, d, k)) : s = ⟨h, gs, d, k, s.os⟩ := by cases s; cases e; rfl
theorem left_o (w : World) (os : OsState) : (topFrom treeTable PySem.Challenge.pw_uf040033_07 w 8000 ⟨boot_heap w.params, Array.mk [], boot_drawn, boot_toks, os⟩).map (fun s => (openSeen qq LL (importedModules PySem.Challenge.pw_uf040033_07.main.body) (fun s => xlAt qq [] s && recOk [] s) true s, Hook.obs HKK s)) = some (openGood qq LL, Hook.val HKK w) := by unfold topFrom; rw [PySem.W.Fast.te14082659384304107361, PySem.W.Fast.te4187177175401517315, PySem.W.Fast.te14364793385576792824]; kernel_rfl
theorem left : LeftO PySem.Challenge.pw_uf040033_07 qq LL (fun s => xlAt qq [] s && recOk [] s) (Hook.obs HKK) (Hook.val HKK) 8000 := fun w => by
  obtain ⟨s, e, v⟩ := Option.map_eq_some_iff.mp (boot_open (p := PySem.Challenge.pw_uf040033_07) (N := 8000) (by kernel_rfl) (by kernel_rfl) (fun _ => by kernel_rfl) w)
  have q := left_o w s.os
  rw [← shared_of v] at q
  unfold openEnds
  rw [e]
  exact q
theorem said : PySem.Challenge.rw_uf040033_07.wellSaid = true := by kernel_rfl
end
section
open PySem PySem.W PyProof.Rows
variable {g : Gr} {P : Params}
noncomputable abbrev CC : Addr := 284
structure NN (g : Gr) : Prop where
  n_isinstance : Known g "isinstance" (.builtin "isinstance")
  n_int : Known g "int" (.type "int")
  n_bool : Known g "bool" (.type "bool")
  n_len : Known g "len" (.builtin "len")
  n_max : Known g "max" (.builtin "max")
  n_min : Known g "min" (.builtin "min")
  n_range : Known g "range" (.type "range")
  n_sorted : Known g "sorted" (.builtin "sorted")
  n_list : Known g "list" (.type "list")
  n_dict : Known g "dict" (.type "dict")
  n_set : Known g "set" (.type "set")
  n_LEFT : Known g "LEFT" (.str (Str.ofString "left") 332)
  n_RIGHT : Known g "RIGHT" (.str (Str.ofString "right") 334)
  n_MOST_ENDS : Known g "MOST_ENDS" (.int 8 328)
  n_MOST_PAIRS : Known g "MOST_PAIRS" (.int 40 330)
  n_Hall : Known g "Hall" (.ref CC)
theorem hC : ClsOk (KK P) CC := ⟨by kernel_rfl, by kernel_rfl, by kernel_rfl, by kernel_rfl⟩
theorem kp_Hall : keepIn (KK P) (.ref CC) = true := by kernel_rfl
structure ClsFacts (K : Frag) : Prop where
  a_rows : findIn K (.ref CC) (Str.ofString "rows") = some none
  a_sizes : findIn K (.ref CC) (Str.ofString "sizes") = some none
  a_next_number : findIn K (.ref CC) (Str.ofString "next_number") = some none
  t_rows : takerIn K CC (Str.ofString "rows") = some none
  t_sizes : takerIn K CC (Str.ofString "sizes") = some none
  t_next_number : takerIn K CC (Str.ofString "next_number") = some none
theorem CF : ClsFacts (KK P) := ⟨by kernel_rfl, by kernel_rfl, by kernel_rfl, by kernel_rfl, by kernel_rfl, by kernel_rfl⟩
theorem fnM {n : String} {f : Addr} {r : Nat} {t : TF} (h1 : findIn (KK P) (.ref CC) (Str.ofString n) = some (some (.ref f))) (h2 : isFn (KK P) (.ref f) = true) (h3 : keepIn (KK P) (.ref f) = true) (h : SndC g r (.ref f) t) : FnM g (KK P) CC n r t := ⟨f, h1, h2, h3, h.toF⟩
/-! ## what the small ones do -/
noncomputable def sIsNumber : TF := fun xs σ Q _ => ∃ i, xs = [.int i] ∧ Q (.bool true) σ
noncomputable def sOther : TF := fun xs σ Q _ => ∃ s, xs = [.str (sideS s)] ∧ Q (.str (sideS (!s))) σ
noncomputable def sEndOf : TF := fun xs σ Q _ => ∃ x D s t, xs = [.ref x, .int t.1.n, .str (sideS s)] ∧ HallAt σ CC x D ∧ Inc D.S ∧ t ∈ D.T ∧ Q (.int (t.1.e s)) σ
theorem f_is_number (hK : (KK P).In g.b0) (N : NN g) : SndC g 2 (.ref 125) sIsNumber := by
  refine SndC.mono (sndC_def (r := 1) (ps := ["thing"]) (hK 125 _ rfl) rfl (CodeRec.mk' (hK 124 _ rfl) rfl rfl) rfl (by intro vs h; obtain ⟨a0, rfl⟩ := len1 h; rfl) rfl rfl rfl (by decide +kernel)
    (sndSs_cons (sndS_return (sndE_boolop (sndV_and (sndE_isinstance (at_ (i := 1) rfl) (N.n_isinstance) (at_ (i := 2) rfl) (N.n_int) (sndE_name (.head _) rfl) rfl) (sndV_one (sndE_not (sndE_isinstance (at_ (i := 1) rfl) (N.n_isinstance) (at_ (i := 3) rfl) (N.n_bool) (sndE_name (.head _) rfl) rfl))))))
  sndSs_nil)) ?_
  rintro xs σ Q E ⟨i, rfl, h⟩
  refine tFun_k rfl fun K KE kret _ _ => ?_
  simp only [Loc.setAll]
  refine tSeq_k fun K1 k1 r1 _ _ => ?_
  simp only [tNop, tRet, tFlow, tDo, tIfS, tAssign, tAssignT, tAssignComp, tFor, tIter, walkV, tRange1, tEnum, tMethod, typeV, tAppend, tCount, tCall, tLen, lenV, tMax, tMin, tListOf, tIsI, isiV, tListComp, tComp, tList, tTuple, tNil, tCons, tConst, tName, tTruth, truthV, tNotB, tAndB, tOrB, tConstB, tCmp, tCmpB, tCmp2B, cmpV, tBin, binV, tNot, tNeg, tIf, tAnd, tOr, tItem, tSlice, sliceV, boundV, Loc.setAll, Loc.set, Loc.empty, Loc.bare, bindV, String.reduceEq, reduceIte, List.length_cons, List.length_nil, tAttr, tMethI, tSetItem, tCmp2, tSetAttr, tDict0, tDict2, sIsNumber, tListRange, tNeDict0, tValues, tLenSet, tMulList, tSliceR, tNew]
  exact r1 _ _ _ (kret _ _ _ _ Sub.refl h)
theorem f_other_side (hK : (KK P).In g.b0) (N : NN g) : SndC g 2 (.ref 132) sOther := by
  refine SndC.mono (sndC_def (r := 1) (ps := ["side"]) (hK 132 _ rfl) rfl (CodeRec.mk' (hK 131 _ rfl) rfl rfl) rfl (by intro vs h; obtain ⟨a0, rfl⟩ := len1 h; rfl) rfl rfl rfl (by decide +kernel)
    (sndSs_cons (sndS_if (sndB_cmp (sndE_name (.head _) rfl) (sndE_global (at_ (i := 1) rfl) (N.n_LEFT) (fun _ => VR_str.mpr ⟨fitsS (by decide), _, rfl⟩)) rfl) (sndSs_cons (sndS_return (sndE_global (at_ (i := 2) rfl) (N.n_RIGHT) (fun _ => VR_str.mpr ⟨fitsS (by decide), _, rfl⟩)))
  sndSs_nil) sndSs_nil)
  (sndSs_cons (sndS_return (sndE_global (at_ (i := 1) rfl) (N.n_LEFT) (fun _ => VR_str.mpr ⟨fitsS (by decide), _, rfl⟩)))
  sndSs_nil))) ?_
  rintro xs σ Q E ⟨s, rfl, h⟩
  refine tFun_k rfl fun K KE kret _ _ => ?_
  simp only [Loc.setAll]
  refine tSeq_k fun K1 k1 r1 _ _ => ?_
  simp only [tNop, tRet, tFlow, tDo, tIfS, tAssign, tAssignT, tAssignComp, tFor, tIter, walkV, tRange1, tEnum, tMethod, typeV, tAppend, tCount, tCall, tLen, lenV, tMax, tMin, tListOf, tIsI, isiV, tListComp, tComp, tList, tTuple, tNil, tCons, tConst, tName, tTruth, truthV, tNotB, tAndB, tOrB, tConstB, tCmp, tCmpB, tCmp2B, cmpV, tBin, binV, tNot, tNeg, tIf, tAnd, tOr, tItem, tSlice, sliceV, boundV, Loc.setAll, Loc.set, Loc.empty, Loc.bare, bindV, String.reduceEq, reduceIte, List.length_cons, List.length_nil, tAttr, tMethI, tSetItem, tCmp2, tSetAttr, tDict0, tDict2, sIsNumber, tListRange, tNeDict0, tValues, tLenSet, tMulList, tSliceR, tNew]
  refine eqD_str (sideS_ok s) left_ok ?_
  rw [sideS_left]
  cases s with
  | false =>
    simp only [Bool.not_false]
    refine tSeq_k fun K2 k2 r2 _ _ => ?_
    simp only [tNop, tRet, tFlow, tDo, tIfS, tAssign, tAssignT, tAssignComp, tFor, tIter, walkV, tRange1, tEnum, tMethod, typeV, tAppend, tCount, tCall, tLen, lenV, tMax, tMin, tListOf, tIsI, isiV, tListComp, tComp, tList, tTuple, tNil, tCons, tConst, tName, tTruth, truthV, tNotB, tAndB, tOrB, tConstB, tCmp, tCmpB, tCmp2B, cmpV, tBin, binV, tNot, tNeg, tIf, tAnd, tOr, tItem, tSlice, sliceV, boundV, Loc.setAll, Loc.set, Loc.empty, Loc.bare, bindV, String.reduceEq, reduceIte, List.length_cons, List.length_nil, tAttr, tMethI, tSetItem, tCmp2, tSetAttr, tDict0, tDict2, sIsNumber, tListRange, tNeDict0, tValues, tLenSet, tMulList, tSliceR, tNew]
    exact r2 _ _ _ (r1 _ _ _ (kret _ _ _ _ Sub.refl h))
  | true =>
    simp only [Bool.not_true]
    refine k1 _ _ ?_
    refine tSeq_k fun K2 k2 r2 _ _ => ?_
    simp only [tNop, tRet, tFlow, tDo, tIfS, tAssign, tAssignT, tAssignComp, tFor, tIter, walkV, tRange1, tEnum, tMethod, typeV, tAppend, tCount, tCall, tLen, lenV, tMax, tMin, tListOf, tIsI, isiV, tListComp, tComp, tList, tTuple, tNil, tCons, tConst, tName, tTruth, truthV, tNotB, tAndB, tOrB, tConstB, tCmp, tCmpB, tCmp2B, cmpV, tBin, binV, tNot, tNeg, tIf, tAnd, tOr, tItem, tSlice, sliceV, boundV, Loc.setAll, Loc.set, Loc.empty, Loc.bare, bindV, String.reduceEq, reduceIte, List.length_cons, List.length_nil, tAttr, tMethI, tSetItem, tCmp2, tSetAttr, tDict0, tDict2, sIsNumber, tListRange, tNeDict0, tValues, tLenSet, tMulList, tSliceR, tNew]
    exact r2 _ _ _ (kret _ _ _ _ Sub.refl h)
theorem f_end_of (hK : (KK P).In g.b0) (N : NN g) : SndC g 2 (.ref 167) sEndOf := by
  refine SndC.mono (sndC_def (r := 1) (ps := ["self", "number", "side"]) (hK 167 _ rfl) rfl (CodeRec.mk' (hK 166 _ rfl) rfl rfl) rfl (by intro vs h; obtain ⟨a0, a1, a2, rfl⟩ := len3 h; rfl) rfl rfl rfl (by decide +kernel)
    (sndSs_cons (sndS_if (sndB_cmp (sndE_name (at_ (i := 2) rfl) rfl) (sndE_global (at_ (i := 3) rfl) (N.n_LEFT) (fun _ => VR_str.mpr ⟨fitsS (by decide), _, rfl⟩)) rfl) (sndSs_cons (sndS_return (sndE_item (sndE_item (sndE_attr hK hC CF.a_rows rfl rfl (sndE_name (.head _) rfl)) (sndE_name (at_ (i := 1) rfl) rfl) (fun _ _ => rfl)) sndE_int (fun _ _ => rfl)))
  sndSs_nil) sndSs_nil)
  (sndSs_cons (sndS_return (sndE_item (sndE_item (sndE_attr hK hC CF.a_rows rfl rfl (sndE_name (.head _) rfl)) (sndE_name (at_ (i := 1) rfl) rfl) (fun _ _ => rfl)) sndE_int (fun _ _ => rfl)))
  sndSs_nil))) ?_
  rintro xs σ Q E ⟨x, D, s, t, rfl, H, hi, ht, h⟩
  refine tFun_k rfl fun K KE kret _ _ => ?_
  simp only [Loc.setAll]
  refine tSeq_k fun K1 k1 r1 _ _ => ?_
  simp only [tNop, tRet, tFlow, tDo, tIfS, tAssign, tAssignT, tAssignComp, tFor, tIter, walkV, tRange1, tEnum, tMethod, typeV, tAppend, tCount, tCall, tLen, lenV, tMax, tMin, tListOf, tIsI, isiV, tListComp, tComp, tList, tTuple, tNil, tCons, tConst, tName, tTruth, truthV, tNotB, tAndB, tOrB, tConstB, tCmp, tCmpB, tCmp2B, cmpV, tBin, binV, tNot, tNeg, tIf, tAnd, tOr, tItem, tSlice, sliceV, boundV, Loc.setAll, Loc.set, Loc.empty, Loc.bare, bindV, String.reduceEq, reduceIte, List.length_cons, List.length_nil, tAttr, tMethI, tSetItem, tCmp2, tSetAttr, tDict0, tDict2, sIsNumber, tListRange, tNeDict0, tValues, tLenSet, tMulList, tSliceR, tNew]
  refine eqD_str (sideS_ok s) left_ok ?_
  rw [sideS_left]
  cases s with
  | false =>
    simp only [Bool.not_false]
    refine tSeq_k fun K2 k2 r2 _ _ => ?_
    simp only [tNop, tRet, tFlow, tDo, tIfS, tAssign, tAssignT, tAssignComp, tFor, tIter, walkV, tRange1, tEnum, tMethod, typeV, tAppend, tCount, tCall, tLen, lenV, tMax, tMin, tListOf, tIsI, isiV, tListComp, tComp, tList, tTuple, tNil, tCons, tConst, tName, tTruth, truthV, tNotB, tAndB, tOrB, tConstB, tCmp, tCmpB, tCmp2B, cmpV, tBin, binV, tNot, tNeg, tIf, tAnd, tOr, tItem, tSlice, sliceV, boundV, Loc.setAll, Loc.set, Loc.empty, Loc.bare, bindV, String.reduceEq, reduceIte, List.length_cons, List.length_nil, tAttr, tMethI, tSetItem, tCmp2, tSetAttr, tDict0, tDict2, sIsNumber, tListRange, tNeDict0, tValues, tLenSet, tMulList, tSliceR, tNew]
    simp only [H.rowsA]
    exact H.item hi ht (H.item0 ht (r2 _ _ _ (r1 _ _ _ (kret _ _ _ _ Sub.refl h))))
  | true =>
    simp only [Bool.not_true]
    refine k1 _ _ ?_
    refine tSeq_k fun K2 k2 r2 _ _ => ?_
    simp only [tNop, tRet, tFlow, tDo, tIfS, tAssign, tAssignT, tAssignComp, tFor, tIter, walkV, tRange1, tEnum, tMethod, typeV, tAppend, tCount, tCall, tLen, lenV, tMax, tMin, tListOf, tIsI, isiV, tListComp, tComp, tList, tTuple, tNil, tCons, tConst, tName, tTruth, truthV, tNotB, tAndB, tOrB, tConstB, tCmp, tCmpB, tCmp2B, cmpV, tBin, binV, tNot, tNeg, tIf, tAnd, tOr, tItem, tSlice, sliceV, boundV, Loc.setAll, Loc.set, Loc.empty, Loc.bare, bindV, String.reduceEq, reduceIte, List.length_cons, List.length_nil, tAttr, tMethI, tSetItem, tCmp2, tSetAttr, tDict0, tDict2, sIsNumber, tListRange, tNeDict0, tValues, tLenSet, tMulList, tSliceR, tNew]
    simp only [H.rowsA]
    exact H.item hi ht (H.item1 ht (r2 _ _ _ (kret _ _ _ _ Sub.refl h)))
end
section
open PySem PySem.W PyProof.Rows
variable {g : Gr} {P : Params}
theorem f_met (hK : (KK P).In g.b0) (N : NN g) (M_end_of : FnM g (KK P) CC "end_of" 2 sEndOf) : SndC g 3 (.ref 172) (sMet CC) := by
  refine SndC.mono (sndC_def (r := 2) (ps := ["self", "side", "end"]) (hK 172 _ rfl) rfl (CodeRec.mk' (hK 171 _ rfl) rfl rfl) rfl (by intro vs h; obtain ⟨a0, a1, a2, rfl⟩ := len3 h; rfl) rfl rfl rfl (by decide +kernel)
    (sndSs_cons (sndS_return (sndE_comp (by decide +kernel) (sndI_value (sndE_call (at_ (i := 3) rfl) (fn_builtin N.n_sorted sndF_sorted) (sndL_cons (sndE_attr hK hC CF.a_rows rfl rfl (sndE_name (.head _) rfl)) sndL_nil) rfl)) (.name (at_ (i := 1) rfl) rfl) (by decide +kernel) (sndT_one (sndB_cmp (sndE_methI hK hC M_end_of (sndE_name (at_ (i := 3) rfl) rfl) (sndL_cons (sndE_name (at_ (i := 1) rfl) rfl) (sndL_cons (sndE_name (at_ (i := 4) rfl) rfl) sndL_nil)) rfl rfl rfl rfl) (sndE_name (at_ (i := 2) rfl) rfl) rfl)) (sndE_name (at_ (i := 1) rfl) rfl) (fun _ _ => rfl)))
  sndSs_nil)) ?_
  rintro xs σ Q E ⟨x, D, s, e, rfl, H, hi, h64, h⟩
  refine tFun_k rfl fun K KE kret _ _ => ?_
  simp only [Loc.setAll]
  refine tSeq_k fun K1 k1 r1 _ _ => ?_
  simp only [tNop, tRet, tFlow, tDo, tIfS, tAssign, tAssignT, tAssignComp, tFor, tIter, walkV, tRange1, tEnum, tMethod, typeV, tAppend, tCount, tCall, tLen, lenV, tMax, tMin, tListOf, tIsI, isiV, tListComp, tComp, tList, tTuple, tNil, tCons, tConst, tName, tTruth, truthV, tNotB, tAndB, tOrB, tConstB, tCmp, tCmpB, tCmp2B, cmpV, tBin, binV, tNot, tNeg, tIf, tAnd, tOr, tItem, tSlice, sliceV, boundV, Loc.setAll, Loc.set, Loc.empty, Loc.bare, bindV, String.reduceEq, reduceIte, List.length_cons, List.length_nil, tAttr, tMethI, tSetItem, tCmp2, tSetAttr, tDict0, tDict2, sIsNumber, tListRange, tNeDict0, tValues, tLenSet, tMulList, tSliceR, tNew]
  simp only [H.rowsA]
  refine tSorted_rows H hi h64 fun b hb => ?_
  simp only [AH.set_same]
  have s1 : Sub σ (σ.set b (.list (D.T.map fun t => V.int t.1.n))) := Sub.refl.new hb
  refine ⟨nofun, compT_growS (fun t : Rw × Addr => V.int t.1.n) (fun t => t.1.e s == e) (fun t => V.int t.1.n) D.T (fun σ' hs => hs _ _ AH.set_same) (fun t ht σ' hs => ⟨_, fun P h => h, fun Qb hQ => ?_, fun _ σ'' hs'' Qv hQ => ?_⟩) fun σ' hs => ?_⟩
  · have H' := H.sub (s1.trans hs)
    simp only [tNop, tRet, tFlow, tDo, tIfS, tAssign, tAssignT, tAssignComp, tFor, tIter, walkV, tRange1, tEnum, tMethod, typeV, tAppend, tCount, tCall, tLen, lenV, tMax, tMin, tListOf, tIsI, isiV, tListComp, tComp, tList, tTuple, tNil, tCons, tConst, tName, tTruth, truthV, tNotB, tAndB, tOrB, tConstB, tCmp, tCmpB, tCmp2B, cmpV, tBin, binV, tNot, tNeg, tIf, tAnd, tOr, tItem, tSlice, sliceV, boundV, Loc.setAll, Loc.set, Loc.empty, Loc.bare, bindV, String.reduceEq, reduceIte, List.length_cons, List.length_nil, tAttr, tMethI, tSetItem, tCmp2, tSetAttr, tDict0, tDict2, sIsNumber, tListRange, tNeDict0, tValues, tLenSet, tMulList, tSliceR, tNew]
    refine ⟨H'.instOf (by decide +kernel), x, D, s, t, rfl, H', hi, ht, ?_⟩
    simp only [eqD]
    exact hQ _ Sub.refl
  · simp only [tNop, tRet, tFlow, tDo, tIfS, tAssign, tAssignT, tAssignComp, tFor, tIter, walkV, tRange1, tEnum, tMethod, typeV, tAppend, tCount, tCall, tLen, lenV, tMax, tMin, tListOf, tIsI, isiV, tListComp, tComp, tList, tTuple, tNil, tCons, tConst, tName, tTruth, truthV, tNotB, tAndB, tOrB, tConstB, tCmp, tCmpB, tCmp2B, cmpV, tBin, binV, tNot, tNeg, tIf, tAnd, tOr, tItem, tSlice, sliceV, boundV, Loc.setAll, Loc.set, Loc.empty, Loc.bare, bindV, String.reduceEq, reduceIte, List.length_cons, List.length_nil, tAttr, tMethI, tSetItem, tCmp2, tSetAttr, tDict0, tDict2, sIsNumber, tListRange, tNeDict0, tValues, tLenSet, tMulList, tSliceR, tNew]
    exact hQ _ Sub.refl
  · intro d hd
    have s2 : Sub σ σ' := s1.trans hs
    exact r1 _ _ _ (kret _ _ _ (σ.set d (.list ((metT D.T s e).map fun t => V.int t.1.n))) (sub_set s2) (h d (s2.none hd)))
theorem f_count (hK : (KK P).In g.b0) (N : NN g) (M_met : FnM g (KK P) CC "met" 3 (sMet CC)) : SndC g 4 (.ref 177) (sCount CC) := by
  refine SndC.mono (sndC_def (r := 3) (ps := ["self"]) (hK 177 _ rfl) rfl (CodeRec.mk' (hK 176 _ rfl) rfl rfl) rfl (by intro vs h; obtain ⟨a0, rfl⟩ := len1 h; rfl) rfl rfl rfl (by decide +kernel)
    (sndSs_cons (sndS_assign (at_ (i := 1) rfl) rfl (sndE_list (sndL_cons sndE_int sndL_nil)) (fun _ => rfl))
  (sndSs_cons (sndS_for (sndI_value (sndE_tuple (sndL_cons (sndE_global (at_ (i := 3) rfl) (N.n_LEFT) (fun _ => VR_str.mpr ⟨fitsS (by decide), _, rfl⟩)) (sndL_cons (sndE_global (at_ (i := 4) rfl) (N.n_RIGHT) (fun _ => VR_str.mpr ⟨fitsS (by decide), _, rfl⟩)) sndL_nil)))) (.name (at_ (i := 2) rfl) rfl) (sndSs_cons (sndS_assign (at_ (i := 1) rfl) rfl (sndE_bin (sndE_name (at_ (i := 1) rfl) rfl) (sndE_comp (by decide +kernel) (sndI_range1 (at_ (i := 5) rfl) (N.n_range) (sndE_item (sndE_attr hK hC CF.a_sizes rfl rfl (sndE_name (.head _) rfl)) (sndE_name (at_ (i := 2) rfl) rfl) (fun _ _ => rfl)) rfl) (.name (at_ (i := 1) rfl) rfl) (by decide +kernel) sndT_nil (sndE_call (at_ (i := 2) rfl) (fn_builtin N.n_len sndF_len) (sndL_cons (sndE_methI hK hC M_met (sndE_name (at_ (i := 3) rfl) rfl) (sndL_cons (sndE_name (at_ (i := 4) rfl) rfl) (sndL_cons (sndE_name (at_ (i := 1) rfl) rfl) sndL_nil)) rfl rfl rfl rfl) sndL_nil) rfl) (fun _ _ => rfl))) (fun _ => rfl))
  sndSs_nil) (fun _ _ => rfl))
  (sndSs_cons (sndS_return (sndE_call (at_ (i := 6) rfl) (fn_builtin N.n_max sndF_max) (sndL_cons (sndE_name (at_ (i := 1) rfl) rfl) sndL_nil) rfl))
  sndSs_nil)))) ?_
  rintro xs σ Q E ⟨x, D, rfl, H, hi, h64, ha0, ha1, hb0, hb1, h⟩
  refine tFun_k rfl fun K KE kret _ _ => ?_
  simp only [Loc.setAll]
  refine tSeq_k fun K1 k1 r1 _ _ => ?_
  simp only [tNop, tRet, tFlow, tDo, tIfS, tAssign, tAssignT, tAssignComp, tFor, tIter, walkV, tRange1, tEnum, tMethod, typeV, tAppend, tCount, tCall, tLen, lenV, tMax, tMin, tListOf, tIsI, isiV, tListComp, tComp, tList, tTuple, tNil, tCons, tConst, tName, tTruth, truthV, tNotB, tAndB, tOrB, tConstB, tCmp, tCmpB, tCmp2B, cmpV, tBin, binV, tNot, tNeg, tIf, tAnd, tOr, tItem, tSlice, sliceV, boundV, Loc.setAll, Loc.set, Loc.empty, Loc.bare, bindV, String.reduceEq, reduceIte, List.length_cons, List.length_nil, tAttr, tMethI, tSetItem, tCmp2, tSetAttr, tDict0, tDict2, sIsNumber, tListRange, tNeDict0, tValues, tLenSet, tMulList, tSliceR, tNew]
  refine ⟨by simp [Fits], fun b0 hb0' => k1 _ _ ?_⟩
  have s1 : Sub σ (σ.set b0 (.list [V.int 0])) := Sub.refl.new hb0'
  refine tSeq_k fun K1 k1 r1 _ _ => ?_
  simp only [tNop, tRet, tFlow, tDo, tIfS, tAssign, tAssignT, tAssignComp, tFor, tIter, walkV, tRange1, tEnum, tMethod, typeV, tAppend, tCount, tCall, tLen, lenV, tMax, tMin, tListOf, tIsI, isiV, tListComp, tComp, tList, tTuple, tNil, tCons, tConst, tName, tTruth, truthV, tNotB, tAndB, tOrB, tConstB, tCmp, tCmpB, tCmp2B, cmpV, tBin, binV, tNot, tNeg, tIf, tAnd, tOr, tItem, tSlice, sliceV, boundV, Loc.setAll, Loc.set, Loc.empty, Loc.bare, bindV, String.reduceEq, reduceIte, List.length_cons, List.length_nil, tAttr, tMethI, tSetItem, tCmp2, tSetAttr, tDict0, tDict2, sIsNumber, tListRange, tNeDict0, tValues, tLenSet, tMulList, tSliceR, tNew]
  refine ⟨by simp [Fits], nofun, ?_⟩
  refine loopT_k (fun xs ℓ σ' => ∃ (done rest : List Bool) (b : Addr), xs = rest.map (fun s => V.str (sideS s)) ∧ done ++ rest = [false, true] ∧ ℓ "self" = some (.ref x) ∧ ℓ "sizes" = some (.ref b) ∧ σ' b = some (.list (((0 : Int) :: cntL D.S D.a D.b done).map V.int)) ∧ Sub σ σ') ?_ ?_
    ⟨[], [false, true], b0, rfl, rfl, rfl, rfl, AH.set_same, s1⟩
  · rintro ℓ σ' ⟨done, rest, b, h1, h2, h3, h4, h5, h6⟩
    have hr : rest = [] := by cases rest with | nil => rfl | cons _ _ => simp at h1
    subst hr
    rw [List.append_nil] at h2
    subst h2
    refine ⟨trivial, k1 _ _ ?_⟩
    refine tSeq_k fun K2 k2 r2 _ _ => ?_
    simp only [tNop, tRet, tFlow, tDo, tIfS, tAssign, tAssignT, tAssignComp, tFor, tIter, walkV, tRange1, tEnum, tMethod, typeV, tAppend, tCount, tCall, tLen, lenV, tMax, tMin, tListOf, tIsI, isiV, tListComp, tComp, tList, tTuple, tNil, tCons, tConst, tName, tTruth, truthV, tNotB, tAndB, tOrB, tConstB, tCmp, tCmpB, tCmp2B, cmpV, tBin, binV, tNot, tNeg, tIf, tAnd, tOr, tItem, tSlice, sliceV, boundV, Loc.setAll, Loc.set, Loc.empty, Loc.bare, bindV, String.reduceEq, reduceIte, List.length_cons, List.length_nil, tAttr, tMethI, tSetItem, tCmp2, tSetAttr, tDict0, tDict2, sIsNumber, tListRange, tNeDict0, tValues, tLenSet, tMulList, tSliceR, tNew]
    simp only [h4, listInts, h5, intsV_map]
    refine ⟨by simp, fun m hm1 hm2 => ?_⟩
    obtain ⟨k, rfl, hk⟩ := isCnt_of hm1 hm2
    exact r2 _ _ _ (kret _ _ _ _ h6 (h k hk))
  · rintro v xs ℓ σ' K2 k2 r2 _ _ ⟨done, rest, b, h1, h2, h3, h4, h5, h6⟩
    obtain ⟨s, rest, rfl⟩ : ∃ s r, rest = s :: r := by cases rest with | nil => simp at h1 | cons s r => exact ⟨s, r, rfl⟩
    simp only [List.map_cons, List.cons.injEq] at h1
    obtain ⟨rfl, rfl⟩ := h1
    refine ⟨trivial, ?_⟩
    simp only [bindV]
    refine tSeq_k fun K3 k3 r3 _ _ => ?_
    simp only [tNop, tRet, tFlow, tDo, tIfS, tAssign, tAssignT, tAssignComp, tFor, tIter, walkV, tRange1, tEnum, tMethod, typeV, tAppend, tCount, tCall, tLen, lenV, tMax, tMin, tListOf, tIsI, isiV, tListComp, tComp, tList, tTuple, tNil, tCons, tConst, tName, tTruth, truthV, tNotB, tAndB, tOrB, tConstB, tCmp, tCmpB, tCmp2B, cmpV, tBin, binV, tNot, tNeg, tIf, tAnd, tOr, tItem, tSlice, sliceV, boundV, Loc.setAll, Loc.set, Loc.empty, Loc.bare, bindV, String.reduceEq, reduceIte, List.length_cons, List.length_nil, tAttr, tMethI, tSetItem, tCmp2, tSetAttr, tDict0, tDict2, sIsNumber, tListRange, tNeDict0, tValues, tLenSet, tMulList, tSliceR, tNew]
    have H' := H.sub h6
    simp only [h3, h4, H'.sizesA]
    have hsz : 0 ≤ szOf D.a D.b s ∧ szOf D.a D.b s ≤ 1000 := by cases s <;> simp [szOf] <;> omega
    refine H'.size s ⟨hsz.1, by unfold Fits; omega, nofun, ?_⟩
    rw [rangeV_rng]
    refine compT_growE V.int (fun e => V.int (deg D.S s e : Int)) (rngI (szOf D.a D.b s).toNat) (fun _ _ => trivial) (fun e he => ⟨_, fun _ _ P h => h, fun σ2 s2 Qv hQ => ?_⟩) fun σ2 s2 d hd => ?_
    · simp only [tNop, tRet, tFlow, tDo, tIfS, tAssign, tAssignT, tAssignComp, tFor, tIter, walkV, tRange1, tEnum, tMethod, typeV, tAppend, tCount, tCall, tLen, lenV, tMax, tMin, tListOf, tIsI, isiV, tListComp, tComp, tList, tTuple, tNil, tCons, tConst, tName, tTruth, truthV, tNotB, tAndB, tOrB, tConstB, tCmp, tCmpB, tCmp2B, cmpV, tBin, binV, tNot, tNeg, tIf, tAnd, tOr, tItem, tSlice, sliceV, boundV, Loc.setAll, Loc.set, Loc.empty, Loc.bare, bindV, String.reduceEq, reduceIte, List.length_cons, List.length_nil, tAttr, tMethI, tSetItem, tCmp2, tSetAttr, tDict0, tDict2, sIsNumber, tListRange, tNeDict0, tValues, tLenSet, tMulList, tSliceR, tNew]
      simp only [h3]
      have H2 := H'.sub s2
      refine ⟨H2.instOf (by decide +kernel), x, D, s, e, rfl, H2, hi, h64, fun c hc => ?_⟩
      simp only [AH.set_same, List.length_map]
      rw [metT_deg]
      exact hQ _ (Sub.refl.new hc)
    · refine ⟨_, _, new_keeps (s2 _ _ h5) hd, AH.set_same, ?_, fun d' hd' => k3 _ _ (k2 _ _ ⟨done ++ [s], rest, d', rfl, by simpa using h2, h3, rfl, ?_, ((h6.trans s2).new hd).new hd'⟩)⟩
      · have hl : (cntL D.S D.a D.b done).length ≤ 1000 * done.length := by
          clear h5 h2
          induction done with
          | nil => simp [cntL]
          | cons t done ih =>
            have : (szOf D.a D.b t).toNat ≤ 1000 := by cases t <;> simp [szOf] <;> omega
            unfold cntL at ih ⊢
            rw [List.flatMap_cons, List.length_append, List.length_map, rngI_length, List.length_cons]
            omega
        have hd2 : done.length ≤ 2 := by have := congrArg List.length h2; simp at this; omega
        unfold Fits
        simp only [List.length_append, List.length_map, List.length_cons, rngI_length]
        omega
      · rw [AH.set_same, cntL_snoc]
        simp [List.map_map, Function.comp_def]
theorem f_open_hues (hK : (KK P).In g.b0) (N : NN g) (M_met : FnM g (KK P) CC "met" 3 (sMet CC)) : SndC g 4 (.ref 182) (sOpen CC) := by
  refine SndC.mono (sndC_def (r := 3) (ps := ["self", "side", "end", "many"]) (hK 182 _ rfl) rfl (CodeRec.mk' (hK 181 _ rfl) rfl rfl) rfl (by intro vs h; obtain ⟨a0, a1, a2, a3, rfl⟩ := len4 h; rfl) rfl rfl rfl (by decide +kernel)
    (sndSs_cons (sndS_assignComp (at_ (i := 4) rfl) rfl (by decide +kernel) (sndI_value (sndE_methI hK hC M_met (sndE_name (.head _) rfl) (sndL_cons (sndE_name (at_ (i := 1) rfl) rfl) (sndL_cons (sndE_name (at_ (i := 2) rfl) rfl) sndL_nil)) rfl rfl rfl rfl)) (.name (at_ (i := 1) rfl) rfl) (by decide +kernel) sndT_nil (sndE_item (sndE_item (sndE_attr hK hC CF.a_rows rfl rfl (sndE_name (at_ (i := 2) rfl) rfl)) (sndE_name (at_ (i := 1) rfl) rfl) (fun _ _ => rfl)) sndE_int (fun _ _ => rfl)) (fun _ _ => rfl))
  (sndSs_cons (sndS_return (sndE_comp (by decide +kernel) (sndI_range1 (at_ (i := 5) rfl) (N.n_range) (sndE_name (at_ (i := 3) rfl) rfl) rfl) (.name (at_ (i := 1) rfl) rfl) (by decide +kernel) (sndT_one (sndB_cmp (sndE_name (at_ (i := 1) rfl) rfl) (sndE_name (at_ (i := 2) rfl) rfl) rfl)) (sndE_name (at_ (i := 1) rfl) rfl) (fun _ _ => rfl)))
  sndSs_nil))) ?_
  rintro xs σ Q E ⟨x, D, s, e, m, rfl, H, hi, h64, hm, h⟩
  refine tFun_k rfl fun K KE kret _ _ => ?_
  simp only [Loc.setAll]
  refine tSeq_k fun K1 k1 r1 _ _ => ?_
  simp only [tNop, tRet, tFlow, tDo, tIfS, tAssign, tAssignT, tAssignComp, tFor, tIter, walkV, tRange1, tEnum, tMethod, typeV, tAppend, tCount, tCall, tLen, lenV, tMax, tMin, tListOf, tIsI, isiV, tListComp, tComp, tList, tTuple, tNil, tCons, tConst, tName, tTruth, truthV, tNotB, tAndB, tOrB, tConstB, tCmp, tCmpB, tCmp2B, cmpV, tBin, binV, tNot, tNeg, tIf, tAnd, tOr, tItem, tSlice, sliceV, boundV, Loc.setAll, Loc.set, Loc.empty, Loc.bare, bindV, String.reduceEq, reduceIte, List.length_cons, List.length_nil, tAttr, tMethI, tSetItem, tCmp2, tSetAttr, tDict0, tDict2, sIsNumber, tListRange, tNeDict0, tValues, tLenSet, tMulList, tSliceR, tNew]
  refine ⟨H.instOf (by decide +kernel), x, D, s, e, rfl, H, hi, h64, fun c hc => ?_⟩
  simp only [AH.set_same]
  have s1 : Sub σ (σ.set c (.list ((metT D.T s e).map fun t => V.int t.1.n))) := Sub.refl.new hc
  refine ⟨nofun, compT_growE (fun t : Rw × Addr => V.int t.1.n) (fun t => hueV t.1.h) (metT D.T s e) (fun σ' hs => hs _ _ AH.set_same) (fun t ht => ⟨_, fun _ _ P h => h, fun σ2 s2 Qv hQ => ?_⟩) fun σ2 s2 d hd => ?_⟩
  · have H2 := H.sub (s1.trans s2)
    have ht' := (List.mem_filter.1 ht).1
    simp only [tNop, tRet, tFlow, tDo, tIfS, tAssign, tAssignT, tAssignComp, tFor, tIter, walkV, tRange1, tEnum, tMethod, typeV, tAppend, tCount, tCall, tLen, lenV, tMax, tMin, tListOf, tIsI, isiV, tListComp, tComp, tList, tTuple, tNil, tCons, tConst, tName, tTruth, truthV, tNotB, tAndB, tOrB, tConstB, tCmp, tCmpB, tCmp2B, cmpV, tBin, binV, tNot, tNeg, tIf, tAnd, tOr, tItem, tSlice, sliceV, boundV, Loc.setAll, Loc.set, Loc.empty, Loc.bare, bindV, String.reduceEq, reduceIte, List.length_cons, List.length_nil, tAttr, tMethI, tSetItem, tCmp2, tSetAttr, tDict0, tDict2, sIsNumber, tListRange, tNeDict0, tValues, tLenSet, tMulList, tSliceR, tNew]
    simp only [H2.rowsA]
    exact H2.item hi ht' (H2.item2 ht' (hQ _ Sub.refl))
  · have s3 : Sub σ (σ2.set d (.list ((metT D.T s e).map fun t => hueV t.1.h))) := (s1.trans s2).new hd
    refine k1 _ _ ?_
    refine tSeq_k fun K1 k1 r1 _ _ => ?_
    simp only [tNop, tRet, tFlow, tDo, tIfS, tAssign, tAssignT, tAssignComp, tFor, tIter, walkV, tRange1, tEnum, tMethod, typeV, tAppend, tCount, tCall, tLen, lenV, tMax, tMin, tListOf, tIsI, isiV, tListComp, tComp, tList, tTuple, tNil, tCons, tConst, tName, tTruth, truthV, tNotB, tAndB, tOrB, tConstB, tCmp, tCmpB, tCmp2B, cmpV, tBin, binV, tNot, tNeg, tIf, tAnd, tOr, tItem, tSlice, sliceV, boundV, Loc.setAll, Loc.set, Loc.empty, Loc.bare, bindV, String.reduceEq, reduceIte, List.length_cons, List.length_nil, tAttr, tMethI, tSetItem, tCmp2, tSetAttr, tDict0, tDict2, sIsNumber, tListRange, tNeDict0, tValues, tLenSet, tMulList, tSliceR, tNew]
    refine ⟨by omega, by unfold Fits; omega, nofun, ?_⟩
    rw [rangeV_rng]
    refine compT_growS V.int (fun h => !decide (some h ∈ (metT D.T s e).map fun t => t.1.h)) V.int (rngI (m : Int).toNat) (fun _ _ => trivial) (fun h' _ σ4 s4 => ⟨_, fun P h => h, fun Qb hQ => ?_, fun _ σ5 s5 Qv hQ => ?_⟩) fun σ4 s4 d' hd' => ?_
    · simp only [tNop, tRet, tFlow, tDo, tIfS, tAssign, tAssignT, tAssignComp, tFor, tIter, walkV, tRange1, tEnum, tMethod, typeV, tAppend, tCount, tCall, tLen, lenV, tMax, tMin, tListOf, tIsI, isiV, tListComp, tComp, tList, tTuple, tNil, tCons, tConst, tName, tTruth, truthV, tNotB, tAndB, tOrB, tConstB, tCmp, tCmpB, tCmp2B, cmpV, tBin, binV, tNot, tNeg, tIf, tAnd, tOr, tItem, tSlice, sliceV, boundV, Loc.setAll, Loc.set, Loc.empty, Loc.bare, bindV, String.reduceEq, reduceIte, List.length_cons, List.length_nil, tAttr, tMethI, tSetItem, tCmp2, tSetAttr, tDict0, tDict2, sIsNumber, tListRange, tNeDict0, tValues, tLenSet, tMulList, tSliceR, tNew]
      refine inD_hues (hs := (metT D.T s e).map fun t => t.1.h) ?_ (hQ _ Sub.refl)
      rw [List.map_map]
      exact s4 _ _ AH.set_same
    · simp only [tNop, tRet, tFlow, tDo, tIfS, tAssign, tAssignT, tAssignComp, tFor, tIter, walkV, tRange1, tEnum, tMethod, typeV, tAppend, tCount, tCall, tLen, lenV, tMax, tMin, tListOf, tIsI, isiV, tListComp, tComp, tList, tTuple, tNil, tCons, tConst, tName, tTruth, truthV, tNotB, tAndB, tOrB, tConstB, tCmp, tCmpB, tCmp2B, cmpV, tBin, binV, tNot, tNeg, tIf, tAnd, tOr, tItem, tSlice, sliceV, boundV, Loc.setAll, Loc.set, Loc.empty, Loc.bare, bindV, String.reduceEq, reduceIte, List.length_cons, List.length_nil, tAttr, tMethI, tSetItem, tCmp2, tSetAttr, tDict0, tDict2, sIsNumber, tListRange, tNeDict0, tValues, tLenSet, tMulList, tSliceR, tNew]
      exact hQ _ Sub.refl
    · have s5 := s3.trans s4
      refine r1 _ _ _ (kret _ _ _ (σ.set d' (.list ((openL D.S s e m).map V.int))) ?_ (h d' (s5.none hd')))
      rw [show ((m : Int).toNat) = m by omega, used_hues]
      exact sub_set s5
theorem f_with_hue (hK : (KK P).In g.b0) (N : NN g) (M_met : FnM g (KK P) CC "met" 3 (sMet CC)) : SndC g 4 (.ref 189) (sWith CC) := by
  refine SndC.mono (sndC_def (r := 3) (ps := ["self", "side", "end", "hue"]) (hK 189 _ rfl) rfl (CodeRec.mk' (hK 188 _ rfl) rfl rfl) rfl (by intro vs h; obtain ⟨a0, a1, a2, a3, rfl⟩ := len4 h; rfl) rfl rfl rfl (by decide +kernel)
    (sndSs_cons (sndS_for (sndI_value (sndE_methI hK hC M_met (sndE_name (.head _) rfl) (sndL_cons (sndE_name (at_ (i := 1) rfl) rfl) (sndL_cons (sndE_name (at_ (i := 2) rfl) rfl) sndL_nil)) rfl rfl rfl rfl)) (.name (at_ (i := 4) rfl) rfl) (sndSs_cons (sndS_if (sndB_cmp (sndE_item (sndE_item (sndE_attr hK hC CF.a_rows rfl rfl (sndE_name (.head _) rfl)) (sndE_name (at_ (i := 4) rfl) rfl) (fun _ _ => rfl)) sndE_int (fun _ _ => rfl)) (sndE_name (at_ (i := 3) rfl) rfl) rfl) (sndSs_cons (sndS_return (sndE_name (at_ (i := 4) rfl) rfl))
  sndSs_nil) sndSs_nil)
  sndSs_nil) (fun _ _ => rfl))
  (sndSs_cons (sndS_return sndE_none)
  sndSs_nil))) ?_
  rintro xs σ Q E ⟨x, D, s, e, hh, rfl, H, hi, h64, h⟩
  refine tFun_k rfl fun K KE kret _ _ => ?_
  simp only [Loc.setAll]
  refine tSeq_k fun K1 k1 r1 _ _ => ?_
  simp only [tNop, tRet, tFlow, tDo, tIfS, tAssign, tAssignT, tAssignComp, tFor, tIter, walkV, tRange1, tEnum, tMethod, typeV, tAppend, tCount, tCall, tLen, lenV, tMax, tMin, tListOf, tIsI, isiV, tListComp, tComp, tList, tTuple, tNil, tCons, tConst, tName, tTruth, truthV, tNotB, tAndB, tOrB, tConstB, tCmp, tCmpB, tCmp2B, cmpV, tBin, binV, tNot, tNeg, tIf, tAnd, tOr, tItem, tSlice, sliceV, boundV, Loc.setAll, Loc.set, Loc.empty, Loc.bare, bindV, String.reduceEq, reduceIte, List.length_cons, List.length_nil, tAttr, tMethI, tSetItem, tCmp2, tSetAttr, tDict0, tDict2, sIsNumber, tListRange, tNeDict0, tValues, tLenSet, tMulList, tSliceR, tNew]
  refine ⟨H.instOf (by decide +kernel), x, D, s, e, rfl, H, hi, h64, fun c hc => ?_⟩
  simp only [AH.set_same]
  have s1 : Sub σ (σ.set c (.list ((metT D.T s e).map fun t => V.int t.1.n))) := Sub.refl.new hc
  refine ⟨nofun, loopT_k (fun xs ℓ σ' => ∃ rest : List (Rw × Addr), xs = rest.map (fun t => V.int t.1.n) ∧ (∀ t ∈ rest, t ∈ D.T) ∧ withH D.S s e hh = (rest.find? fun t => t.1.h == some hh).map (·.1) ∧ ℓ "self" = some (.ref x) ∧ ℓ "hue" = some (.int hh) ∧ Sub (σ.set c (.list ((metT D.T s e).map fun t => V.int t.1.n))) σ') ?_ ?_
    ⟨_, rfl, fun t ht => (List.mem_filter.1 ht).1, withH_find D s e hh, rfl, rfl, Sub.refl⟩⟩
  · rintro ℓ σ' ⟨rest, h1, h2, h3, h4, h5, h6⟩
    have hr : rest = [] := by cases rest with | nil => rfl | cons _ _ => simp at h1
    subst hr
    refine ⟨h6 _ _ AH.set_same, k1 _ _ ?_⟩
    refine tSeq_k fun K2 k2 r2 _ _ => ?_
    simp only [tNop, tRet, tFlow, tDo, tIfS, tAssign, tAssignT, tAssignComp, tFor, tIter, walkV, tRange1, tEnum, tMethod, typeV, tAppend, tCount, tCall, tLen, lenV, tMax, tMin, tListOf, tIsI, isiV, tListComp, tComp, tList, tTuple, tNil, tCons, tConst, tName, tTruth, truthV, tNotB, tAndB, tOrB, tConstB, tCmp, tCmpB, tCmp2B, cmpV, tBin, binV, tNot, tNeg, tIf, tAnd, tOr, tItem, tSlice, sliceV, boundV, Loc.setAll, Loc.set, Loc.empty, Loc.bare, bindV, String.reduceEq, reduceIte, List.length_cons, List.length_nil, tAttr, tMethI, tSetItem, tCmp2, tSetAttr, tDict0, tDict2, sIsNumber, tListRange, tNeDict0, tValues, tLenSet, tMulList, tSliceR, tNew]
    rw [h3] at h
    exact r2 _ _ _ (kret _ _ _ _ (s1.trans h6) h)
  · rintro v xs ℓ σ' K2 k2 r2 _ _ ⟨rest, h1, h2, h3, h4, h5, h6⟩
    obtain ⟨t, rest, rfl⟩ : ∃ s r, rest = s :: r := by cases rest with | nil => simp at h1 | cons s r => exact ⟨s, r, rfl⟩
    simp only [List.map_cons, List.cons.injEq] at h1
    obtain ⟨rfl, rfl⟩ := h1
    refine ⟨h6 _ _ AH.set_same, ?_⟩
    simp only [bindV]
    refine tSeq_k fun K3 k3 r3 _ _ => ?_
    simp only [tNop, tRet, tFlow, tDo, tIfS, tAssign, tAssignT, tAssignComp, tFor, tIter, walkV, tRange1, tEnum, tMethod, typeV, tAppend, tCount, tCall, tLen, lenV, tMax, tMin, tListOf, tIsI, isiV, tListComp, tComp, tList, tTuple, tNil, tCons, tConst, tName, tTruth, truthV, tNotB, tAndB, tOrB, tConstB, tCmp, tCmpB, tCmp2B, cmpV, tBin, binV, tNot, tNeg, tIf, tAnd, tOr, tItem, tSlice, sliceV, boundV, Loc.setAll, Loc.set, Loc.empty, Loc.bare, bindV, String.reduceEq, reduceIte, List.length_cons, List.length_nil, tAttr, tMethI, tSetItem, tCmp2, tSetAttr, tDict0, tDict2, sIsNumber, tListRange, tNeDict0, tValues, tLenSet, tMulList, tSliceR, tNew]
    have H' := H.sub (s1.trans h6)
    simp only [h4, h5, H'.rowsA]
    refine H'.item hi (h2 t (.head _)) (H'.item2 (h2 t (.head _)) (eqD_hue ?_))
    rw [List.find?_cons] at h3
    cases q : (t.1.h == some hh) with
    | true =>
      rw [q] at h3
      simp only at h3 ⊢
      refine tSeq_k fun K4 k4 r4 _ _ => ?_
      simp only [tNop, tRet, tFlow, tDo, tIfS, tAssign, tAssignT, tAssignComp, tFor, tIter, walkV, tRange1, tEnum, tMethod, typeV, tAppend, tCount, tCall, tLen, lenV, tMax, tMin, tListOf, tIsI, isiV, tListComp, tComp, tList, tTuple, tNil, tCons, tConst, tName, tTruth, truthV, tNotB, tAndB, tOrB, tConstB, tCmp, tCmpB, tCmp2B, cmpV, tBin, binV, tNot, tNeg, tIf, tAnd, tOr, tItem, tSlice, sliceV, boundV, Loc.setAll, Loc.set, Loc.empty, Loc.bare, bindV, String.reduceEq, reduceIte, List.length_cons, List.length_nil, tAttr, tMethI, tSetItem, tCmp2, tSetAttr, tDict0, tDict2, sIsNumber, tListRange, tNeDict0, tValues, tLenSet, tMulList, tSliceR, tNew]
      rw [h3] at h
      exact r4 _ _ _ (r3 _ _ _ (r2 _ _ _ (r1 _ _ _ (kret _ _ _ _ (s1.trans h6) h))))
    | false =>
      rw [q] at h3
      simp only at h3 ⊢
      exact k3 _ _ (k2 _ _ ⟨rest, rfl, fun t' ht' => h2 t' (.tail _ ht'), h3, h4, h5, h6⟩)
end
section
open PySem PySem.W PyProof.Rows
variable {g : Gr} {P : Params}
theorem f_chain_from (hK : (KK P).In g.b0) (N : NN g) (F_other_side : FnG g "other_side" 4 sOther) (M_with_hue : FnM g (KK P) CC "with_hue" 4 (sWith CC)) (M_end_of : FnM g (KK P) CC "end_of" 4 sEndOf) : SndC g 5 (.ref 196) (sChain CC) := by
  refine SndC.mono (sndC_def (r := 4) (ps := ["self", "side", "end", "one", "other"]) (hK 196 _ rfl) rfl (CodeRec.mk' (hK 195 _ rfl) rfl rfl) rfl (by intro vs h; obtain ⟨a0, a1, a2, a3, a4, rfl⟩ := len5 h; rfl) rfl rfl rfl (by decide +kernel)
    (sndSs_cons (sndS_assign (at_ (i := 5) rfl) rfl (sndE_list sndL_nil) (fun _ => rfl))
  (sndSs_cons (sndS_assign (at_ (i := 6) rfl) rfl (sndE_name (at_ (i := 4) rfl) rfl) (fun _ => rfl))
  (sndSs_cons (sndS_assign (at_ (i := 7) rfl) rfl (sndE_methI hK hC M_with_hue (sndE_name (.head _) rfl) (sndL_cons (sndE_name (at_ (i := 1) rfl) rfl) (sndL_cons (sndE_name (at_ (i := 2) rfl) rfl) (sndL_cons (sndE_name (at_ (i := 6) rfl) rfl) sndL_nil))) rfl rfl rfl rfl) (fun _ => rfl))
  (sndSs_cons (sndS_while (sndB_cmp (sndE_name (at_ (i := 7) rfl) rfl) sndE_none rfl) (sndSs_cons (sndS_expr (mAppend (sndE_name (at_ (i := 5) rfl) rfl) (sndL_cons (sndE_name (at_ (i := 7) rfl) rfl) sndL_nil) rfl rfl rfl rfl) (fun _ => rfl))
  (sndSs_cons (sndS_assign (at_ (i := 1) rfl) rfl (sndE_call (at_ (i := 8) rfl) F_other_side (sndL_cons (sndE_name (at_ (i := 1) rfl) rfl) sndL_nil) rfl) (fun _ => rfl))
  (sndSs_cons (sndS_assign (at_ (i := 6) rfl) rfl (sndE_bin (sndE_bin (sndE_name (at_ (i := 3) rfl) rfl) (sndE_name (at_ (i := 4) rfl) rfl)) (sndE_name (at_ (i := 6) rfl) rfl)) (fun _ => rfl))
  (sndSs_cons (sndS_assign (at_ (i := 7) rfl) rfl (sndE_methI hK hC M_with_hue (sndE_name (.head _) rfl) (sndL_cons (sndE_name (at_ (i := 1) rfl) rfl) (sndL_cons (sndE_methI hK hC M_end_of (sndE_name (.head _) rfl) (sndL_cons (sndE_name (at_ (i := 7) rfl) rfl) (sndL_cons (sndE_name (at_ (i := 1) rfl) rfl) sndL_nil)) rfl rfl rfl rfl) (sndL_cons (sndE_name (at_ (i := 6) rfl) rfl) sndL_nil))) rfl rfl rfl rfl) (fun _ => rfl))
  sndSs_nil)))))
  (sndSs_cons (sndS_return (sndE_name (at_ (i := 5) rfl) rfl))
  sndSs_nil)))))) ?_
  rintro xs σ Q E ⟨x, D, s, e, one, other, rfl, H, hi, h64, hp, hf, hne, h⟩
  refine tFun_k rfl fun K KE kret _ _ => ?_
  simp only [Loc.setAll]
  refine tSeq_k fun K1 k1 r1 _ _ => ?_
  simp only [tNop, tRet, tFlow, tDo, tIfS, tAssign, tAssignT, tAssignComp, tFor, tIter, walkV, tRange1, tEnum, tMethod, typeV, tAppend, tCount, tCall, tLen, lenV, tMax, tMin, tListOf, tIsI, isiV, tListComp, tComp, tList, tTuple, tNil, tCons, tConst, tName, tTruth, truthV, tNotB, tAndB, tOrB, tConstB, tCmp, tCmpB, tCmp2B, cmpV, tBin, binV, tNot, tNeg, tIf, tAnd, tOr, tItem, tSlice, sliceV, boundV, Loc.setAll, Loc.set, Loc.empty, Loc.bare, bindV, String.reduceEq, reduceIte, List.length_cons, List.length_nil, tAttr, tMethI, tSetItem, tCmp2, tSetAttr, tDict0, tDict2, sIsNumber, tListRange, tNeDict0, tValues, tLenSet, tMulList, tSliceR, tNew]
  refine ⟨by simp [Fits], fun b hb => k1 _ _ ?_⟩
  refine tSeq_k fun K1 k1 r1 _ _ => ?_
  simp only [tNop, tRet, tFlow, tDo, tIfS, tAssign, tAssignT, tAssignComp, tFor, tIter, walkV, tRange1, tEnum, tMethod, typeV, tAppend, tCount, tCall, tLen, lenV, tMax, tMin, tListOf, tIsI, isiV, tListComp, tComp, tList, tTuple, tNil, tCons, tConst, tName, tTruth, truthV, tNotB, tAndB, tOrB, tConstB, tCmp, tCmpB, tCmp2B, cmpV, tBin, binV, tNot, tNeg, tIf, tAnd, tOr, tItem, tSlice, sliceV, boundV, Loc.setAll, Loc.set, Loc.empty, Loc.bare, bindV, String.reduceEq, reduceIte, List.length_cons, List.length_nil, tAttr, tMethI, tSetItem, tCmp2, tSetAttr, tDict0, tDict2, sIsNumber, tListRange, tNeDict0, tValues, tLenSet, tMulList, tSliceR, tNew]
  refine k1 _ _ ?_
  have Hs : ∀ l : List V, HallAt (σ.set b (.list l)) CC x D := fun l => H.sub (Sub.refl.new hb)
  refine tSeq_k fun K1 k1 r1 _ _ => ?_
  simp only [tNop, tRet, tFlow, tDo, tIfS, tAssign, tAssignT, tAssignComp, tFor, tIter, walkV, tRange1, tEnum, tMethod, typeV, tAppend, tCount, tCall, tLen, lenV, tMax, tMin, tListOf, tIsI, isiV, tListComp, tComp, tList, tTuple, tNil, tCons, tConst, tName, tTruth, truthV, tNotB, tAndB, tOrB, tConstB, tCmp, tCmpB, tCmp2B, cmpV, tBin, binV, tNot, tNeg, tIf, tAnd, tOr, tItem, tSlice, sliceV, boundV, Loc.setAll, Loc.set, Loc.empty, Loc.bare, bindV, String.reduceEq, reduceIte, List.length_cons, List.length_nil, tAttr, tMethI, tSetItem, tCmp2, tSetAttr, tDict0, tDict2, sIsNumber, tListRange, tNeDict0, tValues, tLenSet, tMulList, tSliceR, tNew]
  refine ⟨(Hs []).instOf (by decide +kernel), x, D, s, e, other, rfl, Hs [], hi, h64, k1 _ _ ?_⟩
  refine tSeq_k fun K1 k1 r1 _ _ => ?_
  refine ⟨fun n ℓ σ' => ∃ l, Path D.S s e one other l ∧ n = D.S.length - l.length ∧ σ' = σ.set b (.list (l.map fun x => V.int x.n)) ∧ ℓ "self" = some (.ref x) ∧ ℓ "found" = some (.ref b) ∧ ℓ "one" = some (.int one) ∧ ℓ "other" = some (.int other) ∧
    ℓ "side" = some (.str (sideS (sideAt s l.length))) ∧ ℓ "want" = some (.int (wantAt one other l.length)) ∧ ℓ "number" = some (numV (withH D.S (sideAt s l.length) (tipE s e l) (wantAt one other l.length))), ⟨_, [], .nil, rfl, rfl, rfl, rfl, rfl, rfl, rfl, rfl, rfl⟩, ?_⟩
  rintro n ℓ σ' ⟨l, hP, rfl, rfl, e1, e2, e3, e4, e5, e6, e7⟩
  simp only [tNop, tRet, tFlow, tDo, tIfS, tAssign, tAssignT, tAssignComp, tFor, tIter, walkV, tRange1, tEnum, tMethod, typeV, tAppend, tCount, tCall, tLen, lenV, tMax, tMin, tListOf, tIsI, isiV, tListComp, tComp, tList, tTuple, tNil, tCons, tConst, tName, tTruth, truthV, tNotB, tAndB, tOrB, tConstB, tCmp, tCmpB, tCmp2B, cmpV, tBin, binV, tNot, tNeg, tIf, tAnd, tOr, tItem, tSlice, sliceV, boundV, Loc.setAll, Loc.set, Loc.empty, Loc.bare, bindV, String.reduceEq, reduceIte, List.length_cons, List.length_nil, tAttr, tMethI, tSetItem, tCmp2, tSetAttr, tDict0, tDict2, sIsNumber, tListRange, tNeDict0, tValues, tLenSet, tMulList, tSliceR, tNew]
  simp only [e7]
  cases hw : withH D.S (sideAt s l.length) (tipE s e l) (wantAt one other l.length) with
  | none =>
    simp only [numV, isNoneV, Bool.not_true]
    refine k1 _ _ ?_
    refine tSeq_k fun K2 k2 r2 _ _ => ?_
    simp only [tNop, tRet, tFlow, tDo, tIfS, tAssign, tAssignT, tAssignComp, tFor, tIter, walkV, tRange1, tEnum, tMethod, typeV, tAppend, tCount, tCall, tLen, lenV, tMax, tMin, tListOf, tIsI, isiV, tListComp, tComp, tList, tTuple, tNil, tCons, tConst, tName, tTruth, truthV, tNotB, tAndB, tOrB, tConstB, tCmp, tCmpB, tCmp2B, cmpV, tBin, binV, tNot, tNeg, tIf, tAnd, tOr, tItem, tSlice, sliceV, boundV, Loc.setAll, Loc.set, Loc.empty, Loc.bare, bindV, String.reduceEq, reduceIte, List.length_cons, List.length_nil, tAttr, tMethI, tSetItem, tCmp2, tSetAttr, tDict0, tDict2, sIsNumber, tListRange, tNeDict0, tValues, tLenSet, tMulList, tSliceR, tNew]
    simp only [e2]
    exact r2 _ _ _ (kret _ _ _ _ Sub.refl (h b l hP (withH_none hw) hb))
  | some r =>
    obtain ⟨w1, w2, w3⟩ := withH_some hw
    have hP' : Path D.S s e one other (l ++ [r]) := hP.snoc w1 w3 w2
    have hl := hP'.len hp hi hne hf
    have hST : D.S.length = D.T.length := by simp [HD.S]
    rw [List.length_append, List.length_singleton] at hl
    simp only [numV, isNoneV, Bool.not_false]
    rw [hw] at e7
    simp only [numV] at e7
    refine tSeq_k fun K2 k2 r2 _ _ => ?_
    simp only [tNop, tRet, tFlow, tDo, tIfS, tAssign, tAssignT, tAssignComp, tFor, tIter, walkV, tRange1, tEnum, tMethod, typeV, tAppend, tCount, tCall, tLen, lenV, tMax, tMin, tListOf, tIsI, isiV, tListComp, tComp, tList, tTuple, tNil, tCons, tConst, tName, tTruth, truthV, tNotB, tAndB, tOrB, tConstB, tCmp, tCmpB, tCmp2B, cmpV, tBin, binV, tNot, tNeg, tIf, tAnd, tOr, tItem, tSlice, sliceV, boundV, Loc.setAll, Loc.set, Loc.empty, Loc.bare, bindV, String.reduceEq, reduceIte, List.length_cons, List.length_nil, tAttr, tMethI, tSetItem, tCmp2, tSetAttr, tDict0, tDict2, sIsNumber, tListRange, tNeDict0, tValues, tLenSet, tMulList, tSliceR, tNew]
    simp only [e2, e7, AH.set_same]
    refine ⟨trivial, by simp [Fits]; omega, k2 _ _ ?_⟩
    rw [AH.set_set]
    have hmap : ((l.map fun x => V.int x.n) ++ [V.int r.n]) = (l ++ [r]).map fun x => V.int x.n := by simp
    rw [hmap]
    refine tSeq_k fun K2 k2 r2 _ _ => ?_
    simp only [tNop, tRet, tFlow, tDo, tIfS, tAssign, tAssignT, tAssignComp, tFor, tIter, walkV, tRange1, tEnum, tMethod, typeV, tAppend, tCount, tCall, tLen, lenV, tMax, tMin, tListOf, tIsI, isiV, tListComp, tComp, tList, tTuple, tNil, tCons, tConst, tName, tTruth, truthV, tNotB, tAndB, tOrB, tConstB, tCmp, tCmpB, tCmp2B, cmpV, tBin, binV, tNot, tNeg, tIf, tAnd, tOr, tItem, tSlice, sliceV, boundV, Loc.setAll, Loc.set, Loc.empty, Loc.bare, bindV, String.reduceEq, reduceIte, List.length_cons, List.length_nil, tAttr, tMethI, tSetItem, tCmp2, tSetAttr, tDict0, tDict2, sIsNumber, tListRange, tNeDict0, tValues, tLenSet, tMulList, tSliceR, tNew]
    simp only [e5]
    refine ⟨_, rfl, k2 _ _ ?_⟩
    refine tSeq_k fun K2 k2 r2 _ _ => ?_
    simp only [tNop, tRet, tFlow, tDo, tIfS, tAssign, tAssignT, tAssignComp, tFor, tIter, walkV, tRange1, tEnum, tMethod, typeV, tAppend, tCount, tCall, tLen, lenV, tMax, tMin, tListOf, tIsI, isiV, tListComp, tComp, tList, tTuple, tNil, tCons, tConst, tName, tTruth, truthV, tNotB, tAndB, tOrB, tConstB, tCmp, tCmpB, tCmp2B, cmpV, tBin, binV, tNot, tNeg, tIf, tAnd, tOr, tItem, tSlice, sliceV, boundV, Loc.setAll, Loc.set, Loc.empty, Loc.bare, bindV, String.reduceEq, reduceIte, List.length_cons, List.length_nil, tAttr, tMethI, tSetItem, tCmp2, tSetAttr, tDict0, tDict2, sIsNumber, tListRange, tNeDict0, tValues, tLenSet, tMulList, tSliceR, tNew]
    simp only [e3, e4, e6]
    refine k2 _ _ ?_
    refine tSeq_k fun K2 k2 r2 _ _ => ?_
    simp only [tNop, tRet, tFlow, tDo, tIfS, tAssign, tAssignT, tAssignComp, tFor, tIter, walkV, tRange1, tEnum, tMethod, typeV, tAppend, tCount, tCall, tLen, lenV, tMax, tMin, tListOf, tIsI, isiV, tListComp, tComp, tList, tTuple, tNil, tCons, tConst, tName, tTruth, truthV, tNotB, tAndB, tOrB, tConstB, tCmp, tCmpB, tCmp2B, cmpV, tBin, binV, tNot, tNeg, tIf, tAnd, tOr, tItem, tSlice, sliceV, boundV, Loc.setAll, Loc.set, Loc.empty, Loc.bare, bindV, String.reduceEq, reduceIte, List.length_cons, List.length_nil, tAttr, tMethI, tSetItem, tCmp2, tSetAttr, tDict0, tDict2, sIsNumber, tListRange, tNeDict0, tValues, tLenSet, tMulList, tSliceR, tNew]
    simp only [e1, e7]
    obtain ⟨t, ht, rfl⟩ := mem_S w1
    have H' := Hs ((l ++ [t.1]).map fun x => V.int x.n)
    refine ⟨H'.instOf (by decide +kernel), H'.instOf (by decide +kernel), x, D, _, t, rfl, H', hi, ht, x, D, _, _, _, rfl, H', hi, h64, k2 _ _ ?_⟩
    refine ⟨D.S.length - (l ++ [t.1]).length, by rw [List.length_append, List.length_singleton]; omega, l ++ [t.1], hP', rfl, rfl, e1, e2, e3, e4, ?_, ?_, ?_⟩
    · simp only [List.length_append, List.length_singleton, sideAt_succ]; rfl
    · simp only [List.length_append, List.length_singleton, wantAt_succ]; rfl
    · simp only [List.length_append, List.length_singleton, sideAt_succ, wantAt_succ, tipE_snoc]; rfl
end
section
open PySem PySem.W PyProof.Rows
variable {g : Gr} {P : Params}
theorem f_turn (hK : (KK P).In g.b0) (N : NN g) : SndC g 2 (.ref 203) (sTurn CC) := by
  refine SndC.mono (sndC_def (r := 1) (ps := ["self", "chain", "one", "other"]) (hK 203 _ rfl) rfl (CodeRec.mk' (hK 202 _ rfl) rfl rfl) rfl (by intro vs h; obtain ⟨a0, a1, a2, a3, rfl⟩ := len4 h; rfl) rfl rfl rfl (by decide +kernel)
    (sndSs_cons (sndS_for (sndI_value (sndE_name (at_ (i := 1) rfl) rfl)) (.name (at_ (i := 4) rfl) rfl) (sndSs_cons (sndS_setItem (sndE_item (sndE_attr hK hC CF.a_rows rfl rfl (sndE_name (.head _) rfl)) (sndE_name (at_ (i := 4) rfl) rfl) (fun _ _ => rfl)) sndE_int (sndE_bin (sndE_bin (sndE_name (at_ (i := 2) rfl) rfl) (sndE_name (at_ (i := 3) rfl) rfl)) (sndE_item (sndE_item (sndE_attr hK hC CF.a_rows rfl rfl (sndE_name (.head _) rfl)) (sndE_name (at_ (i := 4) rfl) rfl) (fun _ _ => rfl)) sndE_int (fun _ _ => rfl))) (fun _ => rfl))
  sndSs_nil) (fun _ _ => rfl))
  sndSs_nil)) ?_
  rintro xs σ Q E ⟨x, D, c, nums, one, other, rfl, H, hi, hc, hca, hnd, hks, h⟩
  refine tFun_k rfl fun K KE kret kend _ => ?_
  simp only [Loc.setAll]
  refine tSeq_k fun K1 k1 r1 _ _ => ?_
  simp only [tNop, tRet, tFlow, tDo, tIfS, tAssign, tAssignT, tAssignComp, tFor, tIter, walkV, tRange1, tEnum, tMethod, typeV, tAppend, tCount, tCall, tLen, lenV, tMax, tMin, tListOf, tIsI, isiV, tListComp, tComp, tList, tTuple, tNil, tCons, tConst, tName, tTruth, truthV, tNotB, tAndB, tOrB, tConstB, tCmp, tCmpB, tCmp2B, cmpV, tBin, binV, tNot, tNeg, tIf, tAnd, tOr, tItem, tSlice, sliceV, boundV, Loc.setAll, Loc.set, Loc.empty, Loc.bare, bindV, String.reduceEq, reduceIte, List.length_cons, List.length_nil, tAttr, tMethI, tSetItem, tCmp2, tSetAttr, tDict0, tDict2, sIsNumber, tListRange, tNeDict0, tValues, tLenSet, tMulList, tSliceR, tNew]
  simp only [hc]
  refine ⟨nofun, loopT_k (fun xs ℓ σ' => ∃ done rest : List Int, done ++ rest = nums ∧ xs = rest.map V.int ∧ ℓ "self" = some (.ref x) ∧ ℓ "one" = some (.int one) ∧ ℓ "other" = some (.int other) ∧ HallAt σ' CC x (D.flip done one other) ∧ ∀ y, y ∉ D.T.map (·.2) → σ' y = σ y) ?_ ?_
    ⟨[], nums, rfl, rfl, rfl, rfl, rfl, by rw [flip_nil]; exact H, fun _ _ => rfl⟩⟩
  · rintro ℓ σ' ⟨done, rest, h1, h2, h3, h4, h5, h6, h7⟩
    have hr : rest = [] := by cases rest with | nil => rfl | cons _ _ => simp at h2
    subst hr
    rw [List.append_nil] at h1
    subst h1
    refine ⟨(h7 c hca).trans hc, k1 _ _ ?_⟩
    simp only [tNop, tRet, tFlow, tDo, tIfS, tAssign, tAssignT, tAssignComp, tFor, tIter, walkV, tRange1, tEnum, tMethod, typeV, tAppend, tCount, tCall, tLen, lenV, tMax, tMin, tListOf, tIsI, isiV, tListComp, tComp, tList, tTuple, tNil, tCons, tConst, tName, tTruth, truthV, tNotB, tAndB, tOrB, tConstB, tCmp, tCmpB, tCmp2B, cmpV, tBin, binV, tNot, tNeg, tIf, tAnd, tOr, tItem, tSlice, sliceV, boundV, Loc.setAll, Loc.set, Loc.empty, Loc.bare, bindV, String.reduceEq, reduceIte, List.length_cons, List.length_nil, tAttr, tMethI, tSetItem, tCmp2, tSetAttr, tDict0, tDict2, sIsNumber, tListRange, tNeDict0, tValues, tLenSet, tMulList, tSliceR, tNew]
    exact kend _ _ _ Sub.refl (h σ' h6 h7)
  · rintro v xs ℓ σ' K2 k2 r2 _ _ ⟨done, rest, h1, h2, h3, h4, h5, h6, h7⟩
    obtain ⟨k, rest, rfl⟩ : ∃ s r, rest = s :: r := by cases rest with | nil => simp at h2 | cons s r => exact ⟨s, r, rfl⟩
    simp only [List.map_cons, List.cons.injEq] at h2
    obtain ⟨rfl, rfl⟩ := h2
    refine ⟨(h7 c hca).trans hc, ?_⟩
    simp only [bindV]
    obtain ⟨t, ht, rfl, hu, hh⟩ := hks k (by rw [← h1]; simp)
    have hnin : t.1.n ∉ done := fun q => by
      rw [← h1, List.nodup_append] at hnd
      exact hnd.2.2 _ q _ (.head _) rfl
    have ht' : (t.1, t.2) ∈ (D.flip done one other).T := List.mem_map.2 ⟨t, ht, by rw [flipH_out hnin]⟩
    have hi' : Inc (D.flip done one other).S := inc_flip hi
    refine tSeq_k fun K3 k3 r3 _ _ => ?_
    simp only [tSetItem]
    simp only [tNop, tRet, tFlow, tDo, tIfS, tAssign, tAssignT, tAssignComp, tFor, tIter, walkV, tRange1, tEnum, tMethod, typeV, tAppend, tCount, tCall, tLen, lenV, tMax, tMin, tListOf, tIsI, isiV, tListComp, tComp, tList, tTuple, tNil, tCons, tConst, tName, tTruth, truthV, tNotB, tAndB, tOrB, tConstB, tCmp, tCmpB, tCmp2B, cmpV, tBin, binV, tNot, tNeg, tIf, tAnd, tOr, tItem, tSlice, sliceV, boundV, Loc.setAll, Loc.set, Loc.empty, Loc.bare, bindV, String.reduceEq, reduceIte, List.length_cons, List.length_nil, tAttr, tMethI, tSetItem, tCmp2, tSetAttr, tDict0, tDict2, sIsNumber, tListRange, tNeDict0, tValues, tLenSet, tMulList, tSliceR, tNew]
    simp only [h3, h4, h5, h6.rowsA]
    refine h6.item hi' ht' (h6.item2 ht' ?_)
    simp only [hh, hueV]
    refine h6.item hi' ht' ?_
    simp only [setItemV, h6.row _ ht']
    refine ⟨2, rfl, by simp [rowL], k3 _ _ (k2 _ _ ⟨done ++ [t.1.n], rest, by simpa using h1, rfl, h3, h4, h5, ?_, fun y hy => ?_⟩)⟩
    · rw [← flip_snoc hi ht hnin hh]
      have := h6.setHue hi' ht' (some (one + other - hu))
      simpa [rowL, hueV] using this
    · rw [AH.set_other fun z => hy (by rw [z]; exact List.mem_map.2 ⟨t, ht, rfl⟩)]
      exact h7 y hy
theorem f_ways (hK : (KK P).In g.b0) (N : NN g) (M_open_hues : FnM g (KK P) CC "open_hues" 5 (sOpen CC)) (M_chain_from : FnM g (KK P) CC "chain_from" 5 (sChain CC)) : SndC g 6 (.ref 210) (sWays CC) := by
  refine SndC.mono (sndC_def (r := 5) (ps := ["self", "left", "right", "many"]) (hK 210 _ rfl) rfl (CodeRec.mk' (hK 209 _ rfl) rfl rfl) rfl (by intro vs h; obtain ⟨a0, a1, a2, a3, rfl⟩ := len4 h; rfl) rfl rfl rfl (by decide +kernel)
    (sndSs_cons (sndS_assign (at_ (i := 4) rfl) rfl (sndE_list sndL_nil) (fun _ => rfl))
  (sndSs_cons (sndS_for (sndI_value (sndE_methI hK hC M_open_hues (sndE_name (.head _) rfl) (sndL_cons (sndE_global (at_ (i := 8) rfl) (N.n_LEFT) (fun _ => VR_str.mpr ⟨fitsS (by decide), _, rfl⟩)) (sndL_cons (sndE_name (at_ (i := 1) rfl) rfl) (sndL_cons (sndE_name (at_ (i := 3) rfl) rfl) sndL_nil))) rfl rfl rfl rfl)) (.name (at_ (i := 5) rfl) rfl) (sndSs_cons (sndS_for (sndI_value (sndE_methI hK hC M_open_hues (sndE_name (.head _) rfl) (sndL_cons (sndE_global (at_ (i := 9) rfl) (N.n_RIGHT) (fun _ => VR_str.mpr ⟨fitsS (by decide), _, rfl⟩)) (sndL_cons (sndE_name (at_ (i := 2) rfl) rfl) (sndL_cons (sndE_name (at_ (i := 3) rfl) rfl) sndL_nil))) rfl rfl rfl rfl)) (.name (at_ (i := 6) rfl) rfl) (sndSs_cons (sndS_assign (at_ (i := 7) rfl) rfl (sndE_methI hK hC M_chain_from (sndE_name (.head _) rfl) (sndL_cons (sndE_global (at_ (i := 9) rfl) (N.n_RIGHT) (fun _ => VR_str.mpr ⟨fitsS (by decide), _, rfl⟩)) (sndL_cons (sndE_name (at_ (i := 2) rfl) rfl) (sndL_cons (sndE_name (at_ (i := 6) rfl) rfl) (sndL_cons (sndE_name (at_ (i := 5) rfl) rfl) sndL_nil)))) rfl rfl rfl rfl) (fun _ => rfl))
  (sndSs_cons (sndS_expr (mAppend (sndE_name (at_ (i := 4) rfl) rfl) (sndL_cons (sndE_tuple (sndL_cons (sndE_call (at_ (i := 10) rfl) (fn_builtin N.n_len sndF_len) (sndL_cons (sndE_name (at_ (i := 7) rfl) rfl) sndL_nil) rfl) (sndL_cons (sndE_name (at_ (i := 5) rfl) rfl) (sndL_cons (sndE_name (at_ (i := 6) rfl) rfl) (sndL_cons (sndE_name (at_ (i := 7) rfl) rfl) sndL_nil))))) sndL_nil) rfl rfl rfl rfl) (fun _ => rfl))
  (sndSs_cons (sndS_assign (at_ (i := 7) rfl) rfl (sndE_methI hK hC M_chain_from (sndE_name (.head _) rfl) (sndL_cons (sndE_global (at_ (i := 8) rfl) (N.n_LEFT) (fun _ => VR_str.mpr ⟨fitsS (by decide), _, rfl⟩)) (sndL_cons (sndE_name (at_ (i := 1) rfl) rfl) (sndL_cons (sndE_name (at_ (i := 5) rfl) rfl) (sndL_cons (sndE_name (at_ (i := 6) rfl) rfl) sndL_nil)))) rfl rfl rfl rfl) (fun _ => rfl))
  (sndSs_cons (sndS_expr (mAppend (sndE_name (at_ (i := 4) rfl) rfl) (sndL_cons (sndE_tuple (sndL_cons (sndE_call (at_ (i := 10) rfl) (fn_builtin N.n_len sndF_len) (sndL_cons (sndE_name (at_ (i := 7) rfl) rfl) sndL_nil) rfl) (sndL_cons (sndE_name (at_ (i := 6) rfl) rfl) (sndL_cons (sndE_name (at_ (i := 5) rfl) rfl) (sndL_cons (sndE_name (at_ (i := 7) rfl) rfl) sndL_nil))))) sndL_nil) rfl rfl rfl rfl) (fun _ => rfl))
  sndSs_nil)))) (fun _ _ => rfl))
  sndSs_nil) (fun _ _ => rfl))
  (sndSs_cons (sndS_return (sndE_name (at_ (i := 4) rfl) rfl))
  sndSs_nil)))) ?_
  rintro xs σ Q E ⟨x, D, l, r, m, rfl, H, hi, h64, hp, hm, hdis, h⟩
  refine tFun_k rfl fun K KE kret kend _ => ?_
  simp only [Loc.setAll]
  refine tSeq_k fun K1 k1 r1 _ _ => ?_
  simp only [tNop, tRet, tFlow, tDo, tIfS, tAssign, tAssignT, tAssignComp, tFor, tIter, walkV, tRange1, tEnum, tMethod, typeV, tAppend, tCount, tCall, tLen, lenV, tMax, tMin, tListOf, tIsI, isiV, tListComp, tComp, tList, tTuple, tNil, tCons, tConst, tName, tTruth, truthV, tNotB, tAndB, tOrB, tConstB, tCmp, tCmpB, tCmp2B, cmpV, tBin, binV, tNot, tNeg, tIf, tAnd, tOr, tItem, tSlice, sliceV, boundV, Loc.setAll, Loc.set, Loc.empty, Loc.bare, bindV, String.reduceEq, reduceIte, List.length_cons, List.length_nil, tAttr, tMethI, tSetItem, tCmp2, tSetAttr, tDict0, tDict2, sIsNumber, tListRange, tNeDict0, tValues, tLenSet, tMulList, tSliceR, tNew]
  refine ⟨by simp [Fits], fun b hb => k1 _ _ ?_⟩
  have w0 : WInv D.S l r m σ b (σ.set b (.list [])) [] := ⟨AH.set_same, Sub.refl.new hb, fun t ht => absurd ht (by simp)⟩
  refine tSeq_k fun K1 k1 r1 _ _ => ?_
  simp only [tNop, tRet, tFlow, tDo, tIfS, tAssign, tAssignT, tAssignComp, tFor, tIter, walkV, tRange1, tEnum, tMethod, typeV, tAppend, tCount, tCall, tLen, lenV, tMax, tMin, tListOf, tIsI, isiV, tListComp, tComp, tList, tTuple, tNil, tCons, tConst, tName, tTruth, truthV, tNotB, tAndB, tOrB, tConstB, tCmp, tCmpB, tCmp2B, cmpV, tBin, binV, tNot, tNeg, tIf, tAnd, tOr, tItem, tSlice, sliceV, boundV, Loc.setAll, Loc.set, Loc.empty, Loc.bare, bindV, String.reduceEq, reduceIte, List.length_cons, List.length_nil, tAttr, tMethI, tSetItem, tCmp2, tSetAttr, tDict0, tDict2, sIsNumber, tListRange, tNeDict0, tValues, tLenSet, tMulList, tSliceR, tNew]
  have H1 := H.sub w0.sub
  refine ⟨H1.instOf (by decide +kernel), x, D, false, l, m, rfl, H1, hi, h64, by omega, fun o1 ho1 => ?_⟩
  simp only [AH.set_same]
  refine ⟨nofun, loopT_k (fun xs ℓ σ' => ∃ (done rest : List Int) (es : List (Int × Int × Int × Addr)), done ++ rest = openL D.S false l m ∧ xs = rest.map V.int ∧ ℓ "self" = some (.ref x) ∧ ℓ "left" = some (.int l) ∧ ℓ "right" = some (.int r) ∧ ℓ "many" = some (.int (m : Nat)) ∧ ℓ "found" = some (.ref b) ∧
      WInv D.S l r m σ b σ' es ∧ σ' o1 = some (.list ((openL D.S false l m).map V.int)) ∧ (∀ one ∈ done, ∀ two ∈ openL D.S true r m, GotW es one two ∧ GotW es two one) ∧ es.length ≤ 2 * (openL D.S true r m).length * done.length) ?_ ?_
    ⟨[], openL D.S false l m, [], rfl, rfl, rfl, rfl, rfl, rfl, rfl, w0.keep ho1, AH.set_same, fun _ h => absurd h (by simp), by simp⟩⟩
  · rintro ℓ σ' ⟨done, rest, es, h1, h2, e1, e2, e3, e4, e5, W, ho, hg, hl⟩
    have hr : rest = [] := by cases rest with | nil => rfl | cons _ _ => simp at h2
    subst hr
    rw [List.append_nil] at h1
    subst h1
    refine ⟨ho, k1 _ _ ?_⟩
    refine tSeq_k fun K2 k2 r2 _ _ => ?_
    simp only [tNop, tRet, tFlow, tDo, tIfS, tAssign, tAssignT, tAssignComp, tFor, tIter, walkV, tRange1, tEnum, tMethod, typeV, tAppend, tCount, tCall, tLen, lenV, tMax, tMin, tListOf, tIsI, isiV, tListComp, tComp, tList, tTuple, tNil, tCons, tConst, tName, tTruth, truthV, tNotB, tAndB, tOrB, tConstB, tCmp, tCmpB, tCmp2B, cmpV, tBin, binV, tNot, tNeg, tIf, tAnd, tOr, tItem, tSlice, sliceV, boundV, Loc.setAll, Loc.set, Loc.empty, Loc.bare, bindV, String.reduceEq, reduceIte, List.length_cons, List.length_nil, tAttr, tMethI, tSetItem, tCmp2, tSetAttr, tDict0, tDict2, sIsNumber, tListRange, tNeDict0, tValues, tLenSet, tMulList, tSliceR, tNew]
    simp only [e5]
    exact r2 _ _ _ (kret _ _ _ _ Sub.refl (h σ' b es W.sub hb W.fb (fun t ht => ⟨(W.way t ht).1, (W.way t ht).2.1⟩) hg))
  · rintro v xs ℓ σ' K2 k2 r2 _ _ ⟨done, rest, es, h1, h2, e1, e2, e3, e4, e5, W, ho, hg, hl⟩
    obtain ⟨one, rest, rfl⟩ : ∃ s r, rest = s :: r := by cases rest with | nil => simp at h2 | cons s r => exact ⟨s, r, rfl⟩
    simp only [List.map_cons, List.cons.injEq] at h2
    obtain ⟨rfl, rfl⟩ := h2
    have hone : one ∈ openL D.S false l m := by rw [← h1]; simp
    refine ⟨ho, ?_⟩
    simp only [bindV]
    refine tSeq_k fun K3 k3 r3 _ _ => ?_
    simp only [tNop, tRet, tFlow, tDo, tIfS, tAssign, tAssignT, tAssignComp, tFor, tIter, walkV, tRange1, tEnum, tMethod, typeV, tAppend, tCount, tCall, tLen, lenV, tMax, tMin, tListOf, tIsI, isiV, tListComp, tComp, tList, tTuple, tNil, tCons, tConst, tName, tTruth, truthV, tNotB, tAndB, tOrB, tConstB, tCmp, tCmpB, tCmp2B, cmpV, tBin, binV, tNot, tNeg, tIf, tAnd, tOr, tItem, tSlice, sliceV, boundV, Loc.setAll, Loc.set, Loc.empty, Loc.bare, bindV, String.reduceEq, reduceIte, List.length_cons, List.length_nil, tAttr, tMethI, tSetItem, tCmp2, tSetAttr, tDict0, tDict2, sIsNumber, tListRange, tNeDict0, tValues, tLenSet, tMulList, tSliceR, tNew]
    simp only [e1, e3, e4]
    have H2 := H.sub W.sub
    refine ⟨H2.instOf (by decide +kernel), x, D, true, r, m, rfl, H2, hi, h64, by omega, fun o2 ho2 => ?_⟩
    simp only [AH.set_same]
    have hlD : done.length ≤ m := by
      have := congrArg List.length h1
      have := openL_length (S := D.S) (s := false) (e := l) (m := m)
      simp at *; omega
    have hlT : (openL D.S true r m).length ≤ m := openL_length
    refine ⟨nofun, loopT_k (fun xs ℓ σ2 => ∃ (done2 rest2 : List Int) (fs : List (Int × Int × Int × Addr)), done2 ++ rest2 = openL D.S true r m ∧ xs = rest2.map V.int ∧ ℓ "self" = some (.ref x) ∧ ℓ "left" = some (.int l) ∧ ℓ "right" = some (.int r) ∧ ℓ "many" = some (.int (m : Nat)) ∧ ℓ "found" = some (.ref b) ∧ ℓ "one" = some (.int one) ∧
        WInv D.S l r m σ b σ2 fs ∧ σ2 o1 = some (.list ((openL D.S false l m).map V.int)) ∧ σ2 o2 = some (.list ((openL D.S true r m).map V.int)) ∧ (∀ one ∈ done, ∀ two ∈ openL D.S true r m, GotW fs one two ∧ GotW fs two one) ∧ (∀ two ∈ done2, GotW fs one two ∧ GotW fs two one) ∧ fs.length ≤ 2 * (openL D.S true r m).length * done.length + 2 * done2.length) ?_ ?_
      ⟨[], openL D.S true r m, es, rfl, rfl, e1, e2, e3, e4, e5, rfl, W.keep ho2, new_keeps ho ho2, AH.set_same, hg, fun _ h => absurd h (by simp), by simpa using hl⟩⟩
    · rintro ℓ σ2 ⟨done2, rest2, fs, h3, h4, f1, f2, f3, f4, f5, f6, W2, ho3, ho4, hg2, hg3, hl2⟩
      have hr : rest2 = [] := by cases rest2 with | nil => rfl | cons _ _ => simp at h4
      subst hr
      rw [List.append_nil] at h3
      subst h3
      refine ⟨ho4, k3 _ _ (k2 _ _ ⟨done ++ [one], rest, fs, by simpa using h1, rfl, f1, f2, f3, f4, f5, W2, ho3, fun o hO two hT => ?_, ?_⟩)⟩
      · rcases List.mem_append.1 hO with q | q
        · exact hg2 o q two hT
        · rw [List.mem_singleton.1 q]; exact hg3 two hT
      · rw [List.length_append, List.length_singleton, Nat.mul_add]; omega
    · rintro v xs ℓ σ2 K4 k4 r4 _ _ ⟨done2, rest2, fs, h3, h4, f1, f2, f3, f4, f5, f6, W2, ho3, ho4, hg2, hg3, hl2⟩
      obtain ⟨two, rest2, rfl⟩ : ∃ s r, rest2 = s :: r := by cases rest2 with | nil => simp at h4 | cons s r => exact ⟨s, r, rfl⟩
      simp only [List.map_cons, List.cons.injEq] at h4
      obtain ⟨rfl, rfl⟩ := h4
      have htwo : two ∈ openL D.S true r m := by rw [← h3]; simp
      have hne : two ≠ one := fun z => hdis one hone (z ▸ htwo)
      have hlen2 : fs.length ≤ 2 * m * m + 2 * m := by
        have h5 : done2.length ≤ m := by have := congrArg List.length h3; simp at this; omega
        have h6 : 2 * (openL D.S true r m).length * done.length ≤ 2 * m * m := Nat.mul_le_mul (by omega) hlD
        omega
      have hmm : 2 * m * m ≤ 2 * 100 * 100 := Nat.mul_le_mul (by omega) hm
      refine ⟨ho4, ?_⟩
      simp only [bindV]
      have H3 := H.sub W2.sub
      refine tSeq_k fun K5 k5 r5 _ _ => ?_
      simp only [tNop, tRet, tFlow, tDo, tIfS, tAssign, tAssignT, tAssignComp, tFor, tIter, walkV, tRange1, tEnum, tMethod, typeV, tAppend, tCount, tCall, tLen, lenV, tMax, tMin, tListOf, tIsI, isiV, tListComp, tComp, tList, tTuple, tNil, tCons, tConst, tName, tTruth, truthV, tNotB, tAndB, tOrB, tConstB, tCmp, tCmpB, tCmp2B, cmpV, tBin, binV, tNot, tNeg, tIf, tAnd, tOr, tItem, tSlice, sliceV, boundV, Loc.setAll, Loc.set, Loc.empty, Loc.bare, bindV, String.reduceEq, reduceIte, List.length_cons, List.length_nil, tAttr, tMethI, tSetItem, tCmp2, tSetAttr, tDict0, tDict2, sIsNumber, tListRange, tNeDict0, tValues, tLenSet, tMulList, tSliceR, tNew]
      simp only [f1, f3, f6]
      refine ⟨H3.instOf (by decide +kernel), x, D, true, r, two, one, rfl, H3, hi, h64, hp, (mem_openL.1 htwo).2, hne, fun c1 ch1 hp1 hd1 hc1 => k5 _ _ ?_⟩
      have c1b : b ≠ c1 := fun z => by rw [← z, W2.fb] at hc1; cases hc1
      have W3 := W2.add hb hc1 ch1 (s := true) (hue := one) (other := two) hone htwo hp1 hd1
      refine tSeq_k fun K5 k5 r5 _ _ => ?_
      simp only [tNop, tRet, tFlow, tDo, tIfS, tAssign, tAssignT, tAssignComp, tFor, tIter, walkV, tRange1, tEnum, tMethod, typeV, tAppend, tCount, tCall, tLen, lenV, tMax, tMin, tListOf, tIsI, isiV, tListComp, tComp, tList, tTuple, tNil, tCons, tConst, tName, tTruth, truthV, tNotB, tAndB, tOrB, tConstB, tCmp, tCmpB, tCmp2B, cmpV, tBin, binV, tNot, tNeg, tIf, tAnd, tOr, tItem, tSlice, sliceV, boundV, Loc.setAll, Loc.set, Loc.empty, Loc.bare, bindV, String.reduceEq, reduceIte, List.length_cons, List.length_nil, tAttr, tMethI, tSetItem, tCmp2, tSetAttr, tDict0, tDict2, sIsNumber, tListRange, tNeDict0, tValues, tLenSet, tMulList, tSliceR, tNew]
      simp only [f5, f6, AH.set_same, List.length_map, AH.set_other c1b, W2.fb]
      refine ⟨trivial, by simp [Fits], by simp [Fits]; omega, k5 _ _ ?_⟩
      have hq1 : (fs.map quad ++ [V.tup [V.int (ch1.length : Int), V.int one, V.int two, V.ref c1]]) = (fs ++ [((ch1.length : Int), one, two, c1)]).map quad := by simp [quad]
      rw [hq1]
      generalize hσ3 : (σ2.set c1 (.list (ch1.map fun x => V.int x.n))).set b (.list ((fs ++ [((ch1.length : Int), one, two, c1)]).map quad)) = σ3 at W3 ⊢
      have ob1 : o1 ≠ b := fun z => by rw [z, W2.fb] at ho3; injection ho3 with ho3; injection ho3 with ho3; rw [z, AH.set_same] at ho1; cases ho1
      have ob2 : o2 ≠ b := fun z => by rw [z, W.fb] at ho2; cases ho2
      have go1 : σ3 o1 = some (.list ((openL D.S false l m).map V.int)) := by rw [← hσ3, AH.set_other ob1]; exact new_keeps ho3 hc1
      have go2 : σ3 o2 = some (.list ((openL D.S true r m).map V.int)) := by rw [← hσ3, AH.set_other ob2]; exact new_keeps ho4 hc1
      have H4 := H.sub W3.sub
      refine tSeq_k fun K5 k5 r5 _ _ => ?_
      simp only [tNop, tRet, tFlow, tDo, tIfS, tAssign, tAssignT, tAssignComp, tFor, tIter, walkV, tRange1, tEnum, tMethod, typeV, tAppend, tCount, tCall, tLen, lenV, tMax, tMin, tListOf, tIsI, isiV, tListComp, tComp, tList, tTuple, tNil, tCons, tConst, tName, tTruth, truthV, tNotB, tAndB, tOrB, tConstB, tCmp, tCmpB, tCmp2B, cmpV, tBin, binV, tNot, tNeg, tIf, tAnd, tOr, tItem, tSlice, sliceV, boundV, Loc.setAll, Loc.set, Loc.empty, Loc.bare, bindV, String.reduceEq, reduceIte, List.length_cons, List.length_nil, tAttr, tMethI, tSetItem, tCmp2, tSetAttr, tDict0, tDict2, sIsNumber, tListRange, tNeDict0, tValues, tLenSet, tMulList, tSliceR, tNew]
      simp only [f1, f2, f6]
      refine ⟨H4.instOf (by decide +kernel), x, D, false, l, one, two, rfl, H4, hi, h64, hp, (mem_openL.1 hone).2, Ne.symm hne, fun c2 ch2 hp2 hd2 hc2 => k5 _ _ ?_⟩
      have c2b : b ≠ c2 := fun z => by rw [← z, W3.fb] at hc2; cases hc2
      have W4 := W3.add hb hc2 ch2 (s := false) (hue := two) (other := one) htwo hone hp2 hd2
      refine tSeq_k fun K5 k5 r5 _ _ => ?_
      simp only [tNop, tRet, tFlow, tDo, tIfS, tAssign, tAssignT, tAssignComp, tFor, tIter, walkV, tRange1, tEnum, tMethod, typeV, tAppend, tCount, tCall, tLen, lenV, tMax, tMin, tListOf, tIsI, isiV, tListComp, tComp, tList, tTuple, tNil, tCons, tConst, tName, tTruth, truthV, tNotB, tAndB, tOrB, tConstB, tCmp, tCmpB, tCmp2B, cmpV, tBin, binV, tNot, tNeg, tIf, tAnd, tOr, tItem, tSlice, sliceV, boundV, Loc.setAll, Loc.set, Loc.empty, Loc.bare, bindV, String.reduceEq, reduceIte, List.length_cons, List.length_nil, tAttr, tMethI, tSetItem, tCmp2, tSetAttr, tDict0, tDict2, sIsNumber, tListRange, tNeDict0, tValues, tLenSet, tMulList, tSliceR, tNew]
      simp only [f5, f6, AH.set_same, List.length_map, AH.set_other c2b, W3.fb]
      refine ⟨trivial, by simp [Fits], by simp [Fits]; omega, k5 _ _ (k4 _ _ ?_)⟩
      have hq2 : ((fs ++ [((ch1.length : Int), one, two, c1)]).map quad ++ [V.tup [V.int (ch2.length : Int), V.int two, V.int one, V.ref c2]]) = ((fs ++ [((ch1.length : Int), one, two, c1)]) ++ [((ch2.length : Int), two, one, c2)]).map quad := by simp [quad]
      rw [hq2]
      refine ⟨done2 ++ [two], rest2, _, by simpa using h3, rfl, f1, f2, f3, f4, f5, f6, W4, ?_, ?_, fun o hO t hT => ⟨(hg2 o hO t hT).1.more.more, (hg2 o hO t hT).2.more.more⟩, fun t hT => ?_, ?_⟩
      · rw [AH.set_other ob1]; exact new_keeps go1 hc2
      · rw [AH.set_other ob2]; exact new_keeps go2 hc2
      · rcases List.mem_append.1 hT with q | q
        · exact ⟨(hg3 t q).1.more.more, (hg3 t q).2.more.more⟩
        · rw [List.mem_singleton.1 q]
          exact ⟨⟨((ch1.length : Int), one, two, c1), by simp, rfl, rfl⟩, ⟨((ch2.length : Int), two, one, c2), by simp, rfl, rfl⟩⟩
      · simp only [List.length_append, List.length_singleton]; omega
end
section
open PySem PySem.W PyProof.Rows
variable {g : Gr} {P : Params}
theorem f_hued (hK : (KK P).In g.b0) (N : NN g) (M_open_hues : FnM g (KK P) CC "open_hues" 6 (sOpen CC)) (M_ways : FnM g (KK P) CC "ways" 6 (sWays CC)) (M_turn : FnM g (KK P) CC "turn" 6 (sTurn CC)) : SndC g 7 (.ref 215) (sHued CC) := by
  refine SndC.mono (sndC_def (r := 6) (ps := ["self", "number", "left", "right", "many"]) (hK 215 _ rfl) rfl (CodeRec.mk' (hK 214 _ rfl) rfl rfl) rfl (by intro vs h; obtain ⟨a0, a1, a2, a3, a4, rfl⟩ := len5 h; rfl) rfl rfl rfl (by decide +kernel)
    (sndSs_cons (sndS_setItem (sndE_attr hK hC CF.a_rows rfl rfl (sndE_name (.head _) rfl)) (sndE_name (at_ (i := 1) rfl) rfl) (sndE_list (sndL_cons (sndE_name (at_ (i := 2) rfl) rfl) (sndL_cons (sndE_name (at_ (i := 3) rfl) rfl) (sndL_cons sndE_none sndL_nil)))) (fun _ => rfl))
  (sndSs_cons (sndS_assignComp (at_ (i := 6) rfl) rfl (by decide +kernel) (sndI_value (sndE_methI hK hC M_open_hues (sndE_name (.head _) rfl) (sndL_cons (sndE_global (at_ (i := 10) rfl) (N.n_LEFT) (fun _ => VR_str.mpr ⟨fitsS (by decide), _, rfl⟩)) (sndL_cons (sndE_name (at_ (i := 2) rfl) rfl) (sndL_cons (sndE_name (at_ (i := 4) rfl) rfl) sndL_nil))) rfl rfl rfl rfl)) (.name (at_ (i := 1) rfl) rfl) (by decide +kernel) (sndT_one (sndB_cmp (sndE_name (at_ (i := 1) rfl) rfl) (sndE_methI hK hC M_open_hues (sndE_name (at_ (i := 5) rfl) rfl) (sndL_cons (sndE_global (at_ (i := 2) rfl) (N.n_RIGHT) (fun _ => VR_str.mpr ⟨fitsS (by decide), _, rfl⟩)) (sndL_cons (sndE_name (at_ (i := 4) rfl) rfl) (sndL_cons (sndE_name (at_ (i := 3) rfl) rfl) sndL_nil))) rfl rfl rfl rfl) rfl)) (sndE_name (at_ (i := 1) rfl) rfl) (fun _ _ => rfl))
  (sndSs_cons (sndS_if (sndB_cmp (sndE_name (at_ (i := 6) rfl) rfl) (sndE_list sndL_nil) rfl) (sndSs_cons (sndS_setItem (sndE_item (sndE_attr hK hC CF.a_rows rfl rfl (sndE_name (.head _) rfl)) (sndE_name (at_ (i := 1) rfl) rfl) (fun _ _ => rfl)) sndE_int (sndE_item (sndE_name (at_ (i := 6) rfl) rfl) sndE_int (fun _ _ => rfl)) (fun _ => rfl))
  (sndSs_cons (sndS_return (sndE_tuple (sndL_cons (sndE_name (at_ (i := 1) rfl) rfl) (sndL_cons (sndE_item (sndE_name (at_ (i := 6) rfl) rfl) sndE_int (fun _ _ => rfl)) (sndL_cons sndE_none (sndL_cons (sndE_list sndL_nil) sndL_nil))))))
  sndSs_nil)) sndSs_nil)
  (sndSs_cons (sndS_assignT (.cons (at_ (i := 7) rfl) rfl (.cons (at_ (i := 5) rfl) rfl (.cons (at_ (i := 8) rfl) rfl (.cons (at_ (i := 9) rfl) rfl .nil)))) (sndE_call (at_ (i := 11) rfl) (fn_builtin N.n_min sndF_minT) (sndL_cons (sndE_methI hK hC M_ways (sndE_name (.head _) rfl) (sndL_cons (sndE_name (at_ (i := 2) rfl) rfl) (sndL_cons (sndE_name (at_ (i := 3) rfl) rfl) (sndL_cons (sndE_name (at_ (i := 4) rfl) rfl) sndL_nil))) rfl rfl rfl rfl) sndL_nil) rfl) (fun _ => rfl) (fun _ => rfl))
  (sndSs_cons (sndS_expr (sndE_methI hK hC M_turn (sndE_name (.head _) rfl) (sndL_cons (sndE_name (at_ (i := 9) rfl) rfl) (sndL_cons (sndE_name (at_ (i := 5) rfl) rfl) (sndL_cons (sndE_name (at_ (i := 8) rfl) rfl) sndL_nil))) rfl rfl rfl rfl) (fun _ => rfl))
  (sndSs_cons (sndS_setItem (sndE_item (sndE_attr hK hC CF.a_rows rfl rfl (sndE_name (.head _) rfl)) (sndE_name (at_ (i := 1) rfl) rfl) (fun _ _ => rfl)) sndE_int (sndE_name (at_ (i := 5) rfl) rfl) (fun _ => rfl))
  (sndSs_cons (sndS_return (sndE_tuple (sndL_cons (sndE_name (at_ (i := 1) rfl) rfl) (sndL_cons (sndE_name (at_ (i := 5) rfl) rfl) (sndL_cons (sndE_name (at_ (i := 8) rfl) rfl) (sndL_cons (sndE_call (at_ (i := 12) rfl) (fn_type N.n_list sndF_list) (sndL_cons (sndE_name (at_ (i := 9) rfl) rfl) sndL_nil) rfl) sndL_nil))))))
  sndSs_nil)))))))) ?_
  rintro xs σ Q E ⟨x, D, t, m, rfl, ht, H, hi, h64, hm, hp0, hdl, hdr, h⟩
  refine tFun_k rfl fun K KE kret kend _ => ?_
  simp only [Loc.setAll]
  refine tSeq_k fun K1 k1 r1 _ _ => ?_
  simp only [tNop, tRet, tFlow, tDo, tIfS, tAssign, tAssignT, tAssignComp, tFor, tIter, walkV, tRange1, tEnum, tMethod, typeV, tAppend, tCount, tCall, tLen, lenV, tMax, tMin, tListOf, tIsI, isiV, tListComp, tComp, tList, tTuple, tNil, tCons, tConst, tName, tTruth, truthV, tNotB, tAndB, tOrB, tConstB, tCmp, tCmpB, tCmp2B, cmpV, tBin, binV, tNot, tNeg, tIf, tAnd, tOr, tItem, tSlice, sliceV, boundV, Loc.setAll, Loc.set, Loc.empty, Loc.bare, bindV, String.reduceEq, reduceIte, List.length_cons, List.length_nil, tAttr, tMethI, tSetItem, tCmp2, tSetAttr, tDict0, tDict2, sIsNumber, tListRange, tNeDict0, tValues, tLenSet, tMulList, tSliceR, tNew]
  refine ⟨by simp [Fits], fun p hp => ?_⟩
  have H0 := H.sub (Sub.refl.new (o := .list [V.int t.1.l, V.int t.1.r, V.none]) hp)
  simp only [H0.rowsA]
  obtain ⟨e0, er0⟩ := H0.rows
  simp only [setItemV, er0]
  refine ⟨_, rfl, by simp [Fits]; omega, fun ep => k1 _ _ ?_⟩
  have H1 := H.renew hi ht hp ep
  generalize hσ1 : (σ.set p (.list [V.int t.1.l, V.int t.1.r, V.none])).set D.rd (.dictI (putD (D.T.map fun t => (t.1.n, V.ref t.2)) t.1.n (.ref p)) ep) = σ1 at H1
  generalize hD1 : D.renew t.1.n p = D1 at H1
  have hS1 : D1.S = D.S.map (putH t.1.n none) := by rw [← hD1]; exact HD.renew_S
  rw [← hS1] at hp0 h
  have hi1 : Inc D1.S := by rw [hS1]; exact inc_map (fun _ => putH_n) hi
  have h641 : D1.T.length < 64 := by rw [← hD1]; simpa [HD.renew] using h64
  have ht1 : (putH t.1.n none t.1, p) ∈ D1.T := by rw [← hD1]; exact renew_mem ht rfl
  have prow : (putH t.1.n none t.1).n = t.1.n ∧ (putH t.1.n none t.1).l = t.1.l ∧ (putH t.1.n none t.1).r = t.1.r ∧ (putH t.1.n none t.1).h = none := by unfold putH; rw [if_pos rfl]; exact ⟨rfl, rfl, rfl, rfl⟩
  have hxS : putH t.1.n none t.1 ∈ D1.S := List.mem_map.2 ⟨_, ht1, rfl⟩
  have sm1 : D1.a = D.a ∧ D1.b = D.b ∧ D1.nx = D.nx ∧ D1.d = D.d ∧ D1.rd = D.rd := by rw [← hD1]; exact ⟨rfl, rfl, rfl, rfl, rfl⟩
  have keep1 : ∀ y o, σ y = some o → ¬ D.foot y → σ1 y = some o := fun y o q nf => by
    rw [← hσ1, AH.set_other fun z => nf (.inr (.inl z))]
    exact new_keeps q hp
  have addr1 : ∀ y, y ∈ D1.T.map (·.2) → y = p ∨ y ∈ D.T.map (·.2) := fun y q => renew_addr (by rw [hD1]; exact q)
  have fr1 : ∀ {T' : List (Rw × Addr)}, T'.map (·.2) = D1.T.map (·.2) → ∀ y, HD.foot { D1 with T := T' } y → D.foot y ∨ σ y = none := fun {T'} hT y q => by
    rcases q with q | q | q
    · exact .inl (.inl (q.trans sm1.2.2.2.1))
    · exact .inl (.inr (.inl (q.trans sm1.2.2.2.2)))
    · have q : y ∈ T'.map (·.2) := q
      rw [hT] at q
      rcases addr1 y q with w | w
      · exact .inr (by rw [w]; exact hp)
      · exact .inl (.inr (.inr w))
  have some1 : ∀ y, σ y ≠ none → σ1 y ≠ none := fun y q => by
    cases e : σ y with
    | none => exact absurd e q
    | some o =>
      rw [← hσ1]
      by_cases z : y = D.rd
      · rw [z, AH.set_same]; simp
      · rw [AH.set_other z, new_keeps e hp]; simp
  have none1 : ∀ y, σ1 y = none → σ y = none := fun y q => by
    cases e : σ y with
    | none => rfl
    | some o => exact absurd q (some1 y (by rw [e]; simp))
  have hdeg : ∀ s, deg D1.S s (endS t.1.l t.1.r s) ≤ m := fun s => by
    rw [hS1, deg_map fun _ _ => putH_e]
    cases s with
    | false => exact hdl
    | true => exact hdr
  have hopen : ∀ s, ∃ hu, hu ∈ openL D1.S s (endS t.1.l t.1.r s) m := fun s => by
    obtain ⟨hu, a, b, c⟩ := exists_free (hdeg s) ⟨_, hxS, by cases s <;> simp [Rw.e, endS, prow], prow.2.2.2⟩
    exact ⟨hu, mem_openL.2 ⟨⟨a, b⟩, c⟩⟩
  -- the hues open at both
  refine tSeq_k fun K1 k1 r1 _ _ => ?_
  simp only [tNop, tRet, tFlow, tDo, tIfS, tAssign, tAssignT, tAssignComp, tFor, tIter, walkV, tRange1, tEnum, tMethod, typeV, tAppend, tCount, tCall, tLen, lenV, tMax, tMin, tListOf, tIsI, isiV, tListComp, tComp, tList, tTuple, tNil, tCons, tConst, tName, tTruth, truthV, tNotB, tAndB, tOrB, tConstB, tCmp, tCmpB, tCmp2B, cmpV, tBin, binV, tNot, tNeg, tIf, tAnd, tOr, tItem, tSlice, sliceV, boundV, Loc.setAll, Loc.set, Loc.empty, Loc.bare, bindV, String.reduceEq, reduceIte, List.length_cons, List.length_nil, tAttr, tMethI, tSetItem, tCmp2, tSetAttr, tDict0, tDict2, sIsNumber, tListRange, tNeDict0, tValues, tLenSet, tMulList, tSliceR, tNew]
  refine ⟨H1.instOf (by decide +kernel), x, D1, false, t.1.l, m, rfl, H1, hi1, h641, by omega, fun o1 ho1 => ?_⟩
  simp only [AH.set_same]
  have s2 : Sub σ1 (σ1.set o1 (.list ((openL D1.S false t.1.l m).map V.int))) := Sub.refl.new ho1
  refine ⟨nofun, compT_growS V.int (fun hu => decide (hu ∈ openL D1.S true t.1.r m)) V.int (openL D1.S false t.1.l m) (fun σ' hs => hs _ _ AH.set_same) (fun hu _ σ3 s3 => ⟨_, fun P h => h, fun Qb hQ => ?_, fun _ σ4 s4 Qv hQ => ?_⟩) fun σ3 s3 d hd => ?_⟩
  · simp only [tNop, tRet, tFlow, tDo, tIfS, tAssign, tAssignT, tAssignComp, tFor, tIter, walkV, tRange1, tEnum, tMethod, typeV, tAppend, tCount, tCall, tLen, lenV, tMax, tMin, tListOf, tIsI, isiV, tListComp, tComp, tList, tTuple, tNil, tCons, tConst, tName, tTruth, truthV, tNotB, tAndB, tOrB, tConstB, tCmp, tCmpB, tCmp2B, cmpV, tBin, binV, tNot, tNeg, tIf, tAnd, tOr, tItem, tSlice, sliceV, boundV, Loc.setAll, Loc.set, Loc.empty, Loc.bare, bindV, String.reduceEq, reduceIte, List.length_cons, List.length_nil, tAttr, tMethI, tSetItem, tCmp2, tSetAttr, tDict0, tDict2, sIsNumber, tListRange, tNeDict0, tValues, tLenSet, tMulList, tSliceR, tNew]
    have H3 := H1.sub (s2.trans s3)
    refine ⟨H3.instOf (by decide +kernel), x, D1, true, t.1.r, m, rfl, H3, hi1, h641, by omega, fun o2 ho2 => ?_⟩
    exact inD_ints AH.set_same (hQ _ (Sub.refl.new ho2))
  · simp only [tNop, tRet, tFlow, tDo, tIfS, tAssign, tAssignT, tAssignComp, tFor, tIter, walkV, tRange1, tEnum, tMethod, typeV, tAppend, tCount, tCall, tLen, lenV, tMax, tMin, tListOf, tIsI, isiV, tListComp, tComp, tList, tTuple, tNil, tCons, tConst, tName, tTruth, truthV, tNotB, tAndB, tOrB, tConstB, tCmp, tCmpB, tCmp2B, cmpV, tBin, binV, tNot, tNeg, tIf, tAnd, tOr, tItem, tSlice, sliceV, boundV, Loc.setAll, Loc.set, Loc.empty, Loc.bare, bindV, String.reduceEq, reduceIte, List.length_cons, List.length_nil, tAttr, tMethI, tSetItem, tCmp2, tSetAttr, tDict0, tDict2, sIsNumber, tListRange, tNeDict0, tValues, tLenSet, tMulList, tSliceR, tNew]
    exact hQ _ Sub.refl
  generalize hboth : (openL D1.S false t.1.l m).filter (fun hu => decide (hu ∈ openL D1.S true t.1.r m)) = both at hd ⊢
  have s4 : Sub σ1 (σ3.set d (.list (both.map V.int))) := (s2.trans s3).new hd
  have hd1 : σ1 d = none := (s2.trans s3).none hd
  refine k1 _ _ ?_
  refine tSeq_k fun K1 k1 r1 _ _ => ?_
  simp only [tNop, tRet, tFlow, tDo, tIfS, tAssign, tAssignT, tAssignComp, tFor, tIter, walkV, tRange1, tEnum, tMethod, typeV, tAppend, tCount, tCall, tLen, lenV, tMax, tMin, tListOf, tIsI, isiV, tListComp, tComp, tList, tTuple, tNil, tCons, tConst, tName, tTruth, truthV, tNotB, tAndB, tOrB, tConstB, tCmp, tCmpB, tCmp2B, cmpV, tBin, binV, tNot, tNeg, tIf, tAnd, tOr, tItem, tSlice, sliceV, boundV, Loc.setAll, Loc.set, Loc.empty, Loc.bare, bindV, String.reduceEq, reduceIte, List.length_cons, List.length_nil, tAttr, tMethI, tSetItem, tCmp2, tSetAttr, tDict0, tDict2, sIsNumber, tListRange, tNeDict0, tValues, tLenSet, tMulList, tSliceR, tNew]
  refine ⟨by simp [Fits], fun e he => ?_⟩
  have s5 : Sub σ1 ((σ3.set d (.list (both.map V.int))).set e (.list [])) := s4.new he
  have hbe : ((σ3.set d (.list (both.map V.int))).set e (.list [])) d = some (.list (both.map V.int)) := new_keeps AH.set_same he
  refine eqD_ints (ns := both) (ms := []) hbe AH.set_same ?_
  generalize hσ5 : (σ3.set d (.list (both.map V.int))).set e (.list []) = σ5 at s5 hbe
  have H5 := H1.sub s5
  cases both with
  | cons hu both =>
    have hbn : ((hu :: both) == ([] : List Int)) = false := rfl
    simp only [hbn, Bool.not_false]
    have hmem : hu ∈ openL D1.S false t.1.l m ∧ hu ∈ openL D1.S true t.1.r m := by
      have : hu ∈ (openL D1.S false t.1.l m).filter (fun hu => decide (hu ∈ openL D1.S true t.1.r m)) := by rw [hboth]; simp
      simpa using List.mem_filter.1 this
    refine tSeq_k fun K2 k2 r2 _ _ => ?_
    simp only [tNop, tRet, tFlow, tDo, tIfS, tAssign, tAssignT, tAssignComp, tFor, tIter, walkV, tRange1, tEnum, tMethod, typeV, tAppend, tCount, tCall, tLen, lenV, tMax, tMin, tListOf, tIsI, isiV, tListComp, tComp, tList, tTuple, tNil, tCons, tConst, tName, tTruth, truthV, tNotB, tAndB, tOrB, tConstB, tCmp, tCmpB, tCmp2B, cmpV, tBin, binV, tNot, tNeg, tIf, tAnd, tOr, tItem, tSlice, sliceV, boundV, Loc.setAll, Loc.set, Loc.empty, Loc.bare, bindV, String.reduceEq, reduceIte, List.length_cons, List.length_nil, tAttr, tMethI, tSetItem, tCmp2, tSetAttr, tDict0, tDict2, sIsNumber, tListRange, tNeDict0, tValues, tLenSet, tMulList, tSliceR, tNew]
    have hit : ∀ (Q : V → Prop), Q (.ref p) → itemV (.ref D1.rd) (.int t.1.n) σ5 Q := fun Q hQ => by
      have := H5.item hi1 ht1 (Q := Q) hQ
      rw [prow.1] at this; exact this
    refine itemL hbe (atV_int (by decide) rfl) ?_
    simp only [H5.rowsA]
    refine hit _ ?_
    simp only [setItemV, H5.row _ ht1]
    refine ⟨2, rfl, by simp [rowL], k2 _ _ ?_⟩
    have H6 := H5.setHue hi1 ht1 (some hu)
    have hrow : ((rowL (putH t.1.n none t.1)).set 2 (V.int hu)) = rowL { putH t.1.n none t.1 with h := some hu } := by simp [rowL, hueV]
    rw [hrow]
    rw [prow.1] at H6
    have dp : d ≠ p := fun z => by have := H1.row _ ht1; rw [← z, hd1] at this; cases this
    have hbd : (σ5.set p (.list (rowL { putH t.1.n none t.1 with h := some hu }))) d = some (.list ((hu :: both).map V.int)) := by rw [AH.set_other dp]; exact hbe
    generalize hσ6 : σ5.set p (.list (rowL { putH t.1.n none t.1 with h := some hu })) = σ6 at H6 hbd
    refine tSeq_k fun K2 k2 r2 _ _ => ?_
    simp only [tNop, tRet, tFlow, tDo, tIfS, tAssign, tAssignT, tAssignComp, tFor, tIter, walkV, tRange1, tEnum, tMethod, typeV, tAppend, tCount, tCall, tLen, lenV, tMax, tMin, tListOf, tIsI, isiV, tListComp, tComp, tList, tTuple, tNil, tCons, tConst, tName, tTruth, truthV, tNotB, tAndB, tOrB, tConstB, tCmp, tCmpB, tCmp2B, cmpV, tBin, binV, tNot, tNeg, tIf, tAnd, tOr, tItem, tSlice, sliceV, boundV, Loc.setAll, Loc.set, Loc.empty, Loc.bare, bindV, String.reduceEq, reduceIte, List.length_cons, List.length_nil, tAttr, tMethI, tSetItem, tCmp2, tSetAttr, tDict0, tDict2, sIsNumber, tListRange, tNeDict0, tValues, tLenSet, tMulList, tSliceR, tNew]
    refine itemL hbd (atV_int (by decide) rfl) ?_
    refine ⟨by simp [Fits], fun c hc => ⟨by simp [Fits], r2 _ _ _ (r1 _ _ _ (kret _ _ _ _ Sub.refl ?_))⟩⟩
    have keep6 : ∀ y o, σ y = some o → ¬ D.foot y → σ6 y = some o := fun y o q nf => by
      rw [← hσ6, AH.set_other fun z => by rw [z, hp] at q; cases q]
      exact s5 _ _ (keep1 y o q nf)
    have none6 : ∀ y, σ6 y = none → σ1 y = none := fun y q => by
      rw [← hσ6] at q
      by_cases z : y = p
      · rw [z, AH.set_same] at q; cases q
      · rw [AH.set_other z] at q; exact s5.none q
    refine h (σ6.set c (.list [])) (D1.put t.1.n (some hu)) hu none [] c (H6.sub (Sub.refl.new hc)) ⟨fun y o q nf => new_keeps (keep6 y o q nf) hc, fr1 HD.put_addr, ⟨sm1.1, sm1.2.1, sm1.2.2.1⟩, fun y q => none1 y (none6 y ((Sub.refl.new hc).none q))⟩ (.inl ⟨rfl, rfl, hmem.1, hmem.2, HD.put_S⟩) (none1 c (none6 c hc)) (fun q => ?_) AH.set_same
    rcases q with q | q | q
    · have := H6.attrs; rw [← q, hc] at this; cases this
    · obtain ⟨_, this⟩ := H6.rows; rw [← q, hc] at this; cases this
    · obtain ⟨u, hu', rfl⟩ := List.mem_map.1 q
      have := H6.row u hu'; rw [hc] at this; cases this
  | nil =>
    have hdis : ∀ hu ∈ openL D1.S false t.1.l m, hu ∉ openL D1.S true t.1.r m := fun hu h1 h2 => by
      have : hu ∈ (openL D1.S false t.1.l m).filter (fun hu => decide (hu ∈ openL D1.S true t.1.r m)) := List.mem_filter.2 ⟨h1, by simpa using h2⟩
      rw [hboth] at this; cases this
    simp only [BEq.rfl, Bool.not_true]
    refine k1 _ _ ?_
    refine tSeq_k fun K1 k1 r1 _ _ => ?_
    simp only [tNop, tRet, tFlow, tDo, tIfS, tAssign, tAssignT, tAssignComp, tFor, tIter, walkV, tRange1, tEnum, tMethod, typeV, tAppend, tCount, tCall, tLen, lenV, tMax, tMin, tListOf, tIsI, isiV, tListComp, tComp, tList, tTuple, tNil, tCons, tConst, tName, tTruth, truthV, tNotB, tAndB, tOrB, tConstB, tCmp, tCmpB, tCmp2B, cmpV, tBin, binV, tNot, tNeg, tIf, tAnd, tOr, tItem, tSlice, sliceV, boundV, Loc.setAll, Loc.set, Loc.empty, Loc.bare, bindV, String.reduceEq, reduceIte, List.length_cons, List.length_nil, tAttr, tMethI, tSetItem, tCmp2, tSetAttr, tDict0, tDict2, sIsNumber, tListRange, tNeDict0, tValues, tLenSet, tMulList, tSliceR, tNew]
    refine ⟨H5.instOf (by decide +kernel), x, D1, t.1.l, t.1.r, m, rfl, H5, hi1, h641, hp0, hm, hdis, fun σ6 w es s6 hw5 hw6 hways hgot => ?_⟩
    have hes : es ≠ [] := by
      obtain ⟨a, ha⟩ := hopen false
      obtain ⟨b, hb⟩ := hopen true
      obtain ⟨⟨q, hq, _⟩, _⟩ := hgot a ha b hb
      intro z; rw [z] at hq; cases hq
    have uniq : ∀ q ∈ es, ∀ q' ∈ es, q.2.1 = q'.2.1 → q.2.2.1 = q'.2.2.1 → ∀ {s s' c c'}, q.2.1 ∈ openL D1.S (!s) (endS t.1.l t.1.r (!s)) m → q.2.2.1 ∈ openL D1.S s (endS t.1.l t.1.r s) m → Path D1.S s (endS t.1.l t.1.r s) q.2.2.1 q.2.1 c → PDone D1.S s (endS t.1.l t.1.r s) q.2.2.1 q.2.1 c →
        q'.2.1 ∈ openL D1.S (!s') (endS t.1.l t.1.r (!s')) m → q'.2.2.1 ∈ openL D1.S s' (endS t.1.l t.1.r s') m → Path D1.S s' (endS t.1.l t.1.r s') q'.2.2.1 q'.2.1 c' → PDone D1.S s' (endS t.1.l t.1.r s') q'.2.2.1 q'.2.1 c' → c = c' := by
      intro q _ q' _ z1 z2 s s' c c' a1 a2 a3 a4 b1 b2 b3 b4
      rw [← z1, ← z2] at b3 b4
      rw [← z1] at b1
      rw [← z2] at b2
      have hs : s = s' := by
        cases s <;> cases s'
        · rfl
        · exact absurd a1 (hdis _ b1)
        · exact absurd b1 (hdis _ a1)
        · rfl
      subst hs
      exact a3.unique hp0 hi1 a4 b3 b4
    refine ⟨w, es, rfl, hw6, hes, fun q hq => ?_, fun q hq hmin => ?_⟩
    · obtain ⟨⟨s, c, z1, z2, z3, z4, z5, z6⟩, _⟩ := hways q hq
      refine ⟨c.map Rw.n, by rw [z2, List.map_map]; rfl, fun q' hq' htri => ?_⟩
      obtain ⟨⟨s', c', y1, y2, y3, y4, y5, y6⟩, _⟩ := hways q' hq'
      simp only [tri, Prod.mk.injEq] at htri
      have := uniq q hq q' hq' htri.2.1 htri.2.2 z3 z4 z5 z6 y3 y4 y5 y6
      subst this
      rw [y2, List.map_map]; rfl
    · obtain ⟨⟨s, ch, z1, z2, z3, z4, z5, z6⟩, zc⟩ := hways q hq
      obtain ⟨ql, qh, qo, qc⟩ := q
      simp only at z1 z2 z3 z4 z5 z6 zc
      simp only [quad, partsV]
      refine ⟨rfl, ?_⟩
      simp only [Loc.setAll]
      refine k1 _ _ ?_
      have H6 := H5.sub s6
      have hne := open_ne hdis z3 z4
      have hfr := (mem_openL.1 z4).2
      have z2' : σ6 qc = some (.list ((ch.map Rw.n).map V.int)) := by rw [z2, List.map_map]; rfl
      have knot : t.1.n ∉ ch.map Rw.n := fun q => by
        obtain ⟨i, e⟩ := z5.at hi1 hxS (by rw [prow.1]; exact q)
        have := z5.hue i _ e
        rw [prow.2.2.2] at this; cases this
      have qcT : qc ∉ D1.T.map (·.2) := fun q => by
        obtain ⟨u, hu, z⟩ := List.mem_map.1 q
        have := H5.row u hu
        rw [z, zc] at this; cases this
      refine tSeq_k fun K1 k1 r1 _ _ => ?_
      simp only [tNop, tRet, tFlow, tDo, tIfS, tAssign, tAssignT, tAssignComp, tFor, tIter, walkV, tRange1, tEnum, tMethod, typeV, tAppend, tCount, tCall, tLen, lenV, tMax, tMin, tListOf, tIsI, isiV, tListComp, tComp, tList, tTuple, tNil, tCons, tConst, tName, tTruth, truthV, tNotB, tAndB, tOrB, tConstB, tCmp, tCmpB, tCmp2B, cmpV, tBin, binV, tNot, tNeg, tIf, tAnd, tOr, tItem, tSlice, sliceV, boundV, Loc.setAll, Loc.set, Loc.empty, Loc.bare, bindV, String.reduceEq, reduceIte, List.length_cons, List.length_nil, tAttr, tMethI, tSetItem, tCmp2, tSetAttr, tDict0, tDict2, sIsNumber, tListRange, tNeDict0, tValues, tLenSet, tMulList, tSliceR, tNew]
      refine ⟨H6.instOf (by decide +kernel), x, D1, qc, ch.map Rw.n, qh, qo, rfl, H6, hi1, z2', qcT, z5.nodup hp0 hi1 hne hfr, fun k hk => ?_, fun σ7 H7 same7 => k1 _ _ ?_⟩
      · obtain ⟨y, hy, rfl⟩ := List.mem_map.1 hk
        obtain ⟨u, hu, rfl⟩ := mem_S (z5.mem y hy)
        obtain ⟨i, hil, ei⟩ := List.getElem_of_mem hy
        exact ⟨u, hu, rfl, _, z5.hue i u.1 (by rw [List.getElem?_eq_getElem hil, ei])⟩
      · have hi7 : Inc (D1.flip (ch.map Rw.n) qh qo).S := inc_flip hi1
        have ht7 : (putH t.1.n none t.1, p) ∈ (D1.flip (ch.map Rw.n) qh qo).T := List.mem_map.2 ⟨_, ht1, by rw [flipH_out (by rw [prow.1]; exact knot)]⟩
        refine tSeq_k fun K1 k1 r1 _ _ => ?_
        simp only [tNop, tRet, tFlow, tDo, tIfS, tAssign, tAssignT, tAssignComp, tFor, tIter, walkV, tRange1, tEnum, tMethod, typeV, tAppend, tCount, tCall, tLen, lenV, tMax, tMin, tListOf, tIsI, isiV, tListComp, tComp, tList, tTuple, tNil, tCons, tConst, tName, tTruth, truthV, tNotB, tAndB, tOrB, tConstB, tCmp, tCmpB, tCmp2B, cmpV, tBin, binV, tNot, tNeg, tIf, tAnd, tOr, tItem, tSlice, sliceV, boundV, Loc.setAll, Loc.set, Loc.empty, Loc.bare, bindV, String.reduceEq, reduceIte, List.length_cons, List.length_nil, tAttr, tMethI, tSetItem, tCmp2, tSetAttr, tDict0, tDict2, sIsNumber, tListRange, tNeDict0, tValues, tLenSet, tMulList, tSliceR, tNew]
        simp only [H7.rowsA]
        have hit : ∀ (Q : V → Prop), Q (.ref p) → itemV (.ref (D1.flip (ch.map Rw.n) qh qo).rd) (.int t.1.n) σ7 Q := fun Q hQ => by
          have := H7.item hi7 ht7 (Q := Q) hQ
          rw [prow.1] at this; exact this
        refine hit _ ?_
        simp only [setItemV, H7.row _ ht7]
        refine ⟨2, rfl, by simp [rowL], k1 _ _ ?_⟩
        have H8 := H7.setHue hi7 ht7 (some qh)
        have hrow : ((rowL (putH t.1.n none t.1)).set 2 (V.int qh)) = rowL { putH t.1.n none t.1 with h := some qh } := by simp [rowL, hueV]
        rw [hrow]
        rw [prow.1] at H8
        have qcp : qc ≠ p := fun z => qcT (List.mem_map.2 ⟨_, ht1, z.symm⟩)
        have g8 : (σ7.set p (.list (rowL { putH t.1.n none t.1 with h := some qh }))) qc = some (.list ((ch.map Rw.n).map V.int)) := by rw [AH.set_other qcp, same7 qc qcT]; exact z2'
        generalize hσ8 : σ7.set p (.list (rowL { putH t.1.n none t.1 with h := some qh })) = σ8 at H8 g8
        refine tSeq_k fun K1 k1 r1 _ _ => ?_
        simp only [tNop, tRet, tFlow, tDo, tIfS, tAssign, tAssignT, tAssignComp, tFor, tIter, walkV, tRange1, tEnum, tMethod, typeV, tAppend, tCount, tCall, tLen, lenV, tMax, tMin, tListOf, tIsI, isiV, tListComp, tComp, tList, tTuple, tNil, tCons, tConst, tName, tTruth, truthV, tNotB, tAndB, tOrB, tConstB, tCmp, tCmpB, tCmp2B, cmpV, tBin, binV, tNot, tNeg, tIf, tAnd, tOr, tItem, tSlice, sliceV, boundV, Loc.setAll, Loc.set, Loc.empty, Loc.bare, bindV, String.reduceEq, reduceIte, List.length_cons, List.length_nil, tAttr, tMethI, tSetItem, tCmp2, tSetAttr, tDict0, tDict2, sIsNumber, tListRange, tNeDict0, tValues, tLenSet, tMulList, tSliceR, tNew]
        simp only [partsV, g8]
        refine fun c hc => ⟨by simp [Fits], r1 _ _ _ (kret _ _ _ _ Sub.refl ?_)⟩
        have keep8 : ∀ y o, σ y = some o → ¬ D.foot y → σ8 y = some o := fun y o q nf => by
          have yT : y ∉ D1.T.map (·.2) := fun z => by
            rcases addr1 y z with w | w
            · rw [w, hp] at q; cases q
            · exact nf (.inr (.inr w))
          rw [← hσ8, AH.set_other (fun z => by rw [z, hp] at q; cases q), same7 y yT]
          exact s6 _ _ (s5 _ _ (keep1 y o q nf))
        have none8 : ∀ y, σ8 y = none → σ1 y = none := fun y q => by
          rw [← hσ8] at q
          by_cases z : y = p
          · rw [z, AH.set_same] at q; cases q
          · rw [AH.set_other z] at q
            by_cases yT : y ∈ D1.T.map (·.2)
            · obtain ⟨u, hu, rfl⟩ := List.mem_map.1 yT
              have : (flipH (ch.map Rw.n) qh qo u.1, u.2) ∈ (D1.flip (ch.map Rw.n) qh qo).T := List.mem_map.2 ⟨u, hu, rfl⟩
              have := H7.row _ this
              rw [q] at this; cases this
            · rw [same7 y yT] at q; exact s5.none (s6.none q)
        refine h (σ8.set c (.list ((ch.map Rw.n).map V.int))) ((D1.flip (ch.map Rw.n) qh qo).put t.1.n (some qh)) qh (some qo) (ch.map Rw.n) c (H8.sub (Sub.refl.new hc)) ⟨fun y o q nf => new_keeps (keep8 y o q nf) hc, fr1 (HD.put_addr.trans HD.flip_addr), ⟨sm1.1, sm1.2.1, sm1.2.2.1⟩, fun y q => none1 y (none8 y ((Sub.refl.new hc).none q))⟩ (.inr ⟨hdis, qo, s, ch, rfl, rfl, z3, z4, z5, z6, ?_, ?_⟩) (none1 c (none8 c hc)) (fun q => ?_) AH.set_same
        · rw [HD.put_S, HD.flip_S]; rfl
        · intro s' hue' o' ch' y3 y4 y5 y6
          have hg : GotW es hue' o' := by
            cases s' with
            | false => exact (hgot o' y4 hue' y3).2
            | true => exact (hgot hue' y3 o' y4).1
          obtain ⟨q', hq', rfl, rfl⟩ := hg
          obtain ⟨⟨s'', c'', x1, x2, x3, x4, x5, x6⟩, _⟩ := hways q' hq'
          have := uniq q' hq' q' hq' rfl rfl x3 x4 x5 x6 y3 y4 y5 y6
          subst this
          have := hmin q' hq'
          rw [x1, z1] at this
          simp only at this
          exact_mod_cast this
        · rcases q with q | q | q
          · have := H8.attrs; rw [← q, hc] at this; cases this
          · obtain ⟨_, this⟩ := H8.rows; rw [← q, hc] at this; cases this
          · obtain ⟨u, hu', rfl⟩ := List.mem_map.1 q
            have := H8.row u hu'; rw [hc] at this; cases this
end
section
open PySem PySem.W PyProof.Rows
variable {g : Gr} {P : Params}
theorem f_need_end (hK : (KK P).In g.b0) (N : NN g) (F_is_number : FnG g "is_number" 2 sIsNumber) : SndC g 3 (.ref 153) (sNeedEnd CC) := by
  refine SndC.mono (sndC_def (r := 2) (ps := ["self", "side", "end"]) (hK 153 _ rfl) rfl (CodeRec.mk' (hK 152 _ rfl) rfl rfl) rfl (by intro vs h; obtain ⟨a0, a1, a2, rfl⟩ := len3 h; rfl) rfl rfl rfl (by decide +kernel)
    (sndSs_cons (sndS_if (sndB_boolop (sndBs_or (sndB_not (sndB_value (sndE_call (at_ (i := 3) rfl) F_is_number (sndL_cons (sndE_name (at_ (i := 2) rfl) rfl) sndL_nil) rfl) (fun _ _ => rfl))) (sndBs_or (sndB_not (sndB_cmp2 sndE_int (sndE_name (at_ (i := 2) rfl) rfl) (sndE_item (sndE_attr hK hC CF.a_sizes rfl rfl (sndE_name (.head _) rfl)) (sndE_name (at_ (i := 1) rfl) rfl) (fun _ _ => rfl)) rfl)) sndBs_or_nil))) (sndSs_cons sndS_dead
  sndSs_nil) sndSs_nil)
  sndSs_nil)) ?_
  rintro xs σ Q E ⟨x, D, s, e, rfl, H, h0, h1, h⟩
  refine tFun_k rfl fun K KE kret kend _ => ?_
  simp only [Loc.setAll]
  refine tSeq_k fun K1 k1 r1 _ _ => ?_
  simp only [tNop, tRet, tFlow, tDo, tIfS, tAssign, tAssignT, tAssignComp, tFor, tIter, walkV, tRange1, tEnum, tMethod, typeV, tAppend, tCount, tCall, tLen, lenV, tMax, tMin, tListOf, tIsI, isiV, tListComp, tComp, tList, tTuple, tNil, tCons, tConst, tName, tTruth, truthV, tNotB, tAndB, tOrB, tConstB, tCmp, tCmpB, tCmp2B, cmpV, tBin, binV, tNot, tNeg, tIf, tAnd, tOr, tItem, tSlice, sliceV, boundV, Loc.setAll, Loc.set, Loc.empty, Loc.bare, bindV, String.reduceEq, reduceIte, List.length_cons, List.length_nil, tAttr, tMethI, tSetItem, tCmp2, tSetAttr, tDict0, tDict2, sIsNumber, tListRange, tNeDict0, tValues, tLenSet, tMulList, tSliceR, tNew]
  refine ⟨e, rfl, ?_⟩
  simp only [Bool.not_true, decide_eq_true h0]
  simp only [H.sizesA]
  refine H.size s ?_
  simp only [decide_eq_true h1, Bool.not_true]
  refine k1 _ _ ?_
  simp only [tNop, tRet, tFlow, tDo, tIfS, tAssign, tAssignT, tAssignComp, tFor, tIter, walkV, tRange1, tEnum, tMethod, typeV, tAppend, tCount, tCall, tLen, lenV, tMax, tMin, tListOf, tIsI, isiV, tListComp, tComp, tList, tTuple, tNil, tCons, tConst, tName, tTruth, truthV, tNotB, tAndB, tOrB, tConstB, tCmp, tCmpB, tCmp2B, cmpV, tBin, binV, tNot, tNeg, tIf, tAnd, tOr, tItem, tSlice, sliceV, boundV, Loc.setAll, Loc.set, Loc.empty, Loc.bare, bindV, String.reduceEq, reduceIte, List.length_cons, List.length_nil, tAttr, tMethI, tSetItem, tCmp2, tSetAttr, tDict0, tDict2, sIsNumber, tListRange, tNeDict0, tValues, tLenSet, tMulList, tSliceR, tNew]
  exact kend _ _ _ Sub.refl h
theorem f_init (hK : (KK P).In g.b0) (N : NN g) (F_is_number : FnG g "is_number" 2 sIsNumber) : SndC g 3 (.ref 146) (sInit CC) := by
  refine SndC.mono (sndC_def (r := 2) (ps := ["self", "lefts", "rights"]) (hK 146 _ rfl) rfl (CodeRec.mk' (hK 145 _ rfl) rfl rfl) rfl (by intro vs h; obtain ⟨a0, a1, a2, rfl⟩ := len3 h; rfl) rfl rfl rfl (by decide +kernel)
    (sndSs_cons (sndS_for (sndI_value (sndE_tuple (sndL_cons (sndE_name (at_ (i := 1) rfl) rfl) (sndL_cons (sndE_name (at_ (i := 2) rfl) rfl) sndL_nil)))) (.name (at_ (i := 3) rfl) rfl) (sndSs_cons (sndS_if (sndB_boolop (sndBs_or (sndB_not (sndB_value (sndE_call (at_ (i := 4) rfl) F_is_number (sndL_cons (sndE_name (at_ (i := 3) rfl) rfl) sndL_nil) rfl) (fun _ _ => rfl))) (sndBs_or (sndB_not (sndB_cmp2 sndE_int (sndE_name (at_ (i := 3) rfl) rfl) (sndE_global (at_ (i := 5) rfl) (N.n_MOST_ENDS) (fun _ => VR_int.mpr ⟨_, rfl⟩)) rfl)) sndBs_or_nil))) (sndSs_cons sndS_dead
  sndSs_nil) sndSs_nil)
  sndSs_nil) (fun _ _ => rfl))
  (sndSs_cons (sndS_setAttr hK hC CF.t_sizes (sndE_name (.head _) rfl) (sndE_dict2 unmoved_const unmoved_name unmoved_const unmoved_name (sndE_global (at_ (i := 7) rfl) (N.n_LEFT) (fun _ => VR_str.mpr ⟨fitsS (by decide), _, rfl⟩)) (sndE_name (at_ (i := 1) rfl) rfl) (sndE_global (at_ (i := 8) rfl) (N.n_RIGHT) (fun _ => VR_str.mpr ⟨fitsS (by decide), _, rfl⟩)) (sndE_name (at_ (i := 2) rfl) rfl)) (fun _ => rfl))
  (sndSs_cons (sndS_setAttr hK hC CF.t_rows (sndE_name (.head _) rfl) sndE_dict0 (fun _ => rfl))
  (sndSs_cons (sndS_setAttr hK hC CF.t_next_number (sndE_name (.head _) rfl) sndE_int (fun _ => rfl))
  sndSs_nil))))) ?_
  rintro xs σ Q E ⟨x, d, a, b, rfl, ha1, ha2, hb1, hb2, hx, hd, h⟩
  refine tFun_k rfl fun K KE kret kend _ => ?_
  simp only [Loc.setAll]
  refine tSeq_k fun K1 k1 r1 _ _ => ?_
  simp only [tNop, tRet, tFlow, tDo, tIfS, tAssign, tAssignT, tAssignComp, tFor, tIter, walkV, tRange1, tEnum, tMethod, typeV, tAppend, tCount, tCall, tLen, lenV, tMax, tMin, tListOf, tIsI, isiV, tListComp, tComp, tList, tTuple, tNil, tCons, tConst, tName, tTruth, truthV, tNotB, tAndB, tOrB, tConstB, tCmp, tCmpB, tCmp2B, cmpV, tBin, binV, tNot, tNeg, tIf, tAnd, tOr, tItem, tSlice, sliceV, boundV, Loc.setAll, Loc.set, Loc.empty, Loc.bare, bindV, String.reduceEq, reduceIte, List.length_cons, List.length_nil, tAttr, tMethI, tSetItem, tCmp2, tSetAttr, tDict0, tDict2, sIsNumber, tListRange, tNeDict0, tValues, tLenSet, tMulList, tSliceR, tNew]
  refine ⟨by simp [Fits], nofun, ?_⟩
  refine loopT_k (fun xs ℓ σ' => ∃ ns : List Int, xs = ns.map V.int ∧ (∀ n ∈ ns, 1 ≤ n ∧ n ≤ 8) ∧ σ' = σ ∧ ℓ "self" = some (.ref x) ∧ ℓ "lefts" = some (.int a) ∧ ℓ "rights" = some (.int b)) ?_ ?_
    ⟨[a, b], rfl, by simp; omega, rfl, rfl, rfl, rfl⟩
  · rintro ℓ σ' ⟨ns, _, _, rfl, e1, e2, e3⟩
    refine ⟨trivial, k1 _ _ ?_⟩
    refine tSeq_k fun K1 k1 r1 _ _ => ?_
    simp only [tNop, tRet, tFlow, tDo, tIfS, tAssign, tAssignT, tAssignComp, tFor, tIter, walkV, tRange1, tEnum, tMethod, typeV, tAppend, tCount, tCall, tLen, lenV, tMax, tMin, tListOf, tIsI, isiV, tListComp, tComp, tList, tTuple, tNil, tCons, tConst, tName, tTruth, truthV, tNotB, tAndB, tOrB, tConstB, tCmp, tCmpB, tCmp2B, cmpV, tBin, binV, tNot, tNeg, tIf, tAnd, tOr, tItem, tSlice, sliceV, boundV, Loc.setAll, Loc.set, Loc.empty, Loc.bare, bindV, String.reduceEq, reduceIte, List.length_cons, List.length_nil, tAttr, tMethI, tSetItem, tCmp2, tSetAttr, tDict0, tDict2, sIsNumber, tListRange, tNeDict0, tValues, tLenSet, tMulList, tSliceR, tNew]
    simp only [e1, e2, e3]
    refine ⟨_, _, rfl, rfl, left_ne_right, fun sd ep hsd => ?_⟩
    have hdsd : d ≠ sd := fun z => by rw [← z, hd] at hsd; cases hsd
    have hxsd : x ≠ sd := fun z => by rw [← z, hx] at hsd; cases hsd
    have hxd : x ≠ d := fun z => by rw [z, hd] at hx; cases hx
    refine ⟨x, d, [], rfl, new_keeps hx hsd, new_keeps hd hsd, by simp [Fits], k1 _ _ ?_⟩
    generalize hσ1 : ((σ'.set sd (.dictS [(Str.ofString "left", .int a), (Str.ofString "right", .int b)] ep)).set d (.attrs [(Str.ofString "sizes", .ref sd)])) = σ1
    have x1 : σ1 x = some (.inst CC d) := by rw [← hσ1, AH.set_other hxd]; exact new_keeps hx hsd
    have d1 : σ1 d = some (.attrs [(Str.ofString "sizes", .ref sd)]) := by rw [← hσ1]; exact AH.set_same
    have sd1 : σ1 sd = some (.dictS [(Str.ofString "left", .int a), (Str.ofString "right", .int b)] ep) := by rw [← hσ1, AH.set_other (Ne.symm hdsd)]; exact AH.set_same
    have kp1 : ∀ y o, σ' y = some o → y ≠ d → σ1 y = some o := fun y o q n => by rw [← hσ1, AH.set_other n]; exact new_keeps q hsd
    refine tSeq_k fun K1 k1 r1 _ _ => ?_
    simp only [tNop, tRet, tFlow, tDo, tIfS, tAssign, tAssignT, tAssignComp, tFor, tIter, walkV, tRange1, tEnum, tMethod, typeV, tAppend, tCount, tCall, tLen, lenV, tMax, tMin, tListOf, tIsI, isiV, tListComp, tComp, tList, tTuple, tNil, tCons, tConst, tName, tTruth, truthV, tNotB, tAndB, tOrB, tConstB, tCmp, tCmpB, tCmp2B, cmpV, tBin, binV, tNot, tNeg, tIf, tAnd, tOr, tItem, tSlice, sliceV, boundV, Loc.setAll, Loc.set, Loc.empty, Loc.bare, bindV, String.reduceEq, reduceIte, List.length_cons, List.length_nil, tAttr, tMethI, tSetItem, tCmp2, tSetAttr, tDict0, tDict2, sIsNumber, tListRange, tNeDict0, tValues, tLenSet, tMulList, tSliceR, tNew]
    simp only [e1]
    refine fun rd ep2 hrd => ⟨x, d, _, rfl, new_keeps x1 hrd, new_keeps d1 hrd, by simp [Fits], k1 _ _ ?_⟩
    have hdrd : d ≠ rd := fun z => by rw [← z, d1] at hrd; cases hrd
    have hsrd : sd ≠ rd := fun z => by rw [← z, sd1] at hrd; cases hrd
    generalize hσ2 : ((σ1.set rd (.dictI [] ep2)).set d (.attrs [(Str.ofString "rows", .ref rd), (Str.ofString "sizes", .ref sd)])) = σ2
    have x2 : σ2 x = some (.inst CC d) := by rw [← hσ2, AH.set_other hxd]; exact new_keeps x1 hrd
    have d2 : σ2 d = some (.attrs [(Str.ofString "rows", .ref rd), (Str.ofString "sizes", .ref sd)]) := by rw [← hσ2]; exact AH.set_same
    have sd2 : σ2 sd = some (.dictS [(Str.ofString "left", .int a), (Str.ofString "right", .int b)] ep) := by rw [← hσ2, AH.set_other (Ne.symm hdsd)]; exact new_keeps sd1 hrd
    have rd2 : σ2 rd = some (.dictI [] ep2) := by rw [← hσ2, AH.set_other (Ne.symm hdrd)]; exact AH.set_same
    have kp2 : ∀ y o, σ1 y = some o → y ≠ d → σ2 y = some o := fun y o q n => by rw [← hσ2, AH.set_other n]; exact new_keeps q hrd
    refine tSeq_k fun K1 k1 r1 _ _ => ?_
    simp only [tNop, tRet, tFlow, tDo, tIfS, tAssign, tAssignT, tAssignComp, tFor, tIter, walkV, tRange1, tEnum, tMethod, typeV, tAppend, tCount, tCall, tLen, lenV, tMax, tMin, tListOf, tIsI, isiV, tListComp, tComp, tList, tTuple, tNil, tCons, tConst, tName, tTruth, truthV, tNotB, tAndB, tOrB, tConstB, tCmp, tCmpB, tCmp2B, cmpV, tBin, binV, tNot, tNeg, tIf, tAnd, tOr, tItem, tSlice, sliceV, boundV, Loc.setAll, Loc.set, Loc.empty, Loc.bare, bindV, String.reduceEq, reduceIte, List.length_cons, List.length_nil, tAttr, tMethI, tSetItem, tCmp2, tSetAttr, tDict0, tDict2, sIsNumber, tListRange, tNeDict0, tValues, tLenSet, tMulList, tSliceR, tNew]
    simp only [e1]
    refine ⟨x, d, _, rfl, x2, d2, by simp [Fits], k1 _ _ ?_⟩
    simp only [tNop, tRet, tFlow, tDo, tIfS, tAssign, tAssignT, tAssignComp, tFor, tIter, walkV, tRange1, tEnum, tMethod, typeV, tAppend, tCount, tCall, tLen, lenV, tMax, tMin, tListOf, tIsI, isiV, tListComp, tComp, tList, tTuple, tNil, tCons, tConst, tName, tTruth, truthV, tNotB, tAndB, tOrB, tConstB, tCmp, tCmpB, tCmp2B, cmpV, tBin, binV, tNot, tNeg, tIf, tAnd, tOr, tItem, tSlice, sliceV, boundV, Loc.setAll, Loc.set, Loc.empty, Loc.bare, bindV, String.reduceEq, reduceIte, List.length_cons, List.length_nil, tAttr, tMethI, tSetItem, tCmp2, tSetAttr, tDict0, tDict2, sIsNumber, tListRange, tNeDict0, tValues, tLenSet, tMulList, tSliceR, tNew]
    refine kend _ _ _ Sub.refl (h _ ⟨[], a, b, 0, d, rd, sd, [(Str.ofString "next_number", .int 0), (Str.ofString "rows", .ref rd), (Str.ofString "sizes", .ref sd)]⟩ ⟨(AH.set_other hxd).trans x2, AH.set_same, ?_, ?_, ?_, ?_, by simp, ⟨ep2, (AH.set_other (Ne.symm hdrd)).trans rd2⟩, fun t ht => absurd ht (by simp), by simp, ⟨ep, (AH.set_other (Ne.symm hdsd)).trans sd2⟩⟩ rfl rfl rfl rfl rfl ?_ fun y o q n => by rw [AH.set_other n]; exact kp2 y o (kp1 y o q n) n)
    · kernel_rfl
    · kernel_rfl
    · kernel_rfl
    · intro p hp
      simp at hp
      rcases hp with rfl | rfl | rfl <;> simp
    · show σ' rd = none
      cases q : σ' rd with
      | none => rfl
      | some o => rw [kp1 rd o q (Ne.symm hdrd)] at hrd; cases hrd
  · rintro v xs ℓ σ' K2 k2 r2 _ _ ⟨ns, h1, h2, rfl, e1, e2, e3⟩
    obtain ⟨n, ns, rfl⟩ : ∃ s r, ns = s :: r := by cases ns with | nil => simp at h1 | cons s r => exact ⟨s, r, rfl⟩
    simp only [List.map_cons, List.cons.injEq] at h1
    obtain ⟨rfl, rfl⟩ := h1
    have hn := h2 n (.head _)
    refine ⟨trivial, ?_⟩
    simp only [bindV]
    refine tSeq_k fun K3 k3 r3 _ _ => ?_
    simp only [tNop, tRet, tFlow, tDo, tIfS, tAssign, tAssignT, tAssignComp, tFor, tIter, walkV, tRange1, tEnum, tMethod, typeV, tAppend, tCount, tCall, tLen, lenV, tMax, tMin, tListOf, tIsI, isiV, tListComp, tComp, tList, tTuple, tNil, tCons, tConst, tName, tTruth, truthV, tNotB, tAndB, tOrB, tConstB, tCmp, tCmpB, tCmp2B, cmpV, tBin, binV, tNot, tNeg, tIf, tAnd, tOr, tItem, tSlice, sliceV, boundV, Loc.setAll, Loc.set, Loc.empty, Loc.bare, bindV, String.reduceEq, reduceIte, List.length_cons, List.length_nil, tAttr, tMethI, tSetItem, tCmp2, tSetAttr, tDict0, tDict2, sIsNumber, tListRange, tNeDict0, tValues, tLenSet, tMulList, tSliceR, tNew]
    refine ⟨n, rfl, ?_⟩
    simp only [Bool.not_true, decide_eq_true hn.1, decide_eq_true hn.2]
    exact k3 _ _ (k2 _ _ ⟨ns, rfl, fun n' h' => h2 n' (.tail _ h'), rfl, e1, e2, e3⟩)
theorem f_come (hK : (KK P).In g.b0) (N : NN g) (M_need_end : FnM g (KK P) CC "need_end" 7 (sNeedEnd CC)) (M_count : FnM g (KK P) CC "count" 7 (sCount CC)) (M_hued : FnM g (KK P) CC "hued" 7 (sHued CC)) : SndC g 8 (.ref 222) (sCome CC) := by
  refine SndC.mono (sndC_def (r := 7) (ps := ["self", "left", "right"]) (hK 222 _ rfl) rfl (CodeRec.mk' (hK 221 _ rfl) rfl rfl) rfl (by intro vs h; obtain ⟨a0, a1, a2, rfl⟩ := len3 h; rfl) rfl rfl rfl (by decide +kernel)
    (sndSs_cons (sndS_expr (sndE_methI hK hC M_need_end (sndE_name (.head _) rfl) (sndL_cons (sndE_global (at_ (i := 4) rfl) (N.n_LEFT) (fun _ => VR_str.mpr ⟨fitsS (by decide), _, rfl⟩)) (sndL_cons (sndE_name (at_ (i := 1) rfl) rfl) sndL_nil)) rfl rfl rfl rfl) (fun _ => rfl))
  (sndSs_cons (sndS_expr (sndE_methI hK hC M_need_end (sndE_name (.head _) rfl) (sndL_cons (sndE_global (at_ (i := 5) rfl) (N.n_RIGHT) (fun _ => VR_str.mpr ⟨fitsS (by decide), _, rfl⟩)) (sndL_cons (sndE_name (at_ (i := 2) rfl) rfl) sndL_nil)) rfl rfl rfl rfl) (fun _ => rfl))
  (sndSs_cons (sndS_if (sndB_cmp (sndE_call (at_ (i := 6) rfl) (fn_builtin N.n_len sndF_len) (sndL_cons (sndE_attr hK hC CF.a_rows rfl rfl (sndE_name (.head _) rfl)) sndL_nil) rfl) (sndE_global (at_ (i := 7) rfl) (N.n_MOST_PAIRS) (fun _ => VR_int.mpr ⟨_, rfl⟩)) rfl) (sndSs_cons sndS_dead
  sndSs_nil) sndSs_nil)
  (sndSs_cons (sndS_assign (at_ (i := 3) rfl) rfl (sndE_attr hK hC CF.a_next_number rfl rfl (sndE_name (.head _) rfl)) (fun _ => rfl))
  (sndSs_cons (sndS_setAttr hK hC CF.t_next_number (sndE_name (.head _) rfl) (sndE_bin (sndE_name (at_ (i := 3) rfl) rfl) sndE_int) (fun _ => rfl))
  (sndSs_cons (sndS_setItem (sndE_attr hK hC CF.a_rows rfl rfl (sndE_name (.head _) rfl)) (sndE_name (at_ (i := 3) rfl) rfl) (sndE_list (sndL_cons (sndE_name (at_ (i := 1) rfl) rfl) (sndL_cons (sndE_name (at_ (i := 2) rfl) rfl) (sndL_cons sndE_none sndL_nil)))) (fun _ => rfl))
  (sndSs_cons (sndS_return (sndE_methI hK hC M_hued (sndE_name (.head _) rfl) (sndL_cons (sndE_name (at_ (i := 3) rfl) rfl) (sndL_cons (sndE_name (at_ (i := 1) rfl) rfl) (sndL_cons (sndE_name (at_ (i := 2) rfl) rfl) (sndL_cons (sndE_methI hK hC M_count (sndE_name (.head _) rfl) sndL_nil rfl rfl rfl rfl) sndL_nil)))) rfl rfl rfl rfl))
  sndSs_nil)))))))) ?_
  rintro xs σ Q E ⟨x, D, l, r, m, rfl, H, W, hnx, hlen, hl, hr, h⟩
  refine tFun_k rfl fun K KE kret kend _ => ?_
  simp only [Loc.setAll]
  refine tSeq_k fun K1 k1 r1 _ _ => ?_
  simp only [tNop, tRet, tFlow, tDo, tIfS, tAssign, tAssignT, tAssignComp, tFor, tIter, walkV, tRange1, tEnum, tMethod, typeV, tAppend, tCount, tCall, tLen, lenV, tMax, tMin, tListOf, tIsI, isiV, tListComp, tComp, tList, tTuple, tNil, tCons, tConst, tName, tTruth, truthV, tNotB, tAndB, tOrB, tConstB, tCmp, tCmpB, tCmp2B, cmpV, tBin, binV, tNot, tNeg, tIf, tAnd, tOr, tItem, tSlice, sliceV, boundV, Loc.setAll, Loc.set, Loc.empty, Loc.bare, bindV, String.reduceEq, reduceIte, List.length_cons, List.length_nil, tAttr, tMethI, tSetItem, tCmp2, tSetAttr, tDict0, tDict2, sIsNumber, tListRange, tNeDict0, tValues, tLenSet, tMulList, tSliceR, tNew]
  refine ⟨H.instOf (by decide +kernel), x, D, false, l, rfl, H, hl.1, hl.2, k1 _ _ ?_⟩
  refine tSeq_k fun K1 k1 r1 _ _ => ?_
  simp only [tNop, tRet, tFlow, tDo, tIfS, tAssign, tAssignT, tAssignComp, tFor, tIter, walkV, tRange1, tEnum, tMethod, typeV, tAppend, tCount, tCall, tLen, lenV, tMax, tMin, tListOf, tIsI, isiV, tListComp, tComp, tList, tTuple, tNil, tCons, tConst, tName, tTruth, truthV, tNotB, tAndB, tOrB, tConstB, tCmp, tCmpB, tCmp2B, cmpV, tBin, binV, tNot, tNeg, tIf, tAnd, tOr, tItem, tSlice, sliceV, boundV, Loc.setAll, Loc.set, Loc.empty, Loc.bare, bindV, String.reduceEq, reduceIte, List.length_cons, List.length_nil, tAttr, tMethI, tSetItem, tCmp2, tSetAttr, tDict0, tDict2, sIsNumber, tListRange, tNeDict0, tValues, tLenSet, tMulList, tSliceR, tNew]
  refine ⟨H.instOf (by decide +kernel), x, D, true, r, rfl, H, hr.1, hr.2, k1 _ _ ?_⟩
  refine tSeq_k fun K1 k1 r1 _ _ => ?_
  obtain ⟨ep, er⟩ := H.rows
  simp only [tNop, tRet, tFlow, tDo, tIfS, tAssign, tAssignT, tAssignComp, tFor, tIter, walkV, tRange1, tEnum, tMethod, typeV, tAppend, tCount, tCall, tLen, lenV, tMax, tMin, tListOf, tIsI, isiV, tListComp, tComp, tList, tTuple, tNil, tCons, tConst, tName, tTruth, truthV, tNotB, tAndB, tOrB, tConstB, tCmp, tCmpB, tCmp2B, cmpV, tBin, binV, tNot, tNeg, tIf, tAnd, tOr, tItem, tSlice, sliceV, boundV, Loc.setAll, Loc.set, Loc.empty, Loc.bare, bindV, String.reduceEq, reduceIte, List.length_cons, List.length_nil, tAttr, tMethI, tSetItem, tCmp2, tSetAttr, tDict0, tDict2, sIsNumber, tListRange, tNeDict0, tValues, tLenSet, tMulList, tSliceR, tNew]
  simp only [H.rowsA, er, List.length_map]
  have h40 : ¬ (40 : Int) ≤ (D.T.length : Int) := by omega
  simp only [decide_eq_false h40]
  refine k1 _ _ ?_
  refine tSeq_k fun K1 k1 r1 _ _ => ?_
  simp only [tNop, tRet, tFlow, tDo, tIfS, tAssign, tAssignT, tAssignComp, tFor, tIter, walkV, tRange1, tEnum, tMethod, typeV, tAppend, tCount, tCall, tLen, lenV, tMax, tMin, tListOf, tIsI, isiV, tListComp, tComp, tList, tTuple, tNil, tCons, tConst, tName, tTruth, truthV, tNotB, tAndB, tOrB, tConstB, tCmp, tCmpB, tCmp2B, cmpV, tBin, binV, tNot, tNeg, tIf, tAnd, tOr, tItem, tSlice, sliceV, boundV, Loc.setAll, Loc.set, Loc.empty, Loc.bare, bindV, String.reduceEq, reduceIte, List.length_cons, List.length_nil, tAttr, tMethI, tSetItem, tCmp2, tSetAttr, tDict0, tDict2, sIsNumber, tListRange, tNeDict0, tValues, tLenSet, tMulList, tSliceR, tNew]
  simp only [H.nextA]
  refine k1 _ _ ?_
  refine tSeq_k fun K1 k1 r1 _ _ => ?_
  simp only [tNop, tRet, tFlow, tDo, tIfS, tAssign, tAssignT, tAssignComp, tFor, tIter, walkV, tRange1, tEnum, tMethod, typeV, tAppend, tCount, tCall, tLen, lenV, tMax, tMin, tListOf, tIsI, isiV, tListComp, tComp, tList, tTuple, tNil, tCons, tConst, tName, tTruth, truthV, tNotB, tAndB, tOrB, tConstB, tCmp, tCmpB, tCmp2B, cmpV, tBin, binV, tNot, tNeg, tIf, tAnd, tOr, tItem, tSlice, sliceV, boundV, Loc.setAll, Loc.set, Loc.empty, Loc.bare, bindV, String.reduceEq, reduceIte, List.length_cons, List.length_nil, tAttr, tMethI, tSetItem, tCmp2, tSetAttr, tDict0, tDict2, sIsNumber, tListRange, tNeDict0, tValues, tLenSet, tMulList, tSliceR, tNew]
  have hnx0 := W.nx
  refine ⟨x, D.d, D.kvs, rfl, H.inst, H.attrs, by have := H.few; unfold Fits; omega, k1 _ _ ?_⟩
  have H1 := H.setNext hnx0.1
  generalize hσ1 : σ.set D.d (.attrs ((Str.ofString "next_number", .int (D.nx + 1)) :: D.kvs)) = σ1 at H1
  generalize hD1 : ({ D with nx := D.nx + 1, kvs := (Str.ofString "next_number", .int (D.nx + 1)) :: D.kvs } : HD) = D1 at H1
  have hT1 : D1.T = D.T ∧ D1.a = D.a ∧ D1.b = D.b ∧ D1.nx = D.nx + 1 ∧ D1.d = D.d ∧ D1.rd = D.rd := by rw [← hD1]; exact ⟨rfl, rfl, rfl, rfl, rfl, rfl⟩
  have hS1 : D1.S = D.S := by unfold HD.S; rw [hT1.1]
  refine tSeq_k fun K1 k1 r1 _ _ => ?_
  simp only [tNop, tRet, tFlow, tDo, tIfS, tAssign, tAssignT, tAssignComp, tFor, tIter, walkV, tRange1, tEnum, tMethod, typeV, tAppend, tCount, tCall, tLen, lenV, tMax, tMin, tListOf, tIsI, isiV, tListComp, tComp, tList, tTuple, tNil, tCons, tConst, tName, tTruth, truthV, tNotB, tAndB, tOrB, tConstB, tCmp, tCmpB, tCmp2B, cmpV, tBin, binV, tNot, tNeg, tIf, tAnd, tOr, tItem, tSlice, sliceV, boundV, Loc.setAll, Loc.set, Loc.empty, Loc.bare, bindV, String.reduceEq, reduceIte, List.length_cons, List.length_nil, tAttr, tMethI, tSetItem, tCmp2, tSetAttr, tDict0, tDict2, sIsNumber, tListRange, tNeDict0, tValues, tLenSet, tMulList, tSliceR, tNew]
  refine ⟨by simp [Fits], fun p hp => ?_⟩
  have H2 := H1.sub (Sub.refl.new (o := .list [V.int l, V.int r, V.none]) hp)
  simp only [H2.rowsA]
  obtain ⟨e0, er0⟩ := H2.rows
  simp only [setItemV, er0]
  refine ⟨_, rfl, by rw [hT1.1]; simp [Fits]; omega, fun ep2 => k1 _ _ ?_⟩
  have hbel : ∀ t ∈ D1.T, t.1.n ≠ D.nx := fun t ht => by
    have := W.below t.1 (List.mem_map.2 ⟨t, by rw [← hT1.1]; exact ht, rfl⟩); omega
  have H3 := H1.addRow (w := ⟨D.nx, l, r, none⟩) hbel hp ep2
  have hrl : rowL ⟨D.nx, l, r, none⟩ = [V.int l, V.int r, V.none] := rfl
  rw [hrl] at H3
  simp only at H3
  generalize hσ3 : (σ1.set p (.list [V.int l, V.int r, V.none])).set D1.rd (.dictI (putD (D1.T.map fun t => (t.1.n, V.ref t.2)) D.nx (.ref p)) ep2) = σ3 at H3
  have hS3 : (D1.add ⟨D.nx, l, r, none⟩ p).S = D.S ++ [⟨D.nx, l, r, none⟩] := by rw [HD.add_S, hS1]
  obtain ⟨hinc, hprop⟩ := W.good.comeInc (x := ⟨D.nx, l, r, none⟩) W.below rfl
  have hinr : InR (D.S ++ [⟨D.nx, l, r, none⟩]) D.a D.b := fun y hy s => by
    rcases List.mem_append.1 hy with q | q
    · exact W.good.inr y q s
    · rw [List.mem_singleton.1 q]; cases s
      · exact hl
      · exact hr
  have h64 : (D1.add ⟨D.nx, l, r, none⟩ p).T.length < 64 := by simp [HD.add, hT1.1]; omega
  have hai : (D1.add ⟨D.nx, l, r, none⟩ p).a = D.a ∧ (D1.add ⟨D.nx, l, r, none⟩ p).b = D.b := ⟨hT1.2.1, hT1.2.2.1⟩
  refine tSeq_k fun K1 k1 r1 _ _ => ?_
  simp only [tNop, tRet, tFlow, tDo, tIfS, tAssign, tAssignT, tAssignComp, tFor, tIter, walkV, tRange1, tEnum, tMethod, typeV, tAppend, tCount, tCall, tLen, lenV, tMax, tMin, tListOf, tIsI, isiV, tListComp, tComp, tList, tTuple, tNil, tCons, tConst, tName, tTruth, truthV, tNotB, tAndB, tOrB, tConstB, tCmp, tCmpB, tCmp2B, cmpV, tBin, binV, tNot, tNeg, tIf, tAnd, tOr, tItem, tSlice, sliceV, boundV, Loc.setAll, Loc.set, Loc.empty, Loc.bare, bindV, String.reduceEq, reduceIte, List.length_cons, List.length_nil, tAttr, tMethI, tSetItem, tCmp2, tSetAttr, tDict0, tDict2, sIsNumber, tListRange, tNeDict0, tValues, tLenSet, tMulList, tSliceR, tNew]
  have ha8 := W.a8
  have hb8 := W.b8
  refine ⟨H3.instOf (by decide +kernel), H3.instOf (by decide +kernel), x, D1.add ⟨D.nx, l, r, none⟩ p, rfl, H3, by rw [hS3]; exact hinc, h64, by rw [hai.1]; omega, by rw [hai.1]; omega, by rw [hai.2]; omega, by rw [hai.2]; omega, fun m' hm' => ?_⟩
  rw [hS3, hai.1, hai.2] at hm'
  have hput : (D.S ++ [(⟨D.nx, l, r, none⟩ : Rw)]).map (putH D.nx none) = D.S ++ [⟨D.nx, l, r, none⟩] := by
    conv => rhs; rw [← List.map_id (D.S ++ [(⟨D.nx, l, r, none⟩ : Rw)])]
    refine List.map_congr_left fun y hy => ?_
    rcases List.mem_append.1 hy with q | q
    · rw [putH_out (by have := W.below y q; omega)]; rfl
    · rw [List.mem_singleton.1 q]; unfold putH; rw [if_pos rfl]; rfl
  have hm100 : m' ≤ 100 := by have := cnt_le_length hm'; simp [HD.S] at this; omega
  refine ⟨x, D1.add ⟨D.nx, l, r, none⟩ p, (⟨D.nx, l, r, none⟩, p), m', rfl, by simp [HD.add], H3, by rw [hS3]; exact hinc, h64, hm100, by rw [hS3, hput]; exact hprop, by rw [hS3]; exact hm'.all hinr _ _, by rw [hS3]; exact hm'.all hinr _ _, fun σ' D' hue other nums c H' F' hto hc1 hc2 hc3 => r1 _ _ _ (kret _ _ _ _ Sub.refl ?_)⟩
  simp only at hto
  rw [hS3, hput] at hto
  have hH := hto.hued hprop hinc (x := ⟨D.nx, l, r, none⟩) (by simp) rfl rfl rfl rfl
  have hG : Good D'.S D.a D.b m' := W.good.come W.below (fun s => by cases s; exact hl; exact hr) rfl hm' hH
  have sz := F'.sz
  have hka : ∀ y o, σ y = some o → ¬ D.foot y → σ3 y = some o := fun y o q nf => by
    have y1 : y ≠ D.d := fun z => nf (.inl z)
    have y2 : y ≠ D1.rd := fun z => nf (.inr (.inl (z.trans hT1.2.2.2.2.2)))
    have q1 : σ1 y = some o := by rw [← hσ1, AH.set_other y1]; exact q
    rw [← hσ3, AH.set_other y2]; exact new_keeps q1 hp
  have hp0 : σ p = none := by
    cases e : σ p with
    | none => rfl
    | some o =>
      by_cases z : p = D.d
      · rw [← hσ1, z, AH.set_same] at hp; cases hp
      · rw [← hσ1, AH.set_other z, e] at hp; cases hp
  have hnone : ∀ y, σ3 y = none → σ y = none := fun y q => by
    cases e : σ y with
    | none => rfl
    | some o =>
      rw [← hσ3] at q
      by_cases z : y = D1.rd
      · rw [z, AH.set_same] at q; cases q
      · rw [AH.set_other z] at q
        by_cases z2 : y = D.d
        · have : σ1 y = some (.attrs ((Str.ofString "next_number", .int (D.nx + 1)) :: D.kvs)) := by rw [← hσ1, z2]; exact AH.set_same
          rw [new_keeps this hp] at q; cases q
        · have : σ1 y = some o := by rw [← hσ1, AH.set_other z2]; exact e
          rw [new_keeps this hp] at q; cases q
  have hfoot : ∀ y, (D1.add ⟨D.nx, l, r, none⟩ p).foot y → D.foot y ∨ σ y = none := fun y q => by
    rcases q with q | q | q
    · exact .inl (.inl (q.trans hT1.2.2.2.2.1))
    · exact .inl (.inr (.inl (q.trans hT1.2.2.2.2.2)))
    · simp only [HD.add, List.map_append, List.map_cons, List.map_nil, List.mem_append, List.mem_singleton, hT1.1] at q
      rcases q with q | q
      · exact .inl (.inr (.inr q))
      · exact .inr (by rw [q]; exact hp0)
  have ha' : D'.a = D.a := sz.1.trans hai.1
  have hb' : D'.b = D.b := sz.2.1.trans hai.2
  have hn' : D'.nx = D.nx + 1 := sz.2.2.trans hT1.2.2.2.1
  have hsk : D'.S.map sk = D.S.map sk ++ [(D.nx, l, r)] := by rw [hH.sk, List.map_append]; rfl
  refine h σ' D' m' hue other nums c H' ⟨by rw [ha', hb']; exact hG, by rw [ha']; exact W.a8, by rw [hb']; exact W.b8, by rw [hn']; omega, fun y hy => ?_⟩ hn' ha' hb' (fun y o q nf => F'.keep y o (hka y o q nf) fun w => ?_) (fun y q => ?_) (fun y q => hnone y (F'.dom y q)) hsk hto (hnone c hc1) hc2 hc3
  · have : sk y ∈ D.S.map sk ++ [(D.nx, l, r)] := by rw [← hsk]; exact List.mem_map.2 ⟨y, hy, rfl⟩
    rcases List.mem_append.1 this with q | q
    · obtain ⟨z, hz, e⟩ := List.mem_map.1 q
      have e1 : z.n = y.n := by unfold sk at e; simp only [Prod.mk.injEq] at e; exact e.1
      have := W.below z hz
      omega
    · have e := List.mem_singleton.1 q
      unfold sk at e; simp only [Prod.mk.injEq] at e
      omega
  · rcases hfoot y w with v | v
    · exact nf v
    · rw [v] at q; cases q
  · rcases F'.new y q with v | v
    · exact hfoot y v
    · exact .inr (hnone y v)
theorem f_need_pair (hK : (KK P).In g.b0) (N : NN g) (F_is_number : FnG g "is_number" 2 sIsNumber) : SndC g 3 (.ref 229) (sNeedPair CC) := by
  refine SndC.mono (sndC_def (r := 2) (ps := ["self", "number"]) (hK 229 _ rfl) rfl (CodeRec.mk' (hK 228 _ rfl) rfl rfl) rfl (by intro vs h; obtain ⟨a0, a1, rfl⟩ := len2 h; rfl) rfl rfl rfl (by decide +kernel)
    (sndSs_cons (sndS_if (sndB_boolop (sndBs_or (sndB_not (sndB_value (sndE_call (at_ (i := 2) rfl) F_is_number (sndL_cons (sndE_name (at_ (i := 1) rfl) rfl) sndL_nil) rfl) (fun _ _ => rfl))) (sndBs_or (sndB_cmp (sndE_name (at_ (i := 1) rfl) rfl) (sndE_attr hK hC CF.a_rows rfl rfl (sndE_name (.head _) rfl)) rfl) sndBs_or_nil))) (sndSs_cons sndS_dead
  sndSs_nil) sndSs_nil)
  sndSs_nil)) ?_
  rintro xs σ Q E ⟨x, D, t, rfl, ht, H, h⟩
  refine tFun_k rfl fun K KE kret kend _ => ?_
  simp only [Loc.setAll]
  refine tSeq_k fun K1 k1 r1 _ _ => ?_
  simp only [tNop, tRet, tFlow, tDo, tIfS, tAssign, tAssignT, tAssignComp, tFor, tIter, walkV, tRange1, tEnum, tMethod, typeV, tAppend, tCount, tCall, tLen, lenV, tMax, tMin, tListOf, tIsI, isiV, tListComp, tComp, tList, tTuple, tNil, tCons, tConst, tName, tTruth, truthV, tNotB, tAndB, tOrB, tConstB, tCmp, tCmpB, tCmp2B, cmpV, tBin, binV, tNot, tNeg, tIf, tAnd, tOr, tItem, tSlice, sliceV, boundV, Loc.setAll, Loc.set, Loc.empty, Loc.bare, bindV, String.reduceEq, reduceIte, List.length_cons, List.length_nil, tAttr, tMethI, tSetItem, tCmp2, tSetAttr, tDict0, tDict2, sIsNumber, tListRange, tNeDict0, tValues, tLenSet, tMulList, tSliceR, tNew]
  refine ⟨_, rfl, ?_⟩
  obtain ⟨ep, er⟩ := H.rows
  simp only [Bool.not_true, H.rowsA, inD, er]
  have : ((D.T.map fun t => (t.1.n, V.ref t.2)).any fun kv => kv.1 == t.1.n) = true := by
    rw [List.any_eq_true]; exact ⟨_, List.mem_map.2 ⟨t, ht, rfl⟩, by simp⟩
  rw [this]
  simp only [Bool.not_true]
  refine k1 _ _ ?_
  simp only [tNop, tRet, tFlow, tDo, tIfS, tAssign, tAssignT, tAssignComp, tFor, tIter, walkV, tRange1, tEnum, tMethod, typeV, tAppend, tCount, tCall, tLen, lenV, tMax, tMin, tListOf, tIsI, isiV, tListComp, tComp, tList, tTuple, tNil, tCons, tConst, tName, tTruth, truthV, tNotB, tAndB, tOrB, tConstB, tCmp, tCmpB, tCmp2B, cmpV, tBin, binV, tNot, tNeg, tIf, tAnd, tOr, tItem, tSlice, sliceV, boundV, Loc.setAll, Loc.set, Loc.empty, Loc.bare, bindV, String.reduceEq, reduceIte, List.length_cons, List.length_nil, tAttr, tMethI, tSetItem, tCmp2, tSetAttr, tDict0, tDict2, sIsNumber, tListRange, tNeDict0, tValues, tLenSet, tMulList, tSliceR, tNew]
  exact kend _ _ _ Sub.refl h
end
section
open PySem PySem.W PyProof.Rows
variable {g : Gr} {P : Params}
theorem f_pairs (hK : (KK P).In g.b0) (N : NN g) : SndC g 2 (.ref 243) (sPairs CC) := by
  refine SndC.mono (sndC_def (r := 1) (ps := ["self"]) (hK 243 _ rfl) rfl (CodeRec.mk' (hK 242 _ rfl) rfl rfl) rfl (by intro vs h; obtain ⟨a0, rfl⟩ := len1 h; rfl) rfl rfl rfl (by decide +kernel)
    (sndSs_cons (sndS_assign (at_ (i := 1) rfl) rfl (sndE_list sndL_nil) (fun _ => rfl))
  (sndSs_cons (sndS_for (sndI_value (sndE_call (at_ (i := 6) rfl) (fn_builtin N.n_sorted sndF_sorted) (sndL_cons (sndE_attr hK hC CF.a_rows rfl rfl (sndE_name (.head _) rfl)) sndL_nil) rfl)) (.name (at_ (i := 2) rfl) rfl) (sndSs_cons (sndS_assignT (.cons (at_ (i := 3) rfl) rfl (.cons (at_ (i := 4) rfl) rfl (.cons (at_ (i := 5) rfl) rfl .nil))) (sndE_item (sndE_attr hK hC CF.a_rows rfl rfl (sndE_name (.head _) rfl)) (sndE_name (at_ (i := 2) rfl) rfl) (fun _ _ => rfl)) (fun _ => rfl) (fun _ => rfl))
  (sndSs_cons (sndS_expr (mAppend (sndE_name (at_ (i := 1) rfl) rfl) (sndL_cons (sndE_tuple (sndL_cons (sndE_name (at_ (i := 2) rfl) rfl) (sndL_cons (sndE_name (at_ (i := 3) rfl) rfl) (sndL_cons (sndE_name (at_ (i := 4) rfl) rfl) (sndL_cons (sndE_name (at_ (i := 5) rfl) rfl) sndL_nil))))) sndL_nil) rfl rfl rfl rfl) (fun _ => rfl))
  sndSs_nil)) (fun _ _ => rfl))
  (sndSs_cons (sndS_return (sndE_name (at_ (i := 1) rfl) rfl))
  sndSs_nil)))) ?_
  rintro xs σ Q E ⟨x, D, rfl, H, hi, h64, h⟩
  refine tFun_k rfl fun K KE kret kend _ => ?_
  simp only [Loc.setAll]
  refine tSeq_k fun K1 k1 r1 _ _ => ?_
  simp only [tNop, tRet, tFlow, tDo, tIfS, tAssign, tAssignT, tAssignComp, tFor, tIter, walkV, tRange1, tEnum, tMethod, typeV, tAppend, tCount, tCall, tLen, lenV, tMax, tMin, tListOf, tIsI, isiV, tListComp, tComp, tList, tTuple, tNil, tCons, tConst, tName, tTruth, truthV, tNotB, tAndB, tOrB, tConstB, tCmp, tCmpB, tCmp2B, cmpV, tBin, binV, tNot, tNeg, tIf, tAnd, tOr, tItem, tSlice, sliceV, boundV, Loc.setAll, Loc.set, Loc.empty, Loc.bare, bindV, String.reduceEq, reduceIte, List.length_cons, List.length_nil, tAttr, tMethI, tSetItem, tCmp2, tSetAttr, tDict0, tDict2, sIsNumber, tListRange, tNeDict0, tValues, tLenSet, tMulList, tSliceR, tNew]
  refine ⟨by simp [Fits], fun b hb => k1 _ _ ?_⟩
  have s1 : Sub σ (σ.set b (.list [])) := Sub.refl.new hb
  have H1 := H.sub s1
  refine tSeq_k fun K1 k1 r1 _ _ => ?_
  simp only [tNop, tRet, tFlow, tDo, tIfS, tAssign, tAssignT, tAssignComp, tFor, tIter, walkV, tRange1, tEnum, tMethod, typeV, tAppend, tCount, tCall, tLen, lenV, tMax, tMin, tListOf, tIsI, isiV, tListComp, tComp, tList, tTuple, tNil, tCons, tConst, tName, tTruth, truthV, tNotB, tAndB, tOrB, tConstB, tCmp, tCmpB, tCmp2B, cmpV, tBin, binV, tNot, tNeg, tIf, tAnd, tOr, tItem, tSlice, sliceV, boundV, Loc.setAll, Loc.set, Loc.empty, Loc.bare, bindV, String.reduceEq, reduceIte, List.length_cons, List.length_nil, tAttr, tMethI, tSetItem, tCmp2, tSetAttr, tDict0, tDict2, sIsNumber, tListRange, tNeDict0, tValues, tLenSet, tMulList, tSliceR, tNew]
  simp only [H1.rowsA]
  refine tSorted_rows H1 hi h64 fun o ho => ?_
  simp only [AH.set_same]
  have ob : o ≠ b := fun z => by rw [z, AH.set_same] at ho; cases ho
  refine ⟨nofun, loopT_k (fun xs ℓ σ' => ∃ done rest : List (Rw × Addr), done ++ rest = D.T ∧ xs = rest.map (fun t => V.int t.1.n) ∧ ℓ "self" = some (.ref x) ∧ ℓ "found" = some (.ref b) ∧ Sub σ σ' ∧ σ' b = some (.list (done.map pairRow)) ∧ σ' o = some (.list (D.T.map fun t => V.int t.1.n))) ?_ ?_
    ⟨[], D.T, rfl, rfl, rfl, rfl, s1.new ho, new_keeps AH.set_same ho, AH.set_same⟩⟩
  · rintro ℓ σ' ⟨done, rest, h1, h2, e1, e2, h3, h4, h5⟩
    have hr : rest = [] := by cases rest with | nil => rfl | cons _ _ => simp at h2
    subst hr
    rw [List.append_nil] at h1
    subst h1
    refine ⟨h5, k1 _ _ ?_⟩
    refine tSeq_k fun K2 k2 r2 _ _ => ?_
    simp only [tNop, tRet, tFlow, tDo, tIfS, tAssign, tAssignT, tAssignComp, tFor, tIter, walkV, tRange1, tEnum, tMethod, typeV, tAppend, tCount, tCall, tLen, lenV, tMax, tMin, tListOf, tIsI, isiV, tListComp, tComp, tList, tTuple, tNil, tCons, tConst, tName, tTruth, truthV, tNotB, tAndB, tOrB, tConstB, tCmp, tCmpB, tCmp2B, cmpV, tBin, binV, tNot, tNeg, tIf, tAnd, tOr, tItem, tSlice, sliceV, boundV, Loc.setAll, Loc.set, Loc.empty, Loc.bare, bindV, String.reduceEq, reduceIte, List.length_cons, List.length_nil, tAttr, tMethI, tSetItem, tCmp2, tSetAttr, tDict0, tDict2, sIsNumber, tListRange, tNeDict0, tValues, tLenSet, tMulList, tSliceR, tNew]
    simp only [e2]
    exact r2 _ _ _ (kret _ _ _ _ (sub_at h3 h4) (h b hb))
  · rintro v xs ℓ σ' K2 k2 r2 _ _ ⟨done, rest, h1, h2, e1, e2, h3, h4, h5⟩
    obtain ⟨t, rest, rfl⟩ : ∃ s r, rest = s :: r := by cases rest with | nil => simp at h2 | cons s r => exact ⟨s, r, rfl⟩
    simp only [List.map_cons, List.cons.injEq] at h2
    obtain ⟨rfl, rfl⟩ := h2
    have ht : t ∈ D.T := by rw [← h1]; simp
    refine ⟨h5, ?_⟩
    simp only [bindV]
    have H2 := H.sub h3
    refine tSeq_k fun K3 k3 r3 _ _ => ?_
    simp only [tNop, tRet, tFlow, tDo, tIfS, tAssign, tAssignT, tAssignComp, tFor, tIter, walkV, tRange1, tEnum, tMethod, typeV, tAppend, tCount, tCall, tLen, lenV, tMax, tMin, tListOf, tIsI, isiV, tListComp, tComp, tList, tTuple, tNil, tCons, tConst, tName, tTruth, truthV, tNotB, tAndB, tOrB, tConstB, tCmp, tCmpB, tCmp2B, cmpV, tBin, binV, tNot, tNeg, tIf, tAnd, tOr, tItem, tSlice, sliceV, boundV, Loc.setAll, Loc.set, Loc.empty, Loc.bare, bindV, String.reduceEq, reduceIte, List.length_cons, List.length_nil, tAttr, tMethI, tSetItem, tCmp2, tSetAttr, tDict0, tDict2, sIsNumber, tListRange, tNeDict0, tValues, tLenSet, tMulList, tSliceR, tNew]
    simp only [e1, H2.rowsA]
    refine H2.item hi ht ?_
    simp only [partsV, H2.row t ht, rowL]
    refine ⟨rfl, k3 _ _ ?_⟩
    simp only [Loc.setAll]
    refine tSeq_k fun K3 k3 r3 _ _ => ?_
    simp only [tNop, tRet, tFlow, tDo, tIfS, tAssign, tAssignT, tAssignComp, tFor, tIter, walkV, tRange1, tEnum, tMethod, typeV, tAppend, tCount, tCall, tLen, lenV, tMax, tMin, tListOf, tIsI, isiV, tListComp, tComp, tList, tTuple, tNil, tCons, tConst, tName, tTruth, truthV, tNotB, tAndB, tOrB, tConstB, tCmp, tCmpB, tCmp2B, cmpV, tBin, binV, tNot, tNeg, tIf, tAnd, tOr, tItem, tSlice, sliceV, boundV, Loc.setAll, Loc.set, Loc.empty, Loc.bare, bindV, String.reduceEq, reduceIte, List.length_cons, List.length_nil, tAttr, tMethI, tSetItem, tCmp2, tSetAttr, tDict0, tDict2, sIsNumber, tListRange, tNeDict0, tValues, tLenSet, tMulList, tSliceR, tNew]
    simp only [e2, h4]
    refine ⟨trivial, by simp [Fits], ?_, k3 _ _ (k2 _ _ ⟨done ++ [t], rest, by simpa using h1, rfl, e1, e2, h3.upd hb, ?_, ?_⟩)⟩
    · have := congrArg List.length h1; simp [Fits] at *; omega
    · rw [AH.set_same]; simp [pairRow]
    · rw [AH.set_other ob]; exact h5
theorem f_is_hue (hK : (KK P).In g.b0) (N : NN g) (F_is_number : FnG g "is_number" 4 sIsNumber) (M_count : FnM g (KK P) CC "count" 4 (sCount CC)) : SndC g 5 (.ref 257) (sIsHue CC) := by
  refine SndC.mono (sndC_def (r := 4) (ps := ["self", "thing"]) (hK 257 _ rfl) rfl (CodeRec.mk' (hK 256 _ rfl) rfl rfl) rfl (by intro vs h; obtain ⟨a0, a1, rfl⟩ := len2 h; rfl) rfl rfl rfl (by decide +kernel)
    (sndSs_cons (sndS_return (sndE_boolop (sndV_and (sndE_call (at_ (i := 2) rfl) F_is_number (sndL_cons (sndE_name (at_ (i := 1) rfl) rfl) sndL_nil) rfl) (sndV_one (sndE_cmp2 sndE_int (sndE_name (at_ (i := 1) rfl) rfl) (sndE_methI hK hC M_count (sndE_name (.head _) rfl) sndL_nil rfl rfl rfl rfl) rfl)))))
  sndSs_nil)) ?_
  rintro xs σ Q E ⟨x, D, m, hu, rfl, H, W, h64, h⟩
  refine tFun_k rfl fun K KE kret kend _ => ?_
  simp only [Loc.setAll]
  refine tSeq_k fun K1 k1 r1 _ _ => ?_
  simp only [tNop, tRet, tFlow, tDo, tIfS, tAssign, tAssignT, tAssignComp, tFor, tIter, walkV, tRange1, tEnum, tMethod, typeV, tAppend, tCount, tCall, tLen, lenV, tMax, tMin, tListOf, tIsI, isiV, tListComp, tComp, tList, tTuple, tNil, tCons, tConst, tName, tTruth, truthV, tNotB, tAndB, tOrB, tConstB, tCmp, tCmpB, tCmp2B, cmpV, tBin, binV, tNot, tNeg, tIf, tAnd, tOr, tItem, tSlice, sliceV, boundV, Loc.setAll, Loc.set, Loc.empty, Loc.bare, bindV, String.reduceEq, reduceIte, List.length_cons, List.length_nil, tAttr, tMethI, tSetItem, tCmp2, tSetAttr, tDict0, tDict2, sIsNumber, tListRange, tNeDict0, tValues, tLenSet, tMulList, tSliceR, tNew]
  refine ⟨hu, rfl, ?_⟩
  have ha8 := W.a8
  have hb8 := W.b8
  by_cases h0 : 0 ≤ hu
  · simp only [decide_eq_true h0]
    refine ⟨H.instOf (by decide +kernel), x, D, rfl, H, W.good.inc, h64, by omega, by omega, by omega, by omega, fun m' hm' => ?_⟩
    have : m' = m := hm'.uniq W.good.cnt
    subst this
    have e : decide (hu < (m' : Int)) = decide (0 ≤ hu ∧ hu < (m' : Int)) := by rw [decide_eq_decide]; exact ⟨fun q => ⟨h0, q⟩, fun q => q.2⟩
    simp only [e]
    exact r1 _ _ _ (kret _ _ _ _ Sub.refl h)
  · simp only [decide_eq_false h0]
    have e : false = decide (0 ≤ hu ∧ hu < (m : Int)) := by symm; rw [decide_eq_false_iff_not]; exact fun q => h0 q.1
    rw [e]
    exact r1 _ _ _ (kret _ _ _ _ Sub.refl h)
theorem f_of_hue (hK : (KK P).In g.b0) (N : NN g) (M_is_hue : FnM g (KK P) CC "is_hue" 5 (sIsHue CC)) : SndC g 6 (.ref 262) (sOfHue CC) := by
  refine SndC.mono (sndC_def (r := 5) (ps := ["self", "hue"]) (hK 262 _ rfl) rfl (CodeRec.mk' (hK 261 _ rfl) rfl rfl) rfl (by intro vs h; obtain ⟨a0, a1, rfl⟩ := len2 h; rfl) rfl rfl rfl (by decide +kernel)
    (sndSs_cons (sndS_if (sndB_not (sndB_value (sndE_methI hK hC M_is_hue (sndE_name (.head _) rfl) (sndL_cons (sndE_name (at_ (i := 1) rfl) rfl) sndL_nil) rfl rfl rfl rfl) (fun _ _ => rfl))) (sndSs_cons sndS_dead
  sndSs_nil) sndSs_nil)
  (sndSs_cons (sndS_return (sndE_comp (by decide +kernel) (sndI_value (sndE_call (at_ (i := 3) rfl) (fn_builtin N.n_sorted sndF_sorted) (sndL_cons (sndE_attr hK hC CF.a_rows rfl rfl (sndE_name (.head _) rfl)) sndL_nil) rfl)) (.name (at_ (i := 1) rfl) rfl) (by decide +kernel) (sndT_one (sndB_cmp (sndE_item (sndE_item (sndE_attr hK hC CF.a_rows rfl rfl (sndE_name (at_ (i := 3) rfl) rfl)) (sndE_name (at_ (i := 1) rfl) rfl) (fun _ _ => rfl)) sndE_int (fun _ _ => rfl)) (sndE_name (at_ (i := 2) rfl) rfl) rfl)) (sndE_name (at_ (i := 1) rfl) rfl) (fun _ _ => rfl)))
  sndSs_nil))) ?_
  rintro xs σ Q E ⟨x, D, m, hu, rfl, H, W, h64, h0, h1, h⟩
  refine tFun_k rfl fun K KE kret kend _ => ?_
  simp only [Loc.setAll]
  refine tSeq_k fun K1 k1 r1 _ _ => ?_
  simp only [tNop, tRet, tFlow, tDo, tIfS, tAssign, tAssignT, tAssignComp, tFor, tIter, walkV, tRange1, tEnum, tMethod, typeV, tAppend, tCount, tCall, tLen, lenV, tMax, tMin, tListOf, tIsI, isiV, tListComp, tComp, tList, tTuple, tNil, tCons, tConst, tName, tTruth, truthV, tNotB, tAndB, tOrB, tConstB, tCmp, tCmpB, tCmp2B, cmpV, tBin, binV, tNot, tNeg, tIf, tAnd, tOr, tItem, tSlice, sliceV, boundV, Loc.setAll, Loc.set, Loc.empty, Loc.bare, bindV, String.reduceEq, reduceIte, List.length_cons, List.length_nil, tAttr, tMethI, tSetItem, tCmp2, tSetAttr, tDict0, tDict2, sIsNumber, tListRange, tNeDict0, tValues, tLenSet, tMulList, tSliceR, tNew]
  refine ⟨H.instOf (by decide +kernel), x, D, m, hu, rfl, H, W, h64, ?_⟩
  have e : decide (0 ≤ hu ∧ hu < (m : Int)) = true := by rw [decide_eq_true_iff]; exact ⟨h0, h1⟩
  rw [e]
  simp only [Bool.not_true]
  refine k1 _ _ ?_
  have hi := W.good.inc
  refine tSeq_k fun K1 k1 r1 _ _ => ?_
  simp only [tNop, tRet, tFlow, tDo, tIfS, tAssign, tAssignT, tAssignComp, tFor, tIter, walkV, tRange1, tEnum, tMethod, typeV, tAppend, tCount, tCall, tLen, lenV, tMax, tMin, tListOf, tIsI, isiV, tListComp, tComp, tList, tTuple, tNil, tCons, tConst, tName, tTruth, truthV, tNotB, tAndB, tOrB, tConstB, tCmp, tCmpB, tCmp2B, cmpV, tBin, binV, tNot, tNeg, tIf, tAnd, tOr, tItem, tSlice, sliceV, boundV, Loc.setAll, Loc.set, Loc.empty, Loc.bare, bindV, String.reduceEq, reduceIte, List.length_cons, List.length_nil, tAttr, tMethI, tSetItem, tCmp2, tSetAttr, tDict0, tDict2, sIsNumber, tListRange, tNeDict0, tValues, tLenSet, tMulList, tSliceR, tNew]
  simp only [H.rowsA]
  refine tSorted_rows H hi h64 fun b hb => ?_
  simp only [AH.set_same]
  have s1 : Sub σ (σ.set b (.list (D.T.map fun t => V.int t.1.n))) := Sub.refl.new hb
  refine ⟨nofun, compT_growS (fun t : Rw × Addr => V.int t.1.n) (fun t => t.1.h == some hu) (fun t => V.int t.1.n) D.T (fun σ' hs => hs _ _ AH.set_same) (fun t ht σ' hs => ⟨_, fun P h => h, fun Qb hQ => ?_, fun _ σ'' hs'' Qv hQ => ?_⟩) fun σ' hs => ?_⟩
  · have H' := H.sub (s1.trans hs)
    simp only [tNop, tRet, tFlow, tDo, tIfS, tAssign, tAssignT, tAssignComp, tFor, tIter, walkV, tRange1, tEnum, tMethod, typeV, tAppend, tCount, tCall, tLen, lenV, tMax, tMin, tListOf, tIsI, isiV, tListComp, tComp, tList, tTuple, tNil, tCons, tConst, tName, tTruth, truthV, tNotB, tAndB, tOrB, tConstB, tCmp, tCmpB, tCmp2B, cmpV, tBin, binV, tNot, tNeg, tIf, tAnd, tOr, tItem, tSlice, sliceV, boundV, Loc.setAll, Loc.set, Loc.empty, Loc.bare, bindV, String.reduceEq, reduceIte, List.length_cons, List.length_nil, tAttr, tMethI, tSetItem, tCmp2, tSetAttr, tDict0, tDict2, sIsNumber, tListRange, tNeDict0, tValues, tLenSet, tMulList, tSliceR, tNew]
    simp only [H'.rowsA]
    exact H'.item hi ht (H'.item2 ht (eqD_hue (hQ _ Sub.refl)))
  · simp only [tNop, tRet, tFlow, tDo, tIfS, tAssign, tAssignT, tAssignComp, tFor, tIter, walkV, tRange1, tEnum, tMethod, typeV, tAppend, tCount, tCall, tLen, lenV, tMax, tMin, tListOf, tIsI, isiV, tListComp, tComp, tList, tTuple, tNil, tCons, tConst, tName, tTruth, truthV, tNotB, tAndB, tOrB, tConstB, tCmp, tCmpB, tCmp2B, cmpV, tBin, binV, tNot, tNeg, tIf, tAnd, tOr, tItem, tSlice, sliceV, boundV, Loc.setAll, Loc.set, Loc.empty, Loc.bare, bindV, String.reduceEq, reduceIte, List.length_cons, List.length_nil, tAttr, tMethI, tSetItem, tCmp2, tSetAttr, tDict0, tDict2, sIsNumber, tListRange, tNeDict0, tValues, tLenSet, tMulList, tSliceR, tNew]
    exact hQ _ Sub.refl
  · intro d hd
    have s2 : Sub σ σ' := s1.trans hs
    have e2 : ((D.T.filter fun t => t.1.h == some hu).map fun t => V.int t.1.n) = (ofHue D.S hu).map fun x => V.int x.n := by
      unfold ofHue HD.S
      rw [List.filter_map, List.map_map]; rfl
    rw [e2]
    exact r1 _ _ _ (kret _ _ _ _ (sub_set s2) (h d (s2.none hd)))
theorem f_fullest (hK : (KK P).In g.b0) (N : NN g) (M_count : FnM g (KK P) CC "count" 4 (sCount CC)) (M_met : FnM g (KK P) CC "met" 4 (sMet CC)) : SndC g 5 (.ref 274) (sFullest CC) := by
  refine SndC.mono (sndC_def (r := 4) (ps := ["self"]) (hK 274 _ rfl) rfl (CodeRec.mk' (hK 273 _ rfl) rfl rfl) rfl (by intro vs h; obtain ⟨a0, rfl⟩ := len1 h; rfl) rfl rfl rfl (by decide +kernel)
    (sndSs_cons (sndS_assign (at_ (i := 1) rfl) rfl (sndE_methI hK hC M_count (sndE_name (.head _) rfl) sndL_nil rfl rfl rfl rfl) (fun _ => rfl))
  (sndSs_cons (sndS_if (sndB_cmp (sndE_name (at_ (i := 1) rfl) rfl) sndE_int rfl) (sndSs_cons (sndS_return (sndE_tuple (sndL_cons (sndE_list sndL_nil) (sndL_cons (sndE_list sndL_nil) sndL_nil))))
  sndSs_nil) sndSs_nil)
  (sndSs_cons (sndS_assignComp (at_ (i := 2) rfl) rfl (by decide +kernel) (sndI_range1 (at_ (i := 4) rfl) (N.n_range) (sndE_item (sndE_attr hK hC CF.a_sizes rfl rfl (sndE_name (.head _) rfl)) (sndE_global (at_ (i := 5) rfl) (N.n_LEFT) (fun _ => VR_str.mpr ⟨fitsS (by decide), _, rfl⟩)) (fun _ _ => rfl)) rfl) (.name (at_ (i := 1) rfl) rfl) (by decide +kernel) (sndT_one (sndB_cmp (sndE_call (at_ (i := 2) rfl) (fn_builtin N.n_len sndF_len) (sndL_cons (sndE_methI hK hC M_met (sndE_name (at_ (i := 5) rfl) rfl) (sndL_cons (sndE_global (at_ (i := 3) rfl) (N.n_LEFT) (fun _ => VR_str.mpr ⟨fitsS (by decide), _, rfl⟩)) (sndL_cons (sndE_name (at_ (i := 1) rfl) rfl) sndL_nil)) rfl rfl rfl rfl) sndL_nil) rfl) (sndE_name (at_ (i := 4) rfl) rfl) rfl)) (sndE_name (at_ (i := 1) rfl) rfl) (fun _ _ => rfl))
  (sndSs_cons (sndS_assignComp (at_ (i := 3) rfl) rfl (by decide +kernel) (sndI_range1 (at_ (i := 4) rfl) (N.n_range) (sndE_item (sndE_attr hK hC CF.a_sizes rfl rfl (sndE_name (.head _) rfl)) (sndE_global (at_ (i := 6) rfl) (N.n_RIGHT) (fun _ => VR_str.mpr ⟨fitsS (by decide), _, rfl⟩)) (fun _ _ => rfl)) rfl) (.name (at_ (i := 1) rfl) rfl) (by decide +kernel) (sndT_one (sndB_cmp (sndE_call (at_ (i := 2) rfl) (fn_builtin N.n_len sndF_len) (sndL_cons (sndE_methI hK hC M_met (sndE_name (at_ (i := 5) rfl) rfl) (sndL_cons (sndE_global (at_ (i := 3) rfl) (N.n_RIGHT) (fun _ => VR_str.mpr ⟨fitsS (by decide), _, rfl⟩)) (sndL_cons (sndE_name (at_ (i := 1) rfl) rfl) sndL_nil)) rfl rfl rfl rfl) sndL_nil) rfl) (sndE_name (at_ (i := 4) rfl) rfl) rfl)) (sndE_name (at_ (i := 1) rfl) rfl) (fun _ _ => rfl))
  (sndSs_cons (sndS_return (sndE_tuple (sndL_cons (sndE_name (at_ (i := 2) rfl) rfl) (sndL_cons (sndE_name (at_ (i := 3) rfl) rfl) sndL_nil))))
  sndSs_nil)))))) ?_
  rintro xs σ Q E ⟨x, D, m, rfl, H, W, h64, h⟩
  refine tFun_k rfl fun K KE kret kend _ => ?_
  simp only [Loc.setAll]
  have ha8 := W.a8
  have hb8 := W.b8
  have hi := W.good.inc
  refine tSeq_k fun K1 k1 r1 _ _ => ?_
  simp only [tNop, tRet, tFlow, tDo, tIfS, tAssign, tAssignT, tAssignComp, tFor, tIter, walkV, tRange1, tEnum, tMethod, typeV, tAppend, tCount, tCall, tLen, lenV, tMax, tMin, tListOf, tIsI, isiV, tListComp, tComp, tList, tTuple, tNil, tCons, tConst, tName, tTruth, truthV, tNotB, tAndB, tOrB, tConstB, tCmp, tCmpB, tCmp2B, cmpV, tBin, binV, tNot, tNeg, tIf, tAnd, tOr, tItem, tSlice, sliceV, boundV, Loc.setAll, Loc.set, Loc.empty, Loc.bare, bindV, String.reduceEq, reduceIte, List.length_cons, List.length_nil, tAttr, tMethI, tSetItem, tCmp2, tSetAttr, tDict0, tDict2, sIsNumber, tListRange, tNeDict0, tValues, tLenSet, tMulList, tSliceR, tNew]
  refine ⟨H.instOf (by decide +kernel), x, D, rfl, H, W.good.inc, h64, by omega, by omega, by omega, by omega, fun m' hm' => ?_⟩
  have : m' = m := hm'.uniq W.good.cnt
  subst this
  refine k1 _ _ ?_
  refine tSeq_k fun K1 k1 r1 _ _ => ?_
  simp only [tNop, tRet, tFlow, tDo, tIfS, tAssign, tAssignT, tAssignComp, tFor, tIter, walkV, tRange1, tEnum, tMethod, typeV, tAppend, tCount, tCall, tLen, lenV, tMax, tMin, tListOf, tIsI, isiV, tListComp, tComp, tList, tTuple, tNil, tCons, tConst, tName, tTruth, truthV, tNotB, tAndB, tOrB, tConstB, tCmp, tCmpB, tCmp2B, cmpV, tBin, binV, tNot, tNeg, tIf, tAnd, tOr, tItem, tSlice, sliceV, boundV, Loc.setAll, Loc.set, Loc.empty, Loc.bare, bindV, String.reduceEq, reduceIte, List.length_cons, List.length_nil, tAttr, tMethI, tSetItem, tCmp2, tSetAttr, tDict0, tDict2, sIsNumber, tListRange, tNeDict0, tValues, tLenSet, tMulList, tSliceR, tNew]
  simp only [eqD]
  by_cases hz : m' = 0
  · have e : ((m' : Int) == 0) = true := by rw [hz]; rfl
    rw [e]
    simp only
    refine tSeq_k fun K2 k2 r2 _ _ => ?_
    simp only [tNop, tRet, tFlow, tDo, tIfS, tAssign, tAssignT, tAssignComp, tFor, tIter, walkV, tRange1, tEnum, tMethod, typeV, tAppend, tCount, tCall, tLen, lenV, tMax, tMin, tListOf, tIsI, isiV, tListComp, tComp, tList, tTuple, tNil, tCons, tConst, tName, tTruth, truthV, tNotB, tAndB, tOrB, tConstB, tCmp, tCmpB, tCmp2B, cmpV, tBin, binV, tNot, tNeg, tIf, tAnd, tOr, tItem, tSlice, sliceV, boundV, Loc.setAll, Loc.set, Loc.empty, Loc.bare, bindV, String.reduceEq, reduceIte, List.length_cons, List.length_nil, tAttr, tMethI, tSetItem, tCmp2, tSetAttr, tDict0, tDict2, sIsNumber, tListRange, tNeDict0, tValues, tLenSet, tMulList, tSliceR, tNew]
    refine ⟨by simp [Fits], fun b hb => ⟨by simp [Fits], fun c hc => ⟨by simp [Fits], r2 _ _ _ (r1 _ _ _ (kret _ _ _ _ Sub.refl ?_))⟩⟩⟩
    have := h b c hb ((Sub.refl.new hb).none hc) (fun z => by rw [← z, AH.set_same] at hc; cases hc)
    rw [if_pos hz, if_pos hz] at this
    exact this
  · have e : ((m' : Int) == 0) = false := by simp; omega
    rw [e]
    simp only
    refine k1 _ _ ?_
    rw [if_neg hz, if_neg hz] at h
    refine tSeq_k fun K1 k1 r1 _ _ => ?_
    simp only [tNop, tRet, tFlow, tDo, tIfS, tAssign, tAssignT, tAssignComp, tFor, tIter, walkV, tRange1, tEnum, tMethod, typeV, tAppend, tCount, tCall, tLen, lenV, tMax, tMin, tListOf, tIsI, isiV, tListComp, tComp, tList, tTuple, tNil, tCons, tConst, tName, tTruth, truthV, tNotB, tAndB, tOrB, tConstB, tCmp, tCmpB, tCmp2B, cmpV, tBin, binV, tNot, tNeg, tIf, tAnd, tOr, tItem, tSlice, sliceV, boundV, Loc.setAll, Loc.set, Loc.empty, Loc.bare, bindV, String.reduceEq, reduceIte, List.length_cons, List.length_nil, tAttr, tMethI, tSetItem, tCmp2, tSetAttr, tDict0, tDict2, sIsNumber, tListRange, tNeDict0, tValues, tLenSet, tMulList, tSliceR, tNew]
    simp only [H.sizesA]
    refine H.size false ⟨by simp [szOf]; omega, by simp [szOf, Fits]; omega, nofun, ?_⟩
    rw [rangeV_rng]
    refine compT_growS V.int (fun e => deg D.S false e == m') V.int (rngI (szOf D.a D.b false).toNat) (fun _ _ => trivial) (fun e _ σ4 s4 => ⟨_, fun P h => h, fun Qb hQ => ?_, fun _ σ5 s5 Qv hQ => ?_⟩) fun σ4 s4 d hd => ?_
    · have H4 := H.sub s4
      simp only [tNop, tRet, tFlow, tDo, tIfS, tAssign, tAssignT, tAssignComp, tFor, tIter, walkV, tRange1, tEnum, tMethod, typeV, tAppend, tCount, tCall, tLen, lenV, tMax, tMin, tListOf, tIsI, isiV, tListComp, tComp, tList, tTuple, tNil, tCons, tConst, tName, tTruth, truthV, tNotB, tAndB, tOrB, tConstB, tCmp, tCmpB, tCmp2B, cmpV, tBin, binV, tNot, tNeg, tIf, tAnd, tOr, tItem, tSlice, sliceV, boundV, Loc.setAll, Loc.set, Loc.empty, Loc.bare, bindV, String.reduceEq, reduceIte, List.length_cons, List.length_nil, tAttr, tMethI, tSetItem, tCmp2, tSetAttr, tDict0, tDict2, sIsNumber, tListRange, tNeDict0, tValues, tLenSet, tMulList, tSliceR, tNew]
      refine ⟨H4.instOf (by decide +kernel), x, D, false, e, rfl, H4, hi, h64, fun q hq => ?_⟩
      simp only [AH.set_same, List.length_map, metT_deg, eqD]
      have ee : ((deg D.S false e : Int) == (m' : Int)) = (deg D.S false e == m') := by rw [Bool.eq_iff_iff]; simp; omega
      rw [ee]
      exact hQ _ (Sub.refl.new hq)
    · simp only [tNop, tRet, tFlow, tDo, tIfS, tAssign, tAssignT, tAssignComp, tFor, tIter, walkV, tRange1, tEnum, tMethod, typeV, tAppend, tCount, tCall, tLen, lenV, tMax, tMin, tListOf, tIsI, isiV, tListComp, tComp, tList, tTuple, tNil, tCons, tConst, tName, tTruth, truthV, tNotB, tAndB, tOrB, tConstB, tCmp, tCmpB, tCmp2B, cmpV, tBin, binV, tNot, tNeg, tIf, tAnd, tOr, tItem, tSlice, sliceV, boundV, Loc.setAll, Loc.set, Loc.empty, Loc.bare, bindV, String.reduceEq, reduceIte, List.length_cons, List.length_nil, tAttr, tMethI, tSetItem, tCmp2, tSetAttr, tDict0, tDict2, sIsNumber, tListRange, tNeDict0, tValues, tLenSet, tMulList, tSliceR, tNew]
      exact hQ _ Sub.refl
    · refine k1 _ _ ?_
      have s5 := s4.new (o := .list (((rngI (szOf D.a D.b false).toNat).filter fun e => deg D.S false e == m').map V.int)) hd
      have H5 := H.sub s5
      refine tSeq_k fun K1 k1 r1 _ _ => ?_
      simp only [tNop, tRet, tFlow, tDo, tIfS, tAssign, tAssignT, tAssignComp, tFor, tIter, walkV, tRange1, tEnum, tMethod, typeV, tAppend, tCount, tCall, tLen, lenV, tMax, tMin, tListOf, tIsI, isiV, tListComp, tComp, tList, tTuple, tNil, tCons, tConst, tName, tTruth, truthV, tNotB, tAndB, tOrB, tConstB, tCmp, tCmpB, tCmp2B, cmpV, tBin, binV, tNot, tNeg, tIf, tAnd, tOr, tItem, tSlice, sliceV, boundV, Loc.setAll, Loc.set, Loc.empty, Loc.bare, bindV, String.reduceEq, reduceIte, List.length_cons, List.length_nil, tAttr, tMethI, tSetItem, tCmp2, tSetAttr, tDict0, tDict2, sIsNumber, tListRange, tNeDict0, tValues, tLenSet, tMulList, tSliceR, tNew]
      simp only [H5.sizesA]
      refine H5.size true ⟨by simp [szOf]; omega, by simp [szOf, Fits]; omega, nofun, ?_⟩
      rw [rangeV_rng]
      refine compT_growS V.int (fun e => deg D.S true e == m') V.int (rngI (szOf D.a D.b true).toNat) (fun _ _ => trivial) (fun e _ σ6 s6 => ⟨_, fun P h => h, fun Qb hQ => ?_, fun _ σ7 s7 Qv hQ => ?_⟩) fun σ6 s6 d' hd' => ?_
      · have H6 := H5.sub s6
        simp only [tNop, tRet, tFlow, tDo, tIfS, tAssign, tAssignT, tAssignComp, tFor, tIter, walkV, tRange1, tEnum, tMethod, typeV, tAppend, tCount, tCall, tLen, lenV, tMax, tMin, tListOf, tIsI, isiV, tListComp, tComp, tList, tTuple, tNil, tCons, tConst, tName, tTruth, truthV, tNotB, tAndB, tOrB, tConstB, tCmp, tCmpB, tCmp2B, cmpV, tBin, binV, tNot, tNeg, tIf, tAnd, tOr, tItem, tSlice, sliceV, boundV, Loc.setAll, Loc.set, Loc.empty, Loc.bare, bindV, String.reduceEq, reduceIte, List.length_cons, List.length_nil, tAttr, tMethI, tSetItem, tCmp2, tSetAttr, tDict0, tDict2, sIsNumber, tListRange, tNeDict0, tValues, tLenSet, tMulList, tSliceR, tNew]
        refine ⟨H6.instOf (by decide +kernel), x, D, true, e, rfl, H6, hi, h64, fun q hq => ?_⟩
        simp only [AH.set_same, List.length_map, metT_deg, eqD]
        have ee : ((deg D.S true e : Int) == (m' : Int)) = (deg D.S true e == m') := by rw [Bool.eq_iff_iff]; simp; omega
        rw [ee]
        exact hQ _ (Sub.refl.new hq)
      · simp only [tNop, tRet, tFlow, tDo, tIfS, tAssign, tAssignT, tAssignComp, tFor, tIter, walkV, tRange1, tEnum, tMethod, typeV, tAppend, tCount, tCall, tLen, lenV, tMax, tMin, tListOf, tIsI, isiV, tListComp, tComp, tList, tTuple, tNil, tCons, tConst, tName, tTruth, truthV, tNotB, tAndB, tOrB, tConstB, tCmp, tCmpB, tCmp2B, cmpV, tBin, binV, tNot, tNeg, tIf, tAnd, tOr, tItem, tSlice, sliceV, boundV, Loc.setAll, Loc.set, Loc.empty, Loc.bare, bindV, String.reduceEq, reduceIte, List.length_cons, List.length_nil, tAttr, tMethI, tSetItem, tCmp2, tSetAttr, tDict0, tDict2, sIsNumber, tListRange, tNeDict0, tValues, tLenSet, tMulList, tSliceR, tNew]
        exact hQ _ Sub.refl
      · refine k1 _ _ ?_
        refine tSeq_k fun K1 k1 r1 _ _ => ?_
        simp only [tNop, tRet, tFlow, tDo, tIfS, tAssign, tAssignT, tAssignComp, tFor, tIter, walkV, tRange1, tEnum, tMethod, typeV, tAppend, tCount, tCall, tLen, lenV, tMax, tMin, tListOf, tIsI, isiV, tListComp, tComp, tList, tTuple, tNil, tCons, tConst, tName, tTruth, truthV, tNotB, tAndB, tOrB, tConstB, tCmp, tCmpB, tCmp2B, cmpV, tBin, binV, tNot, tNeg, tIf, tAnd, tOr, tItem, tSlice, sliceV, boundV, Loc.setAll, Loc.set, Loc.empty, Loc.bare, bindV, String.reduceEq, reduceIte, List.length_cons, List.length_nil, tAttr, tMethI, tSetItem, tCmp2, tSetAttr, tDict0, tDict2, sIsNumber, tListRange, tNeDict0, tValues, tLenSet, tMulList, tSliceR, tNew]
        refine ⟨by simp [Fits], r1 _ _ _ (kret _ _ _ _ ?_ (h d d' (s4.none hd) ((s5.trans s6).none hd') (fun z => ?_)))⟩
        · refine sub_at (fun y p q => ?_) AH.set_same
          refine new_keeps ?_ hd'
          exact s6 _ _ ((sub_at s5 AH.set_same) y p q)
        · have w := s6 _ _ (AH.set_same (σ := σ4) (a := d))
          rw [z, hd'] at w; cases w
theorem f_go (hK : (KK P).In g.b0) (N : NN g) (M_need_pair : FnM g (KK P) CC "need_pair" 7 (sNeedPair CC)) (M_count : FnM g (KK P) CC "count" 7 (sCount CC)) (M_hued : FnM g (KK P) CC "hued" 7 (sHued CC)) : SndC g 8 (.ref 236) (sGo CC) := by
  refine SndC.mono (sndC_def (r := 7) (ps := ["self", "number"]) (hK 236 _ rfl) rfl (CodeRec.mk' (hK 235 _ rfl) rfl rfl) rfl (by intro vs h; obtain ⟨a0, a1, rfl⟩ := len2 h; rfl) rfl rfl rfl (by decide +kernel)
    (sndSs_cons (sndS_expr (sndE_methI hK hC M_need_pair (sndE_name (.head _) rfl) (sndL_cons (sndE_name (at_ (i := 1) rfl) rfl) sndL_nil) rfl rfl rfl rfl) (fun _ => rfl))
  (sndSs_cons (sndS_assign (at_ (i := 2) rfl) rfl (sndE_methI hK hC M_count (sndE_name (.head _) rfl) sndL_nil rfl rfl rfl rfl) (fun _ => rfl))
  (sndSs_cons (sndS_expr (mPop (sndE_attr hK hC CF.a_rows rfl rfl (sndE_name (.head _) rfl)) (sndL_cons (sndE_name (at_ (i := 1) rfl) rfl) sndL_nil) rfl rfl rfl rfl) (fun _ => rfl))
  (sndSs_cons (sndS_assign (at_ (i := 3) rfl) rfl (sndE_methI hK hC M_count (sndE_name (.head _) rfl) sndL_nil rfl rfl rfl rfl) (fun _ => rfl))
  (sndSs_cons (sndS_assign (at_ (i := 4) rfl) rfl (sndE_list sndL_nil) (fun _ => rfl))
  (sndSs_cons (sndS_if (sndB_cmp (sndE_name (at_ (i := 3) rfl) rfl) (sndE_name (at_ (i := 2) rfl) rfl) rfl) (sndSs_cons (sndS_for (sndI_value (sndE_call (at_ (i := 6) rfl) (fn_builtin N.n_sorted sndF_sorted) (sndL_cons (sndE_attr hK hC CF.a_rows rfl rfl (sndE_name (.head _) rfl)) sndL_nil) rfl)) (.name (at_ (i := 5) rfl) rfl) (sndSs_cons (sndS_if (sndB_cmp (sndE_item (sndE_item (sndE_attr hK hC CF.a_rows rfl rfl (sndE_name (.head _) rfl)) (sndE_name (at_ (i := 5) rfl) rfl) (fun _ _ => rfl)) sndE_int (fun _ _ => rfl)) (sndE_name (at_ (i := 3) rfl) rfl) rfl) (sndSs_cons (sndS_expr (mAppend (sndE_name (at_ (i := 4) rfl) rfl) (sndL_cons (sndE_methI hK hC M_hued (sndE_name (.head _) rfl) (sndL_cons (sndE_name (at_ (i := 5) rfl) rfl) (sndL_cons (sndE_item (sndE_item (sndE_attr hK hC CF.a_rows rfl rfl (sndE_name (.head _) rfl)) (sndE_name (at_ (i := 5) rfl) rfl) (fun _ _ => rfl)) sndE_int (fun _ _ => rfl)) (sndL_cons (sndE_item (sndE_item (sndE_attr hK hC CF.a_rows rfl rfl (sndE_name (.head _) rfl)) (sndE_name (at_ (i := 5) rfl) rfl) (fun _ _ => rfl)) sndE_int (fun _ _ => rfl)) (sndL_cons (sndE_name (at_ (i := 3) rfl) rfl) sndL_nil)))) rfl rfl rfl rfl) sndL_nil) rfl rfl rfl rfl) (fun _ => rfl))
  sndSs_nil) sndSs_nil)
  sndSs_nil) (fun _ _ => rfl))
  sndSs_nil) sndSs_nil)
  (sndSs_cons (sndS_return (sndE_name (at_ (i := 4) rfl) rfl))
  sndSs_nil)))))))) ?_
  rintro xs σ Q E ⟨x, D, m, t, rfl, ht, H, W, h64, h⟩
  refine tFun_k rfl fun K KE kret kend _ => ?_
  simp only [Loc.setAll]
  have ha8 := W.a8
  have hb8 := W.b8
  have hi := W.good.inc
  refine tSeq_k fun K1 k1 r1 _ _ => ?_
  simp only [tNop, tRet, tFlow, tDo, tIfS, tAssign, tAssignT, tAssignComp, tFor, tIter, walkV, tRange1, tEnum, tMethod, typeV, tAppend, tCount, tCall, tLen, lenV, tMax, tMin, tListOf, tIsI, isiV, tListComp, tComp, tList, tTuple, tNil, tCons, tConst, tName, tTruth, truthV, tNotB, tAndB, tOrB, tConstB, tCmp, tCmpB, tCmp2B, cmpV, tBin, binV, tNot, tNeg, tIf, tAnd, tOr, tItem, tSlice, sliceV, boundV, Loc.setAll, Loc.set, Loc.empty, Loc.bare, bindV, String.reduceEq, reduceIte, List.length_cons, List.length_nil, tAttr, tMethI, tSetItem, tCmp2, tSetAttr, tDict0, tDict2, sIsNumber, tListRange, tNeDict0, tValues, tLenSet, tMulList, tSliceR, tNew]
  refine ⟨H.instOf (by decide +kernel), x, D, t, rfl, ht, H, k1 _ _ ?_⟩
  refine tSeq_k fun K1 k1 r1 _ _ => ?_
  simp only [tNop, tRet, tFlow, tDo, tIfS, tAssign, tAssignT, tAssignComp, tFor, tIter, walkV, tRange1, tEnum, tMethod, typeV, tAppend, tCount, tCall, tLen, lenV, tMax, tMin, tListOf, tIsI, isiV, tListComp, tComp, tList, tTuple, tNil, tCons, tConst, tName, tTruth, truthV, tNotB, tAndB, tOrB, tConstB, tCmp, tCmpB, tCmp2B, cmpV, tBin, binV, tNot, tNeg, tIf, tAnd, tOr, tItem, tSlice, sliceV, boundV, Loc.setAll, Loc.set, Loc.empty, Loc.bare, bindV, String.reduceEq, reduceIte, List.length_cons, List.length_nil, tAttr, tMethI, tSetItem, tCmp2, tSetAttr, tDict0, tDict2, sIsNumber, tListRange, tNeDict0, tValues, tLenSet, tMulList, tSliceR, tNew]
  refine ⟨H.instOf (by decide +kernel), x, D, rfl, H, hi, h64, by omega, by omega, by omega, by omega, fun m0 hm0 => k1 _ _ ?_⟩
  have : m0 = m := hm0.uniq W.good.cnt
  subst this
  refine tSeq_k fun K1 k1 r1 _ _ => ?_
  obtain ⟨ep, er⟩ := H.rows
  simp only [tNop, tRet, tFlow, tDo, tIfS, tAssign, tAssignT, tAssignComp, tFor, tIter, walkV, tRange1, tEnum, tMethod, typeV, tAppend, tCount, tCall, tLen, lenV, tMax, tMin, tListOf, tIsI, isiV, tListComp, tComp, tList, tTuple, tNil, tCons, tConst, tName, tTruth, truthV, tNotB, tAndB, tOrB, tConstB, tCmp, tCmpB, tCmp2B, cmpV, tBin, binV, tNot, tNeg, tIf, tAnd, tOr, tItem, tSlice, sliceV, boundV, Loc.setAll, Loc.set, Loc.empty, Loc.bare, bindV, String.reduceEq, reduceIte, List.length_cons, List.length_nil, tAttr, tMethI, tSetItem, tCmp2, tSetAttr, tDict0, tDict2, sIsNumber, tListRange, tNeDict0, tValues, tLenSet, tMulList, tSliceR, tNew]
  simp only [H.rowsA, er, tPop]
  refine ⟨trivial, _, lookup_T hi ht, fun ep2 => k1 _ _ ?_⟩
  have H1 := H.dropRow t.1.n ep2
  generalize hσ1 : σ.set D.rd (.dictI ((D.T.map fun t => (t.1.n, V.ref t.2)).filter fun kv => decide (kv.1 ≠ t.1.n)) ep2) = σ1 at H1
  have hS1 : (D.drop t.1.n).S = drp t.1.n D.S := HD.drop_S
  have hi1 : Inc (D.drop t.1.n).S := by rw [hS1]; exact hi.filter _
  have h641 : (D.drop t.1.n).T.length < 64 := Nat.lt_of_le_of_lt (List.length_filter_le _ _) h64
  have F1 : Frm σ σ1 D (D.drop t.1.n) := by
    refine ⟨fun y o q nf => by rw [← hσ1, AH.set_other fun z => nf (.inr (.inl z))]; exact q, fun y q => ?_, ⟨rfl, rfl, rfl⟩, fun y q => ?_⟩
    · rcases q with q | q | q
      · exact .inl (.inl q)
      · exact .inl (.inr (.inl q))
      · obtain ⟨u, hu, rfl⟩ := List.mem_map.1 q
        exact .inl (.inr (.inr (List.mem_map.2 ⟨u, (List.mem_filter.1 hu).1, rfl⟩)))
    · rw [← hσ1] at q
      by_cases z : y = D.rd
      · rw [z, AH.set_same] at q; cases q
      · rw [AH.set_other z] at q; exact q
  refine tSeq_k fun K1 k1 r1 _ _ => ?_
  simp only [tNop, tRet, tFlow, tDo, tIfS, tAssign, tAssignT, tAssignComp, tFor, tIter, walkV, tRange1, tEnum, tMethod, typeV, tAppend, tCount, tCall, tLen, lenV, tMax, tMin, tListOf, tIsI, isiV, tListComp, tComp, tList, tTuple, tNil, tCons, tConst, tName, tTruth, truthV, tNotB, tAndB, tOrB, tConstB, tCmp, tCmpB, tCmp2B, cmpV, tBin, binV, tNot, tNeg, tIf, tAnd, tOr, tItem, tSlice, sliceV, boundV, Loc.setAll, Loc.set, Loc.empty, Loc.bare, bindV, String.reduceEq, reduceIte, List.length_cons, List.length_nil, tAttr, tMethI, tSetItem, tCmp2, tSetAttr, tDict0, tDict2, sIsNumber, tListRange, tNeDict0, tValues, tLenSet, tMulList, tSliceR, tNew]
  refine ⟨H1.instOf (by decide +kernel), x, D.drop t.1.n, rfl, H1, hi1, h641, by show 0 ≤ D.a; omega, by show D.a ≤ 1000; omega, by show 0 ≤ D.b; omega, by show D.b ≤ 1000; omega, fun m' hm' => k1 _ _ ?_⟩
  rw [hS1] at hm'
  have hm' : IsCnt (drp t.1.n D.S) D.a D.b m' := hm'
  obtain ⟨hle, hsame, hless⟩ := W.good.go hm'
  refine tSeq_k fun K1 k1 r1 _ _ => ?_
  simp only [tNop, tRet, tFlow, tDo, tIfS, tAssign, tAssignT, tAssignComp, tFor, tIter, walkV, tRange1, tEnum, tMethod, typeV, tAppend, tCount, tCall, tLen, lenV, tMax, tMin, tListOf, tIsI, isiV, tListComp, tComp, tList, tTuple, tNil, tCons, tConst, tName, tTruth, truthV, tNotB, tAndB, tOrB, tConstB, tCmp, tCmpB, tCmp2B, cmpV, tBin, binV, tNot, tNeg, tIf, tAnd, tOr, tItem, tSlice, sliceV, boundV, Loc.setAll, Loc.set, Loc.empty, Loc.bare, bindV, String.reduceEq, reduceIte, List.length_cons, List.length_nil, tAttr, tMethI, tSetItem, tCmp2, tSetAttr, tDict0, tDict2, sIsNumber, tListRange, tNeDict0, tValues, tLenSet, tMulList, tSliceR, tNew]
  refine ⟨by simp [Fits], fun b hb => k1 _ _ ?_⟩
  have hb0 : σ b = none := F1.dom b hb
  have hdn : ∀ n ∈ (drp t.1.n D.S).map Rw.n, n ∈ D.S.map Rw.n := fun n hn => by
    obtain ⟨y, hy, rfl⟩ := List.mem_map.1 hn
    exact List.mem_map.2 ⟨y, (List.mem_filter.1 hy).1, rfl⟩
  have noFoot : ∀ {σ' : AH} {D' : HD} {b : Addr}, HallAt σ' CC x D' → σ' b = none → ¬ D'.foot b := fun {σ' D' b} H' hb q => by
    rcases q with q | q | q
    · have := H'.attrs; rw [← q, hb] at this; cases this
    · obtain ⟨_, this⟩ := H'.rows; rw [← q, hb] at this; cases this
    · obtain ⟨u, hu, rfl⟩ := List.mem_map.1 q
      have := H'.row u hu; rw [hb] at this; cases this
  refine tSeq_k fun K1 k1 r1 _ _ => ?_
  simp only [tNop, tRet, tFlow, tDo, tIfS, tAssign, tAssignT, tAssignComp, tFor, tIter, walkV, tRange1, tEnum, tMethod, typeV, tAppend, tCount, tCall, tLen, lenV, tMax, tMin, tListOf, tIsI, isiV, tListComp, tComp, tList, tTuple, tNil, tCons, tConst, tName, tTruth, truthV, tNotB, tAndB, tOrB, tConstB, tCmp, tCmpB, tCmp2B, cmpV, tBin, binV, tNot, tNeg, tIf, tAnd, tOr, tItem, tSlice, sliceV, boundV, Loc.setAll, Loc.set, Loc.empty, Loc.bare, bindV, String.reduceEq, reduceIte, List.length_cons, List.length_nil, tAttr, tMethI, tSetItem, tCmp2, tSetAttr, tDict0, tDict2, sIsNumber, tListRange, tNeDict0, tValues, tLenSet, tMulList, tSliceR, tNew]
  by_cases hlt : m' < m0
  case neg =>
    have e : decide ((m' : Int) < (m0 : Int)) = false := by rw [decide_eq_false_iff_not]; omega
    simp only [e]
    refine k1 _ _ ?_
    refine tSeq_k fun K1 k1 r1 _ _ => ?_
    simp only [tNop, tRet, tFlow, tDo, tIfS, tAssign, tAssignT, tAssignComp, tFor, tIter, walkV, tRange1, tEnum, tMethod, typeV, tAppend, tCount, tCall, tLen, lenV, tMax, tMin, tListOf, tIsI, isiV, tListComp, tComp, tList, tTuple, tNil, tCons, tConst, tName, tTruth, truthV, tNotB, tAndB, tOrB, tConstB, tCmp, tCmpB, tCmp2B, cmpV, tBin, binV, tNot, tNeg, tIf, tAnd, tOr, tItem, tSlice, sliceV, boundV, Loc.setAll, Loc.set, Loc.empty, Loc.bare, bindV, String.reduceEq, reduceIte, List.length_cons, List.length_nil, tAttr, tMethI, tSetItem, tCmp2, tSetAttr, tDict0, tDict2, sIsNumber, tListRange, tNeDict0, tValues, tLenSet, tMulList, tSliceR, tNew]
    have hg := hsame (by omega)
    refine r1 _ _ _ (kret _ _ _ _ Sub.refl (h _ (D.drop t.1.n) m' b [] (H1.sub (Sub.refl.new hb)) (W.of_sk (by rw [hS1]; exact hg) ⟨rfl, rfl, rfl⟩ (by rw [hS1]; exact hdn)) (F1.setNew hb0) (by rw [hS1]) hm' (by rw [hS1]; exact .nil) hb0 (noFoot H1 hb) AH.set_same fun e he => absurd he (by simp)))
  case pos =>
    have e : decide ((m' : Int) < (m0 : Int)) = true := by rw [decide_eq_true_iff]; omega
    simp only [e]
    have hpend := hless hlt
    have H2 := H1.sub (Sub.refl.new (o := .list []) hb)
    refine tSeq_k fun K2 k2 r2 _ _ => ?_
    simp only [tNop, tRet, tFlow, tDo, tIfS, tAssign, tAssignT, tAssignComp, tFor, tIter, walkV, tRange1, tEnum, tMethod, typeV, tAppend, tCount, tCall, tLen, lenV, tMax, tMin, tListOf, tIsI, isiV, tListComp, tComp, tList, tTuple, tNil, tCons, tConst, tName, tTruth, truthV, tNotB, tAndB, tOrB, tConstB, tCmp, tCmpB, tCmp2B, cmpV, tBin, binV, tNot, tNeg, tIf, tAnd, tOr, tItem, tSlice, sliceV, boundV, Loc.setAll, Loc.set, Loc.empty, Loc.bare, bindV, String.reduceEq, reduceIte, List.length_cons, List.length_nil, tAttr, tMethI, tSetItem, tCmp2, tSetAttr, tDict0, tDict2, sIsNumber, tListRange, tNeDict0, tValues, tLenSet, tMulList, tSliceR, tNew]
    simp only [H2.rowsA]
    refine tSorted_rows H2 hi1 h641 fun o ho => ?_
    simp only [AH.set_same]
    have hob : o ≠ b := fun z => by rw [z, AH.set_same] at ho; cases ho
    have ho1 : σ1 o = none := (Sub.refl.new hb).none ho
    refine ⟨nofun, loopT_k (fun xs ℓ σ' => ∃ (rest : List Int) (Dc : HD) (log : List LogE), xs = rest.map V.int ∧ HallAt σ' CC x Dc ∧ Frm σ1 σ' (D.drop t.1.n) Dc ∧ Pend Dc.S D.a D.b m' rest ∧ Dc.S.map sk = (drp t.1.n D.S).map sk ∧ (∀ k ∈ rest, k ∈ (drp t.1.n D.S).map Rw.n) ∧ GoLog m' (drp t.1.n D.S) log Dc.S ∧
        σ' b = some (.list (log.map LogE.v)) ∧ ¬ Dc.foot b ∧ σ' o = some (.list ((D.drop t.1.n).T.map fun t => V.int t.1.n)) ∧ ¬ Dc.foot o ∧ (∀ e ∈ log, σ' e.c = some (.list (e.nums.map V.int)) ∧ σ e.c = none ∧ ¬ Dc.foot e.c ∧ e.c ≠ b) ∧ ℓ "self" = some (.ref x) ∧ ℓ "many" = some (.int (m' : Nat)) ∧ ℓ "found" = some (.ref b) ∧ log.length + rest.length ≤ 64) ?_ ?_
      ⟨(drp t.1.n D.S).map Rw.n, D.drop t.1.n, [], ?_, H2.sub (Sub.refl.new ho), ⟨fun y p q _ => new_keeps (new_keeps q hb) ho, fun y q => .inl q, ⟨rfl, rfl, rfl⟩, fun y q => (Sub.refl.new hb).none ((Sub.refl.new ho).none q)⟩, by rw [hS1]; exact hpend, by rw [hS1], fun k hk => hk, by rw [hS1]; exact .nil, new_keeps AH.set_same ho, noFoot H1 hb, AH.set_same, noFoot H1 ho1, fun e he => absurd he (by simp), rfl, rfl, rfl, ?_⟩⟩
    · rintro ℓ σ' ⟨rest, Dc, log, h1, Hc, Fc, hP, hsk, hks, hlog, hb2, nfb, ho2, nfo, hlc, e1, e2, e3, hll⟩
      have hr : rest = [] := by cases rest with | nil => rfl | cons _ _ => simp at h1
      subst hr
      refine ⟨ho2, k2 _ _ ?_⟩
      simp only [tNop, tRet, tFlow, tDo, tIfS, tAssign, tAssignT, tAssignComp, tFor, tIter, walkV, tRange1, tEnum, tMethod, typeV, tAppend, tCount, tCall, tLen, lenV, tMax, tMin, tListOf, tIsI, isiV, tListComp, tComp, tList, tTuple, tNil, tCons, tConst, tName, tTruth, truthV, tNotB, tAndB, tOrB, tConstB, tCmp, tCmpB, tCmp2B, cmpV, tBin, binV, tNot, tNeg, tIf, tAnd, tOr, tItem, tSlice, sliceV, boundV, Loc.setAll, Loc.set, Loc.empty, Loc.bare, bindV, String.reduceEq, reduceIte, List.length_cons, List.length_nil, tAttr, tMethI, tSetItem, tCmp2, tSetAttr, tDict0, tDict2, sIsNumber, tListRange, tNeDict0, tValues, tLenSet, tMulList, tSliceR, tNew]
      refine k1 _ _ ?_
      refine tSeq_k fun K1 k1 r1 _ _ => ?_
      simp only [tNop, tRet, tFlow, tDo, tIfS, tAssign, tAssignT, tAssignComp, tFor, tIter, walkV, tRange1, tEnum, tMethod, typeV, tAppend, tCount, tCall, tLen, lenV, tMax, tMin, tListOf, tIsI, isiV, tListComp, tComp, tList, tTuple, tNil, tCons, tConst, tName, tTruth, truthV, tNotB, tAndB, tOrB, tConstB, tCmp, tCmpB, tCmp2B, cmpV, tBin, binV, tNot, tNeg, tIf, tAnd, tOr, tItem, tSlice, sliceV, boundV, Loc.setAll, Loc.set, Loc.empty, Loc.bare, bindV, String.reduceEq, reduceIte, List.length_cons, List.length_nil, tAttr, tMethI, tSetItem, tCmp2, tSetAttr, tDict0, tDict2, sIsNumber, tListRange, tNeDict0, tValues, tLenSet, tMulList, tSliceR, tNew]
      simp only [e3]
      exact r1 _ _ _ (kret _ _ _ _ Sub.refl (h σ' Dc m' b log Hc (W.of_sk hP.done (Fc.sz) (by rw [sk_ns hsk]; exact hdn)) (F1.trans Fc) hsk hm' hlog hb0 nfb hb2 fun e he => let ⟨a, b, c, _⟩ := hlc e he; ⟨a, b, c⟩))
    · rintro v xs ℓ σ' K3 k3 r3 _ _ ⟨rest, Dc, log, h1, Hc, Fc, hP, hsk, hks, hlog, hb2, nfb, ho2, nfo, hlc, e1, e2, e3, hll⟩
      obtain ⟨k, rest, rfl⟩ : ∃ s r, rest = s :: r := by cases rest with | nil => simp at h1 | cons s r => exact ⟨s, r, rfl⟩
      simp only [List.map_cons, List.cons.injEq] at h1
      obtain ⟨rfl, rfl⟩ := h1
      refine ⟨ho2, ?_⟩
      simp only [bindV]
      have hk := hks k (.head _)
      rw [← sk_ns hsk] at hk
      obtain ⟨y, hy, rfl⟩ := List.mem_map.1 hk
      obtain ⟨u, hu, rfl⟩ := mem_S hy
      have hic := hP.inc
      refine tSeq_k fun K4 k4 r4 _ _ => ?_
      simp only [tNop, tRet, tFlow, tDo, tIfS, tAssign, tAssignT, tAssignComp, tFor, tIter, walkV, tRange1, tEnum, tMethod, typeV, tAppend, tCount, tCall, tLen, lenV, tMax, tMin, tListOf, tIsI, isiV, tListComp, tComp, tList, tTuple, tNil, tCons, tConst, tName, tTruth, truthV, tNotB, tAndB, tOrB, tConstB, tCmp, tCmpB, tCmp2B, cmpV, tBin, binV, tNot, tNeg, tIf, tAnd, tOr, tItem, tSlice, sliceV, boundV, Loc.setAll, Loc.set, Loc.empty, Loc.bare, bindV, String.reduceEq, reduceIte, List.length_cons, List.length_nil, tAttr, tMethI, tSetItem, tCmp2, tSetAttr, tDict0, tDict2, sIsNumber, tListRange, tNeDict0, tValues, tLenSet, tMulList, tSliceR, tNew]
      simp only [e1, e2, Hc.rowsA]
      refine Hc.item hic hu (Hc.item2 hu (eqD_hue ?_))
      cases q : (u.1.h == some (m' : Int)) with
      | false =>
        simp only
        exact k4 _ _ (k3 _ _ ⟨rest, Dc, log, rfl, Hc, Fc, hP.skip hy rfl (by simpa using q), hsk, fun k' hk' => hks k' (.tail _ hk'), hlog, hb2, nfb, ho2, nfo, hlc, e1, e2, e3, by simp at hll; omega⟩)
      | true =>
        simp only
        have hum : u.1.h = some (m' : Int) := by simpa using q
        refine tSeq_k fun K5 k5 r5 _ _ => ?_
        simp only [tNop, tRet, tFlow, tDo, tIfS, tAssign, tAssignT, tAssignComp, tFor, tIter, walkV, tRange1, tEnum, tMethod, typeV, tAppend, tCount, tCall, tLen, lenV, tMax, tMin, tListOf, tIsI, isiV, tListComp, tComp, tList, tTuple, tNil, tCons, tConst, tName, tTruth, truthV, tNotB, tAndB, tOrB, tConstB, tCmp, tCmpB, tCmp2B, cmpV, tBin, binV, tNot, tNeg, tIf, tAnd, tOr, tItem, tSlice, sliceV, boundV, Loc.setAll, Loc.set, Loc.empty, Loc.bare, bindV, String.reduceEq, reduceIte, List.length_cons, List.length_nil, tAttr, tMethI, tSetItem, tCmp2, tSetAttr, tDict0, tDict2, sIsNumber, tListRange, tNeDict0, tValues, tLenSet, tMulList, tSliceR, tNew]
        simp only [e1, e2, e3, hb2, Hc.rowsA]
        refine ⟨trivial, Hc.instOf (by decide +kernel), Hc.item hic hu (Hc.item0 hu (Hc.item hic hu (Hc.item1 hu ?_)))⟩
        have hT : Dc.T.length < 64 := by
          have := congrArg List.length hsk
          simp [HD.S] at this
          rw [this]
          exact Nat.lt_of_le_of_lt (List.length_filter_le _ _) (by simpa [HD.S] using h64)
        have hm100 : m' ≤ 100 := by
          have := cnt_le_length hP.cnt; simp [HD.S] at this; omega
        refine ⟨x, Dc, u, m', rfl, hu, Hc, hic, hT, hm100, put_none_proper hP.proper, hP.cnt.all hP.inr _ _, hP.cnt.all hP.inr _ _, fun σ3 D3 hue other nums c H3 F3 hto hc1 hc2 hc3 => ?_⟩
        have nfb3 : ¬ D3.foot b := fun z => by
          rcases F3.new b z with w | w
          · exact nfb w
          · rw [hb2] at w; cases w
        have nfo3 : ¬ D3.foot o := fun z => by
          rcases F3.new o z with w | w
          · exact nfo w
          · rw [ho2] at w; cases w
        have b3 : σ3 b = some (.list (log.map LogE.v)) := F3.keep b _ hb2 nfb
        have o3 : σ3 o = some (.list ((D.drop t.1.n).T.map fun t => V.int t.1.n)) := F3.keep o _ ho2 nfo
        simp only [b3]
        have hcb : c ≠ b := fun z => by rw [z, hb2] at hc1; cases hc1
        refine ⟨by simp [Fits]; simp at hll; omega, k5 _ _ (k4 _ _ (k3 _ _ ⟨rest, D3, log ++ [⟨u.1.n, hue, other, nums, c⟩], rfl, H3.setList b3 fun z => nfb3 (.inr (.inr z)), (Fc.trans F3).setNew (by exact hb), ?_, ?_, fun k' hk' => hks k' (.tail _ hk'), ?_, ?_, nfb3, ?_, nfo3, fun e he => ?_, e1, e2, e3, by simp at hll ⊢; omega⟩))⟩
        · refine hP.step (hto.hued (put_none_proper hP.proper) (inc_map (fun _ => putH_n) hic) (x := putH u.1.n none u.1) (List.mem_map.2 ⟨u.1, hy, rfl⟩) putH_n (putH_same rfl) ?_ ?_)
          · unfold putH; rw [if_pos rfl]
          · unfold putH; rw [if_pos rfl]
        · have hh := hto.hued (put_none_proper hP.proper) (inc_map (fun _ => putH_n) hic) (x := putH u.1.n none u.1) (List.mem_map.2 ⟨u.1, hy, rfl⟩) putH_n (putH_same rfl) (by unfold putH; rw [if_pos rfl]) (by unfold putH; rw [if_pos rfl])
          rw [hh.sk, sk_map fun _ => sk_putH]; exact hsk
        · exact .snoc hlog hy rfl hum hto
        · rw [AH.set_same]; simp [LogE.v]
        · rw [AH.set_other hob]; exact o3
        · rcases List.mem_append.1 he with w | w
          · obtain ⟨a1, a2, a3, a4⟩ := hlc e w
            refine ⟨by rw [AH.set_other a4]; exact F3.keep _ _ a1 a3, a2, fun z => ?_, a4⟩
            rcases F3.new _ z with v | v
            · exact a3 v
            · rw [a1] at v; cases v
          · rw [List.mem_singleton.1 w]
            exact ⟨by rw [AH.set_other hcb]; exact hc3, F1.dom _ (Fc.dom _ hc1), hc2, hcb⟩
    · unfold HD.drop
      simp only [drp, HD.S, List.filter_map, List.map_map]
      rfl
    · simp only [List.length_nil, List.length_map]
      have := List.length_filter_le (fun x : Rw => x.n != t.1.n) D.S
      unfold drp
      simp [HD.S] at *; omega
end
section
open PySem PySem.W PyProof.Rows
variable {g : Gr} {P : Params}
theorem f_cell_at (hK : (KK P).In g.b0) (N : NN g) : SndC g 2 (.ref 295) sCellAt := by
  refine SndC.mono (sndC_def (r := 1) (ps := ["_law_script", "_law_k"]) (hK 295 _ rfl) rfl (CodeRec.mk' (hK 294 _ rfl) rfl rfl) rfl (by intro vs h; obtain ⟨a0, a1, rfl⟩ := len2 h; rfl) rfl rfl rfl (by decide +kernel)
    (sndSs_cons (sndS_if (sndB_cmp (sndE_name (at_ (i := 1) rfl) rfl) (sndE_call (at_ (i := 2) rfl) (fn_builtin N.n_len sndF_len) (sndL_cons (sndE_name (.head _) rfl) sndL_nil) rfl) rfl) (sndSs_cons (sndS_return (sndE_item (sndE_name (.head _) rfl) (sndE_name (at_ (i := 1) rfl) rfl) (fun _ _ => rfl)))
  sndSs_nil) sndSs_nil)
  (sndSs_cons (sndS_return sndE_int)
  sndSs_nil))) ?_
  rintro xs σ Q E ⟨ns, k, rfl, h⟩
  refine tFun_k rfl fun K KE kret _ _ => ?_
  simp only [Loc.setAll]
  refine tSeq_k fun K1 k1 r1 _ _ => ?_
  simp only [tNop, tRet, tFlow, tDo, tIfS, tAssign, tAssignT, tAssignComp, tFor, tIter, walkV, tRange1, tEnum, tMethod, typeV, tAppend, tCount, tCall, tLen, lenV, tMax, tMin, tListOf, tIsI, isiV, tListComp, tComp, tList, tTuple, tNil, tCons, tConst, tName, tTruth, truthV, tNotB, tAndB, tOrB, tConstB, tCmp, tCmpB, tCmp2B, cmpV, tBin, binV, tNot, tNeg, tIf, tAnd, tOr, tItem, tSlice, sliceV, boundV, Loc.setAll, Loc.set, Loc.empty, Loc.bare, bindV, String.reduceEq, reduceIte, List.length_cons, List.length_nil, tAttr, tMethI, tSetItem, tCmp2, tSetAttr, tDict0, tDict2, sIsNumber, tListRange, tNeDict0, tValues, tLenSet, tMulList, tSliceR, tNew]
  simp only [List.length_map]
  by_cases hk : (k : Int) < (ns.length : Int)
  · simp only [decide_eq_true hk]
    refine tSeq_k fun K2 k2 r2 _ _ => ?_
    simp only [tNop, tRet, tFlow, tDo, tIfS, tAssign, tAssignT, tAssignComp, tFor, tIter, walkV, tRange1, tEnum, tMethod, typeV, tAppend, tCount, tCall, tLen, lenV, tMax, tMin, tListOf, tIsI, isiV, tListComp, tComp, tList, tTuple, tNil, tCons, tConst, tName, tTruth, truthV, tNotB, tAndB, tOrB, tConstB, tCmp, tCmpB, tCmp2B, cmpV, tBin, binV, tNot, tNeg, tIf, tAnd, tOr, tItem, tSlice, sliceV, boundV, Loc.setAll, Loc.set, Loc.empty, Loc.bare, bindV, String.reduceEq, reduceIte, List.length_cons, List.length_nil, tAttr, tMethI, tSetItem, tCmp2, tSetAttr, tDict0, tDict2, sIsNumber, tListRange, tNeDict0, tValues, tLenSet, tMulList, tSliceR, tNew]
    simp only [itemV, row_at (r := ns) (show k < ns.length by omega)]
    exact r2 _ _ _ (r1 _ _ _ (kret _ _ _ _ Sub.refl (h _)))
  · simp only [decide_eq_false hk]
    refine k1 _ _ ?_
    refine tSeq_k fun K2 k2 r2 _ _ => ?_
    simp only [tNop, tRet, tFlow, tDo, tIfS, tAssign, tAssignT, tAssignComp, tFor, tIter, walkV, tRange1, tEnum, tMethod, typeV, tAppend, tCount, tCall, tLen, lenV, tMax, tMin, tListOf, tIsI, isiV, tListComp, tComp, tList, tTuple, tNil, tCons, tConst, tName, tTruth, truthV, tNotB, tAndB, tOrB, tConstB, tCmp, tCmpB, tCmp2B, cmpV, tBin, binV, tNot, tNeg, tIf, tAnd, tOr, tItem, tSlice, sliceV, boundV, Loc.setAll, Loc.set, Loc.empty, Loc.bare, bindV, String.reduceEq, reduceIte, List.length_cons, List.length_nil, tAttr, tMethI, tSetItem, tCmp2, tSetAttr, tDict0, tDict2, sIsNumber, tListRange, tNeDict0, tValues, tLenSet, tMulList, tSliceR, tNew]
    exact r2 _ _ _ (kret _ _ _ _ Sub.refl (h _))
theorem f_mixed (hK : (KK P).In g.b0) (N : NN g) : SndC g 2 (.ref 302) sMixed := by
  refine SndC.mono (sndC_def (r := 1) (ps := ["_law_cell", "_law_k"]) (hK 302 _ rfl) rfl (CodeRec.mk' (hK 301 _ rfl) rfl rfl) rfl (by intro vs h; obtain ⟨a0, a1, rfl⟩ := len2 h; rfl) rfl rfl rfl (by decide +kernel)
    (sndSs_cons (sndS_return (sndE_bin (sndE_bin (sndE_bin (sndE_bin (sndE_bin (sndE_name (.head _) rfl) sndE_int) (sndE_bin (sndE_bin sndE_int (sndE_name (at_ (i := 1) rfl) rfl)) (sndE_name (at_ (i := 1) rfl) rfl))) (sndE_bin sndE_int (sndE_name (at_ (i := 1) rfl) rfl))) sndE_int) sndE_int))
  sndSs_nil)) ?_
  rintro xs σ Q E ⟨c, k, rfl, h0, h1, h⟩
  refine tFun_k rfl fun K KE kret _ _ => ?_
  simp only [Loc.setAll]
  refine tSeq_k fun K1 k1 r1 _ _ => ?_
  simp only [tNop, tRet, tFlow, tDo, tIfS, tAssign, tAssignT, tAssignComp, tFor, tIter, walkV, tRange1, tEnum, tMethod, typeV, tAppend, tCount, tCall, tLen, lenV, tMax, tMin, tListOf, tIsI, isiV, tListComp, tComp, tList, tTuple, tNil, tCons, tConst, tName, tTruth, truthV, tNotB, tAndB, tOrB, tConstB, tCmp, tCmpB, tCmp2B, cmpV, tBin, binV, tNot, tNeg, tIf, tAnd, tOr, tItem, tSlice, sliceV, boundV, Loc.setAll, Loc.set, Loc.empty, Loc.bare, bindV, String.reduceEq, reduceIte, List.length_cons, List.length_nil, tAttr, tMethI, tSetItem, tCmp2, tSetAttr, tDict0, tDict2, sIsNumber, tListRange, tNeDict0, tValues, tLenSet, tMulList, tSliceR, tNew]
  have hb : Builtin.Int.intBits k ≤ 64 := intBits_le_64 (by omega) (by omega)
  refine ⟨.of_right (by decide), .of_right hb, .of_right hb, .of_right hb, by decide, by decide, r1 _ _ _ (kret _ _ _ _ Sub.refl (h _ ?_))⟩
  exact Int.fdiv_nonneg (Int.fmod_nonneg_of_pos _ (by decide)) (by decide)
theorem f_sizes_by (hK : (KK P).In g.b0) (N : NN g) : SndC g 2 (.ref 316) sSizesBy := by
  refine SndC.mono (sndC_def (r := 1) (ps := ["_law_cell"]) (hK 316 _ rfl) rfl (CodeRec.mk' (hK 315 _ rfl) rfl rfl) rfl (by intro vs h; obtain ⟨a0, rfl⟩ := len1 h; rfl) rfl rfl rfl (by decide +kernel)
    (sndSs_cons (sndS_assign (at_ (i := 1) rfl) rfl (sndE_list (sndL_cons (sndE_tuple (sndL_cons sndE_int (sndL_cons sndE_int (sndL_cons sndE_int sndL_nil)))) (sndL_cons (sndE_tuple (sndL_cons sndE_int (sndL_cons sndE_int (sndL_cons sndE_int sndL_nil)))) (sndL_cons (sndE_tuple (sndL_cons sndE_int (sndL_cons sndE_int (sndL_cons sndE_int sndL_nil)))) (sndL_cons (sndE_tuple (sndL_cons sndE_int (sndL_cons sndE_int (sndL_cons sndE_int sndL_nil)))) (sndL_cons (sndE_tuple (sndL_cons sndE_int (sndL_cons sndE_int (sndL_cons sndE_int sndL_nil)))) (sndL_cons (sndE_tuple (sndL_cons sndE_int (sndL_cons sndE_int (sndL_cons sndE_int sndL_nil)))) (sndL_cons (sndE_tuple (sndL_cons sndE_int (sndL_cons sndE_int (sndL_cons sndE_int sndL_nil)))) (sndL_cons (sndE_tuple (sndL_cons sndE_int (sndL_cons sndE_int (sndL_cons sndE_int sndL_nil)))) sndL_nil))))))))) (fun _ => rfl))
  (sndSs_cons (sndS_return (sndE_item (sndE_bin (sndE_name (at_ (i := 1) rfl) rfl) (sndE_list (sndL_cons (sndE_tuple (sndL_cons (sndE_bin sndE_int (sndE_bin (sndE_bin (sndE_name (.head _) rfl) sndE_int) sndE_int)) (sndL_cons (sndE_bin sndE_int (sndE_bin (sndE_bin (sndE_name (.head _) rfl) sndE_int) sndE_int)) (sndL_cons (sndE_bin sndE_int (sndE_bin (sndE_bin (sndE_name (.head _) rfl) sndE_int) sndE_int)) sndL_nil)))) (sndL_cons (sndE_tuple (sndL_cons sndE_int (sndL_cons sndE_int (sndL_cons sndE_int sndL_nil)))) sndL_nil)))) (sndE_bin (sndE_name (.head _) rfl) sndE_int) (fun _ _ => rfl)))
  sndSs_nil))) ?_
  rintro xs σ Q E ⟨c, rfl, h⟩
  refine tFun_k rfl fun K KE kret _ _ => ?_
  simp only [Loc.setAll]
  refine tSeq_k fun K1 k1 r1 _ _ => ?_
  simp only [tNop, tRet, tFlow, tDo, tIfS, tAssign, tAssignT, tAssignComp, tFor, tIter, walkV, tRange1, tEnum, tMethod, typeV, tAppend, tCount, tCall, tLen, lenV, tMax, tMin, tListOf, tIsI, isiV, tListComp, tComp, tList, tTuple, tNil, tCons, tConst, tName, tTruth, truthV, tNotB, tAndB, tOrB, tConstB, tCmp, tCmpB, tCmp2B, cmpV, tBin, binV, tNot, tNeg, tIf, tAnd, tOr, tItem, tSlice, sliceV, boundV, Loc.setAll, Loc.set, Loc.empty, Loc.bare, bindV, String.reduceEq, reduceIte, List.length_cons, List.length_nil, tAttr, tMethI, tSetItem, tCmp2, tSetAttr, tDict0, tDict2, sIsNumber, tListRange, tNeDict0, tValues, tLenSet, tMulList, tSliceR, tNew]
  have fits3 : Fits (0 + 1 + 1 + 1) := by simp [Fits]
  refine ⟨fits3, fits3, fits3, fits3, fits3, fits3, fits3, fits3, by simp [Fits], fun a ha => k1 _ _ ?_⟩
  refine tSeq_k fun K1 k1 r1 _ _ => ?_
  simp only [tNop, tRet, tFlow, tDo, tIfS, tAssign, tAssignT, tAssignComp, tFor, tIter, walkV, tRange1, tEnum, tMethod, typeV, tAppend, tCount, tCall, tLen, lenV, tMax, tMin, tListOf, tIsI, isiV, tListComp, tComp, tList, tTuple, tNil, tCons, tConst, tName, tTruth, truthV, tNotB, tAndB, tOrB, tConstB, tCmp, tCmpB, tCmp2B, cmpV, tBin, binV, tNot, tNeg, tIf, tAnd, tOr, tItem, tSlice, sliceV, boundV, Loc.setAll, Loc.set, Loc.empty, Loc.bare, bindV, String.reduceEq, reduceIte, List.length_cons, List.length_nil, tAttr, tMethI, tSetItem, tCmp2, tSetAttr, tDict0, tDict2, sIsNumber, tListRange, tNeDict0, tValues, tLenSet, tMulList, tSliceR, tNew]
  refine ⟨by decide, by decide, by decide, by decide, by decide, by decide, fits3, fits3, by simp [Fits], fun b hb => ⟨_, _, new_keeps AH.set_same hb, AH.set_same, by simp [Fits], fun d hd => ⟨by decide, ?_⟩⟩⟩
  have h10 := Int.fmod_nonneg_of_pos c (show (0 : Int) < 10 by decide)
  have h11 := Int.fmod_lt_of_pos c (show (0 : Int) < 10 by decide)
  have hq : ∀ z : Int, 1 ≤ 1 + z.fmod 8 ∧ 1 + z.fmod 8 ≤ 8 := fun z => by
    have a := Int.fmod_nonneg_of_pos z (show (0 : Int) < 8 by decide)
    have b := Int.fmod_lt_of_pos z (show (0 : Int) < 8 by decide)
    omega
  obtain ⟨v, hv, hm⟩ := atV_mem (xs := [V.tup [V.int 8, V.int 8, V.int 2], V.tup [V.int 7, V.int 8, V.int 2], V.tup [V.int 6, V.int 6, V.int 3], V.tup [V.int 8, V.int 8, V.int 3], V.tup [V.int 4, V.int 4, V.int 3], V.tup [V.int 3, V.int 3, V.int 40], V.tup [V.int 2, V.int 5, V.int 40], V.tup [V.int 5, V.int 5, V.int 2]] ++
    [V.tup [V.int (1 + (c.fdiv 10).fmod 8), V.int (1 + (c.fdiv 80).fmod 8), V.int (2 + (c.fdiv 640).fmod 7)], V.tup [V.int 8, V.int 8, V.int 40]]) h10 (by simpa using h11)
  refine itemL AH.set_same hv (r1 _ _ _ (kret _ _ _ _ (((Sub.refl.new ha).new hb).new hd) ?_))
  have q1 := hq (c.fdiv 10)
  have q2 := hq (c.fdiv 80)
  simp only [List.cons_append, List.nil_append, List.mem_cons, List.not_mem_nil, or_false] at hm
  rcases hm with rfl | rfl | rfl | rfl | rfl | rfl | rfl | rfl | rfl | rfl <;> exact h _ _ _ (by omega) (by omega) (by omega) (by omega)
end
section
open PySem PySem.W PyProof.Rows
variable {g : Gr} {P : Params}
theorem f_ends (hK : (KK P).In g.b0) (N : NN g) : SndC g 3 (.ref 321) sEnds := by
  refine SndC.mono (sndC_def (r := 2) (ps := ["_law_cell", "_law_sizes", "_law_rows"]) (hK 321 _ rfl) rfl (CodeRec.mk' (hK 320 _ rfl) rfl rfl) rfl (by intro vs h; obtain ⟨a0, a1, a2, rfl⟩ := len3 h; rfl) rfl rfl rfl (by decide +kernel)
    (sndSs_cons (sndS_assign (at_ (i := 3) rfl) rfl (sndE_list sndL_nil) (fun _ => rfl))
  (sndSs_cons (sndS_for (sndI_range1 (at_ (i := 8) rfl) (N.n_range) sndE_int rfl) (.name (at_ (i := 4) rfl) rfl) (sndSs_cons (sndS_assignComp (at_ (i := 5) rfl) rfl (by decide +kernel) (sndI_values (sndE_name (at_ (i := 2) rfl) rfl) rfl rfl) (.name (at_ (i := 1) rfl) rfl) (by decide +kernel) sndT_nil (sndE_item (sndE_name (at_ (i := 1) rfl) rfl) (sndE_name (at_ (i := 2) rfl) rfl) (fun _ _ => rfl)) (fun _ _ => rfl))
  (sndSs_cons (sndS_assign (at_ (i := 6) rfl) rfl (sndE_listRange (at_ (i := 9) rfl) (N.n_list) (at_ (i := 8) rfl) (N.n_range) (sndE_item (sndE_name (at_ (i := 1) rfl) rfl) (sndE_name (at_ (i := 4) rfl) rfl) (fun _ _ => rfl)) rfl) (fun _ => rfl))
  (sndSs_cons (sndS_assign (at_ (i := 7) rfl) rfl (sndE_boolop (sndV_or (sndE_comp (by decide +kernel) (sndI_value (sndE_name (at_ (i := 6) rfl) rfl)) (.name (at_ (i := 1) rfl) rfl) (by decide +kernel) (sndT_one (sndB_cmp (mCount (sndE_name (at_ (i := 3) rfl) rfl) (sndL_cons (sndE_name (at_ (i := 1) rfl) rfl) sndL_nil) rfl rfl rfl rfl) (sndE_item (sndE_name (at_ (i := 2) rfl) rfl) sndE_int (fun _ _ => rfl)) rfl)) (sndE_name (at_ (i := 1) rfl) rfl) (fun _ _ => rfl)) (sndV_one (sndE_name (at_ (i := 6) rfl) rfl)))) (fun _ => rfl))
  (sndSs_cons (sndS_expr (mAppend (sndE_name (at_ (i := 3) rfl) rfl) (sndL_cons (sndE_item (sndE_name (at_ (i := 7) rfl) rfl) (sndE_bin (sndE_bin (sndE_name (.head _) rfl) (sndE_item (sndE_list (sndL_cons sndE_int (sndL_cons sndE_int sndL_nil))) (sndE_name (at_ (i := 4) rfl) rfl) (fun _ _ => rfl))) (sndE_call (at_ (i := 10) rfl) (fn_builtin N.n_len sndF_len) (sndL_cons (sndE_name (at_ (i := 7) rfl) rfl) sndL_nil) rfl)) (fun _ _ => rfl)) sndL_nil) rfl rfl rfl rfl) (fun _ => rfl))
  sndSs_nil)))) (fun _ _ => rfl))
  (sndSs_cons (sndS_return (sndE_tuple (sndL_cons (sndE_item (sndE_name (at_ (i := 3) rfl) rfl) sndE_int (fun _ _ => rfl)) (sndL_cons (sndE_item (sndE_name (at_ (i := 3) rfl) rfl) sndE_int (fun _ _ => rfl)) sndL_nil))))
  sndSs_nil)))) ?_
  rintro xs σ Q E ⟨c, a, b, k, ed, kvs, ep, rfl, hed, ha1, ha2, hb1, hb2, h⟩
  refine tFun_k rfl fun K KE kret _ _ => ?_
  simp only [Loc.setAll]
  refine tSeq_k fun K1 k1 r1 _ _ => ?_
  simp only [tNop, tRet, tFlow, tDo, tIfS, tAssign, tAssignT, tAssignComp, tFor, tIter, walkV, tRange1, tEnum, tMethod, typeV, tAppend, tCount, tCall, tLen, lenV, tMax, tMin, tListOf, tIsI, isiV, tListComp, tComp, tList, tTuple, tNil, tCons, tConst, tName, tTruth, truthV, tNotB, tAndB, tOrB, tConstB, tCmp, tCmpB, tCmp2B, cmpV, tBin, binV, tNot, tNeg, tIf, tAnd, tOr, tItem, tSlice, sliceV, boundV, Loc.setAll, Loc.set, Loc.empty, Loc.bare, bindV, String.reduceEq, reduceIte, List.length_cons, List.length_nil, tAttr, tMethI, tSetItem, tCmp2, tSetAttr, tDict0, tDict2, sIsNumber, tListRange, tNeDict0, tValues, tLenSet, tMulList, tSliceR, tNew]
  refine ⟨by simp [Fits], fun f hf => k1 _ _ ?_⟩
  refine tSeq_k fun K1 k1 r1 _ _ => ?_
  simp only [tNop, tRet, tFlow, tDo, tIfS, tAssign, tAssignT, tAssignComp, tFor, tIter, walkV, tRange1, tEnum, tMethod, typeV, tAppend, tCount, tCall, tLen, lenV, tMax, tMin, tListOf, tIsI, isiV, tListComp, tComp, tList, tTuple, tNil, tCons, tConst, tName, tTruth, truthV, tNotB, tAndB, tOrB, tConstB, tCmp, tCmpB, tCmp2B, cmpV, tBin, binV, tNot, tNeg, tIf, tAnd, tOr, tItem, tSlice, sliceV, boundV, Loc.setAll, Loc.set, Loc.empty, Loc.bare, bindV, String.reduceEq, reduceIte, List.length_cons, List.length_nil, tAttr, tMethI, tSetItem, tCmp2, tSetAttr, tDict0, tDict2, sIsNumber, tListRange, tNeDict0, tValues, tLenSet, tMulList, tSliceR, tNew]
  refine ⟨by decide, by simp [Fits], nofun, ?_⟩
  have hsz : ∀ i : Nat, i < 2 → ∃ n : Int, atV [V.int a, V.int b, V.int k] (i : Int) = some (.int n) ∧ n = (if i = 0 then a else b) ∧ 1 ≤ n ∧ n ≤ 8 := fun i hi => by
    rcases (show i = 0 ∨ i = 1 by omega) with rfl | rfl
    · exact ⟨a, atV_nat rfl, rfl, ha1, ha2⟩
    · exact ⟨b, atV_nat rfl, rfl, hb1, hb2⟩
  refine loopT_rangeK (fun i ℓ σ' => ∃ fs : List Int, fs.length = i ∧ (∀ (j : Nat) v, fs[j]? = some v → 0 ≤ v ∧ v < if j = 0 then a else b) ∧ Sub σ σ' ∧ σ' f = some (.list (fs.map V.int)) ∧ ℓ "_law_found" = some (.ref f) ∧ ℓ "_law_cell" = some (.int c) ∧ ℓ "_law_sizes" = some (.tup [.int a, .int b, .int k]) ∧ ℓ "_law_rows" = some (.ref ed)) ?_ ?_
    ⟨[], rfl, fun j v e => absurd e (by simp), Sub.refl.new hf, AH.set_same, rfl, rfl, rfl, rfl⟩
  · rintro ℓ σ' ⟨fs, h1, h2, h3, h4, e1, e2, e3, e4⟩
    refine ⟨trivial, k1 _ _ ?_⟩
    obtain ⟨l, r, rfl⟩ : ∃ l r, fs = [l, r] := by
      match fs, h1 with
      | [l, r], _ => exact ⟨l, r, rfl⟩
    have hl := h2 0 l rfl
    have hr := h2 1 r rfl
    refine tSeq_k fun K2 k2 r2 _ _ => ?_
    simp only [tNop, tRet, tFlow, tDo, tIfS, tAssign, tAssignT, tAssignComp, tFor, tIter, walkV, tRange1, tEnum, tMethod, typeV, tAppend, tCount, tCall, tLen, lenV, tMax, tMin, tListOf, tIsI, isiV, tListComp, tComp, tList, tTuple, tNil, tCons, tConst, tName, tTruth, truthV, tNotB, tAndB, tOrB, tConstB, tCmp, tCmpB, tCmp2B, cmpV, tBin, binV, tNot, tNeg, tIf, tAnd, tOr, tItem, tSlice, sliceV, boundV, Loc.setAll, Loc.set, Loc.empty, Loc.bare, bindV, String.reduceEq, reduceIte, List.length_cons, List.length_nil, tAttr, tMethI, tSetItem, tCmp2, tSetAttr, tDict0, tDict2, sIsNumber, tListRange, tNeDict0, tValues, tLenSet, tMulList, tSliceR, tNew]
    simp only [e1]
    exact itemL h4 (atV_int (by decide) rfl) (itemL h4 (atV_int (by decide) rfl) ⟨by simp [Fits], r2 _ _ _ (kret _ _ _ _ h3 (h l r hl.1 (by simpa using hl.2) hr.1 (by simpa using hr.2)))⟩)
  · rintro i ℓ σ' K2 hi k2 r2 _ _ ⟨fs, h1, h2, h3, h4, e1, e2, e3, e4⟩
    have hi2 : i < 2 := hi
    refine ⟨trivial, ?_⟩
    simp only [bindV]
    obtain ⟨n, hn1, hn2, hn3, hn4⟩ := hsz i hi2
    -- the ends that are taken
    refine tSeq_k fun K3 k3 r3 _ _ => ?_
    simp only [tNop, tRet, tFlow, tDo, tIfS, tAssign, tAssignT, tAssignComp, tFor, tIter, walkV, tRange1, tEnum, tMethod, typeV, tAppend, tCount, tCall, tLen, lenV, tMax, tMin, tListOf, tIsI, isiV, tListComp, tComp, tList, tTuple, tNil, tCons, tConst, tName, tTruth, truthV, tNotB, tAndB, tOrB, tConstB, tCmp, tCmpB, tCmp2B, cmpV, tBin, binV, tNot, tNeg, tIf, tAnd, tOr, tItem, tSlice, sliceV, boundV, Loc.setAll, Loc.set, Loc.empty, Loc.bare, bindV, String.reduceEq, reduceIte, List.length_cons, List.length_nil, tAttr, tMethI, tSetItem, tCmp2, tSetAttr, tDict0, tDict2, sIsNumber, tListRange, tNeDict0, tValues, tLenSet, tMulList, tSliceR, tNew]
    simp only [e4, h3 _ _ hed]
    refine ⟨nofun, ?_⟩
    rw [endKV_vals]
    refine compT_growE (fun p : Int × Int × Int => V.tup [.int p.2.1, .int p.2.2]) (fun p => V.int (if i = 0 then p.2.1 else p.2.2)) kvs (fun σ2 s2 => s2 _ _ (h3 _ _ hed)) (fun p _ => ⟨_, fun _ _ P h => h, fun σ2 s2 Qv hQ => ?_⟩) fun σ2 s2 tk htk => ?_
    · simp only [tNop, tRet, tFlow, tDo, tIfS, tAssign, tAssignT, tAssignComp, tFor, tIter, walkV, tRange1, tEnum, tMethod, typeV, tAppend, tCount, tCall, tLen, lenV, tMax, tMin, tListOf, tIsI, isiV, tListComp, tComp, tList, tTuple, tNil, tCons, tConst, tName, tTruth, truthV, tNotB, tAndB, tOrB, tConstB, tCmp, tCmpB, tCmp2B, cmpV, tBin, binV, tNot, tNeg, tIf, tAnd, tOr, tItem, tSlice, sliceV, boundV, Loc.setAll, Loc.set, Loc.empty, Loc.bare, bindV, String.reduceEq, reduceIte, List.length_cons, List.length_nil, tAttr, tMethI, tSetItem, tCmp2, tSetAttr, tDict0, tDict2, sIsNumber, tListRange, tNeDict0, tValues, tLenSet, tMulList, tSliceR, tNew]
      refine itemT (x := V.int (if i = 0 then p.2.1 else p.2.2)) ?_ (hQ _ Sub.refl)
      rcases (show i = 0 ∨ i = 1 by omega) with rfl | rfl
      · exact atV_nat rfl
      · exact atV_nat rfl
    have hmap : (kvs.map fun p => V.int (if i = 0 then p.2.1 else p.2.2)) = (kvs.map fun p => if i = 0 then p.2.1 else p.2.2).map V.int := by rw [List.map_map]; rfl
    rw [hmap]
    generalize htn : (kvs.map fun p => if i = 0 then p.2.1 else p.2.2) = tn
    refine k3 _ _ ?_
    have s3 : Sub σ' (σ2.set tk (.list (tn.map V.int))) := s2.new htk
    have ht3 : (σ2.set tk (.list (tn.map V.int))) tk = some (.list (tn.map V.int)) := AH.set_same
    generalize σ2.set tk (.list (tn.map V.int)) = σ3 at s3 ht3
    refine tSeq_k fun K3 k3 r3 _ _ => ?_
    simp only [tNop, tRet, tFlow, tDo, tIfS, tAssign, tAssignT, tAssignComp, tFor, tIter, walkV, tRange1, tEnum, tMethod, typeV, tAppend, tCount, tCall, tLen, lenV, tMax, tMin, tListOf, tIsI, isiV, tListComp, tComp, tList, tTuple, tNil, tCons, tConst, tName, tTruth, truthV, tNotB, tAndB, tOrB, tConstB, tCmp, tCmpB, tCmp2B, cmpV, tBin, binV, tNot, tNeg, tIf, tAnd, tOr, tItem, tSlice, sliceV, boundV, Loc.setAll, Loc.set, Loc.empty, Loc.bare, bindV, String.reduceEq, reduceIte, List.length_cons, List.length_nil, tAttr, tMethI, tSetItem, tCmp2, tSetAttr, tDict0, tDict2, sIsNumber, tListRange, tNeDict0, tValues, tLenSet, tMulList, tSliceR, tNew]
    simp only [e3]
    refine itemT hn1 ⟨by omega, by unfold Fits; omega, fun ev hev => k3 _ _ ?_⟩
    rw [rangeV_rng]
    have s4 : Sub σ' (σ3.set ev (.list ((rngI n.toNat).map V.int))) := s3.new hev
    have ht4 : (σ3.set ev (.list ((rngI n.toNat).map V.int))) tk = some (.list (tn.map V.int)) := new_keeps ht3 hev
    have hev4 : (σ3.set ev (.list ((rngI n.toNat).map V.int))) ev = some (.list ((rngI n.toNat).map V.int)) := AH.set_same
    generalize σ3.set ev (.list ((rngI n.toNat).map V.int)) = σ4 at s4 ht4 hev4
    refine tSeq_k fun K3 k3 r3 _ _ => ?_
    simp only [tNop, tRet, tFlow, tDo, tIfS, tAssign, tAssignT, tAssignComp, tFor, tIter, walkV, tRange1, tEnum, tMethod, typeV, tAppend, tCount, tCall, tLen, lenV, tMax, tMin, tListOf, tIsI, isiV, tListComp, tComp, tList, tTuple, tNil, tCons, tConst, tName, tTruth, truthV, tNotB, tAndB, tOrB, tConstB, tCmp, tCmpB, tCmp2B, cmpV, tBin, binV, tNot, tNeg, tIf, tAnd, tOr, tItem, tSlice, sliceV, boundV, Loc.setAll, Loc.set, Loc.empty, Loc.bare, bindV, String.reduceEq, reduceIte, List.length_cons, List.length_nil, tAttr, tMethI, tSetItem, tCmp2, tSetAttr, tDict0, tDict2, sIsNumber, tListRange, tNeDict0, tValues, tLenSet, tMulList, tSliceR, tNew]
    simp only [hev4]
    refine ⟨nofun, compT_growS V.int (fun e => decide (((tn.count e : Nat) : Int) < k)) V.int (rngI n.toNat) (fun σ5 s5 => s5 _ _ hev4) (fun e _ σ5 s5 => ⟨_, fun P h => h, fun Qb hQ => ?_, fun _ σ6 s6 Qv hQ => ?_⟩) fun σ5 s5 so hso => ?_⟩
    · simp only [tNop, tRet, tFlow, tDo, tIfS, tAssign, tAssignT, tAssignComp, tFor, tIter, walkV, tRange1, tEnum, tMethod, typeV, tAppend, tCount, tCall, tLen, lenV, tMax, tMin, tListOf, tIsI, isiV, tListComp, tComp, tList, tTuple, tNil, tCons, tConst, tName, tTruth, truthV, tNotB, tAndB, tOrB, tConstB, tCmp, tCmpB, tCmp2B, cmpV, tBin, binV, tNot, tNeg, tIf, tAnd, tOr, tItem, tSlice, sliceV, boundV, Loc.setAll, Loc.set, Loc.empty, Loc.bare, bindV, String.reduceEq, reduceIte, List.length_cons, List.length_nil, tAttr, tMethI, tSetItem, tCmp2, tSetAttr, tDict0, tDict2, sIsNumber, tListRange, tNeDict0, tValues, tLenSet, tMulList, tSliceR, tNew]
      simp only [s5 _ _ ht4, listInts, intsV_map, e3]
      exact ⟨trivial, itemT (atV_int (by decide) rfl) (hQ _ Sub.refl)⟩
    · simp only [tNop, tRet, tFlow, tDo, tIfS, tAssign, tAssignT, tAssignComp, tFor, tIter, walkV, tRange1, tEnum, tMethod, typeV, tAppend, tCount, tCall, tLen, lenV, tMax, tMin, tListOf, tIsI, isiV, tListComp, tComp, tList, tTuple, tNil, tCons, tConst, tName, tTruth, truthV, tNotB, tAndB, tOrB, tConstB, tCmp, tCmpB, tCmp2B, cmpV, tBin, binV, tNot, tNeg, tIf, tAnd, tOr, tItem, tSlice, sliceV, boundV, Loc.setAll, Loc.set, Loc.empty, Loc.bare, bindV, String.reduceEq, reduceIte, List.length_cons, List.length_nil, tAttr, tMethI, tSetItem, tCmp2, tSetAttr, tDict0, tDict2, sIsNumber, tListRange, tNeDict0, tValues, tLenSet, tMulList, tSliceR, tNew]
      exact hQ _ Sub.refl
    -- behind the choice
    have fin : ∀ (so : Addr) (L : List Int) (σ6 : AH) (ℓ6 : Loc), Sub σ4 σ6 → σ6 so = some (.list (L.map V.int)) → L ≠ [] → (∀ e ∈ L, 0 ≤ e ∧ e < n) → ℓ6 "_law_some" = some (.ref so) → (∀ z, z ≠ "_law_some" → ℓ6 z = (((ℓ.set "_law_side" (V.int (i : Int))).set "_law_taken" (V.ref tk)).set "_law_every" (V.ref ev)) z) → K3 .next ℓ6 σ6 := by
      intro so L σ6 ℓ6 s6 hso6 hL hLn l1 l2
      refine k3 _ _ ?_
      have g1 : ℓ6 "_law_found" = some (.ref f) := by rw [l2 _ (by decide)]; simp [Loc.set, e1]
      have g2 : ℓ6 "_law_cell" = some (.int c) := by rw [l2 _ (by decide)]; simp [Loc.set, e2]
      have g3 : ℓ6 "_law_sizes" = some (.tup [.int a, .int b, .int k]) := by rw [l2 _ (by decide)]; simp [Loc.set, e3]
      have g4 : ℓ6 "_law_rows" = some (.ref ed) := by rw [l2 _ (by decide)]; simp [Loc.set, e4]
      have g5 : ℓ6 "_law_side" = some (.int (i : Int)) := by rw [l2 _ (by decide)]; simp [Loc.set]
      have f6 : σ6 f = some (.list (fs.map V.int)) := s6 _ _ (s4 _ _ h4)
      have hpos : (0 : Int) < (L.length : Int) := by have := List.length_pos_iff.mpr hL; omega
      refine tSeq_k fun K4 k4 r4 _ _ => ?_
      simp only [tNop, tRet, tFlow, tDo, tIfS, tAssign, tAssignT, tAssignComp, tFor, tIter, walkV, tRange1, tEnum, tMethod, typeV, tAppend, tCount, tCall, tLen, lenV, tMax, tMin, tListOf, tIsI, isiV, tListComp, tComp, tList, tTuple, tNil, tCons, tConst, tName, tTruth, truthV, tNotB, tAndB, tOrB, tConstB, tCmp, tCmpB, tCmp2B, cmpV, tBin, binV, tNot, tNeg, tIf, tAnd, tOr, tItem, tSlice, sliceV, boundV, Loc.setAll, Loc.set, Loc.empty, Loc.bare, bindV, String.reduceEq, reduceIte, List.length_cons, List.length_nil, tAttr, tMethI, tSetItem, tCmp2, tSetAttr, tDict0, tDict2, sIsNumber, tListRange, tNeDict0, tValues, tLenSet, tMulList, tSliceR, tNew]
      simp only [g1, g2, g5, l1, f6]
      refine ⟨trivial, by simp [Fits], fun d hd => ?_⟩
      obtain ⟨q, hq1, hq2⟩ : ∃ q : Int, atV [V.int 1, V.int 40] (i : Int) = some (.int q) ∧ q ≠ 0 := by
        rcases (show i = 0 ∨ i = 1 by omega) with rfl | rfl
        · exact ⟨1, atV_nat rfl, by decide⟩
        · exact ⟨40, atV_nat rfl, by decide⟩
      refine itemL AH.set_same hq1 ⟨hq2, ?_⟩
      simp only [new_keeps hso6 hd, List.length_map]
      refine ⟨by omega, ?_⟩
      obtain ⟨v, hv, hm⟩ := atV_mem (xs := L.map V.int) (Int.fmod_nonneg_of_pos (c.fdiv q) hpos) (by rw [List.length_map]; exact Int.fmod_lt_of_pos (c.fdiv q) hpos)
      obtain ⟨e, he, rfl⟩ := List.mem_map.1 hm
      refine itemL (new_keeps hso6 hd) hv ?_
      simp only [new_keeps f6 hd]
      refine ⟨by simp [Fits]; omega, k4 _ _ (k2 _ _ ⟨fs ++ [e], by simp [h1], fun j v hj => ?_, ((h3.trans (s4.trans s6)).new hd).upd (by exact hf), by rw [AH.set_same]; simp, g1, g2, g3, g4⟩)⟩
      rcases Nat.lt_trichotomy j fs.length with w | w | w
      · rw [List.getElem?_append_left w] at hj; exact h2 j v hj
      · subst w
        simp at hj; subst hj
        rw [h1, ← hn2]; exact hLn e he
      · rw [List.getElem?_append_right (by omega), List.getElem?_eq_none (by simp; omega)] at hj; cases hj
    simp only [AH.set_same, List.isEmpty_map]
    generalize hL : (rngI n.toNat).filter (fun e => decide (((tn.count e : Nat) : Int) < k)) = L at hso ⊢
    have hLn : ∀ e ∈ L, 0 ≤ e ∧ e < n := fun e he => by
      rw [← hL] at he
      have := rngI_mem.1 (List.mem_filter.1 he).1
      omega
    cases L with
    | nil =>
      simp only [List.isEmpty_nil, Bool.not_true]
      refine fin ev (rngI n.toNat) _ _ (s5.new hso) (new_keeps (s5 _ _ hev4) hso) (fun z => ?_) (fun e he => by have := rngI_mem.1 he; omega) rfl (fun z hz => by simp [Loc.set, hz])
      have := congrArg List.length z
      rw [rngI_length] at this; simp at this; omega
    | cons e L =>
      simp only [List.isEmpty_cons, Bool.not_false]
      exact fin so (e :: L) _ _ (s5.new hso) AH.set_same (by simp) hLn rfl (fun z hz => by simp [Loc.set, hz])
theorem f_deed (hK : (KK P).In g.b0) (N : NN g) (F_law_ends : FnG g "_law_ends" 3 sEnds) : SndC g 4 (.ref 328) sDeed := by
  refine SndC.mono (sndC_def (r := 3) (ps := ["_law_cell", "_law_sizes", "_law_rows", "_law_most"]) (hK 328 _ rfl) rfl (CodeRec.mk' (hK 327 _ rfl) rfl rfl) rfl (by intro vs h; obtain ⟨a0, a1, a2, a3, rfl⟩ := len4 h; rfl) rfl rfl rfl (by decide +kernel)
    (sndSs_cons (sndS_if (sndB_boolop (sndBs_or (sndB_boolop (sndBs_and (sndB_cmp (sndE_bin (sndE_name (.head _) rfl) sndE_int) sndE_int rfl) (sndBs_and (sndB_neDict0 (sndE_name (at_ (i := 2) rfl) rfl)) sndBs_and_nil))) (sndBs_or (sndB_cmp (sndE_call (at_ (i := 4) rfl) (fn_builtin N.n_len sndF_len) (sndL_cons (sndE_name (at_ (i := 2) rfl) rfl) sndL_nil) rfl) (sndE_name (at_ (i := 3) rfl) rfl) rfl) sndBs_or_nil))) (sndSs_cons (sndS_return (sndE_tuple (sndL_cons (sndE_str (fitsS (by decide))) (sndL_cons (sndE_item (sndE_call (at_ (i := 5) rfl) (fn_builtin N.n_sorted sndF_sorted) (sndL_cons (sndE_name (at_ (i := 2) rfl) rfl) sndL_nil) rfl) (sndE_bin (sndE_bin (sndE_name (.head _) rfl) sndE_int) (sndE_call (at_ (i := 4) rfl) (fn_builtin N.n_len sndF_len) (sndL_cons (sndE_name (at_ (i := 2) rfl) rfl) sndL_nil) rfl)) (fun _ _ => rfl)) sndL_nil))))
  sndSs_nil) sndSs_nil)
  (sndSs_cons (sndS_return (sndE_bin (sndE_tuple (sndL_cons (sndE_str (fitsS (by decide))) sndL_nil)) (sndE_call (at_ (i := 6) rfl) F_law_ends (sndL_cons (sndE_bin (sndE_name (.head _) rfl) sndE_int) (sndL_cons (sndE_name (at_ (i := 1) rfl) rfl) (sndL_cons (sndE_name (at_ (i := 2) rfl) rfl) sndL_nil))) rfl)))
  sndSs_nil))) ?_
  rintro xs σ Q E ⟨c, a, b, k, ed, kvs, ep, rfl, hed, ha1, ha2, hb1, hb2, hlen, hinc, hgo, hcome⟩
  refine tFun_k rfl fun K KE kret _ _ => ?_
  simp only [Loc.setAll]
  refine tSeq_k fun K1 k1 r1 _ _ => ?_
  refine tIfS_k fun KB kt kf => ?_
  have yes : ∀ σ', Sub σ σ' → kvs ≠ [] → KB true σ' := by
    intro σ' s' hne
    refine kt _ ?_
    refine tSeq_k fun K2 k2 r2 _ _ => ?_
    simp only [tNop, tRet, tFlow, tDo, tIfS, tAssign, tAssignT, tAssignComp, tFor, tIter, walkV, tRange1, tEnum, tMethod, typeV, tAppend, tCount, tCall, tLen, lenV, tMax, tMin, tListOf, tIsI, isiV, tListComp, tComp, tList, tTuple, tNil, tCons, tConst, tName, tTruth, truthV, tNotB, tAndB, tOrB, tConstB, tCmp, tCmpB, tCmp2B, cmpV, tBin, binV, tNot, tNeg, tIf, tAnd, tOr, tItem, tSlice, sliceV, boundV, Loc.setAll, Loc.set, Loc.empty, Loc.bare, bindV, String.reduceEq, reduceIte, List.length_cons, List.length_nil, tAttr, tMethI, tSetItem, tCmp2, tSetAttr, tDict0, tDict2, sIsNumber, tListRange, tNeDict0, tValues, tLenSet, tMulList, tSliceR, tNew]
    refine tSorted_dict (s' _ _ hed) (by rw [List.map_map]; exact hinc) (by simp; omega) fun d hd => ?_
    have hpos : (0 : Int) < (kvs.length : Int) := by have := List.length_pos_iff.mpr hne; omega
    refine ⟨by decide, ?_⟩
    simp only [new_keeps (s' _ _ hed) hd, List.length_map]
    refine ⟨by omega, ?_⟩
    obtain ⟨v, hv, hm⟩ := atV_mem (xs := ((kvs.map endKV).map (·.1)).map V.int) (Int.fmod_nonneg_of_pos (c.fdiv 16) hpos) (by simpa using Int.fmod_lt_of_pos (c.fdiv 16) hpos)
    obtain ⟨n, hn, rfl⟩ := List.mem_map.1 hm
    refine itemL AH.set_same hv ⟨by simp [Fits], r2 _ _ _ (r1 _ _ _ (kret _ _ _ _ (s'.new hd) (hgo n (by rw [List.map_map] at hn; exact hn))))⟩
  have no : ∀ σ', Sub σ σ' → kvs.length < 40 → KB false σ' := by
    intro σ' s' hlt
    refine kf _ ?_
    simp only [tNop, tRet, tFlow, tDo, tIfS, tAssign, tAssignT, tAssignComp, tFor, tIter, walkV, tRange1, tEnum, tMethod, typeV, tAppend, tCount, tCall, tLen, lenV, tMax, tMin, tListOf, tIsI, isiV, tListComp, tComp, tList, tTuple, tNil, tCons, tConst, tName, tTruth, truthV, tNotB, tAndB, tOrB, tConstB, tCmp, tCmpB, tCmp2B, cmpV, tBin, binV, tNot, tNeg, tIf, tAnd, tOr, tItem, tSlice, sliceV, boundV, Loc.setAll, Loc.set, Loc.empty, Loc.bare, bindV, String.reduceEq, reduceIte, List.length_cons, List.length_nil, tAttr, tMethI, tSetItem, tCmp2, tSetAttr, tDict0, tDict2, sIsNumber, tListRange, tNeDict0, tValues, tLenSet, tMulList, tSliceR, tNew]
    refine k1 _ _ ?_
    refine tSeq_k fun K2 k2 r2 _ _ => ?_
    simp only [tNop, tRet, tFlow, tDo, tIfS, tAssign, tAssignT, tAssignComp, tFor, tIter, walkV, tRange1, tEnum, tMethod, typeV, tAppend, tCount, tCall, tLen, lenV, tMax, tMin, tListOf, tIsI, isiV, tListComp, tComp, tList, tTuple, tNil, tCons, tConst, tName, tTruth, truthV, tNotB, tAndB, tOrB, tConstB, tCmp, tCmpB, tCmp2B, cmpV, tBin, binV, tNot, tNeg, tIf, tAnd, tOr, tItem, tSlice, sliceV, boundV, Loc.setAll, Loc.set, Loc.empty, Loc.bare, bindV, String.reduceEq, reduceIte, List.length_cons, List.length_nil, tAttr, tMethI, tSetItem, tCmp2, tSetAttr, tDict0, tDict2, sIsNumber, tListRange, tNeDict0, tValues, tLenSet, tMulList, tSliceR, tNew]
    refine ⟨by simp [Fits], by decide, _, a, b, k, ed, kvs, ep, rfl, s' _ _ hed, ha1, ha2, hb1, hb2, fun l r hl1 hl2 hr1 hr2 => ⟨by simp [Fits], r2 _ _ _ (kret _ _ _ _ s' (hcome hlt l r hl1 hl2 hr1 hr2))⟩⟩
  have last : ∀ σ', Sub σ σ' → KB (decide (kvs.length = 40)) σ' := by
    intro σ' s'
    by_cases hz : kvs.length = 40
    · rw [decide_eq_true hz]; exact yes σ' s' (fun z => by rw [z] at hz; simp at hz)
    · rw [decide_eq_false hz]; exact no σ' s' (by omega)
  have last' : ∀ σ', Sub σ σ' → (match ((kvs.length : Int) == 40) with | true => KB true σ' | false => KB false σ') := by
    intro σ' s'
    have := last σ' s'
    have e : ((kvs.length : Int) == 40) = decide (kvs.length = 40) := by rw [Bool.eq_iff_iff]; simp; omega
    rw [e]
    generalize decide (kvs.length = 40) = z at this
    cases z <;> exact this
  simp only [tNop, tRet, tFlow, tDo, tIfS, tAssign, tAssignT, tAssignComp, tFor, tIter, walkV, tRange1, tEnum, tMethod, typeV, tAppend, tCount, tCall, tLen, lenV, tMax, tMin, tListOf, tIsI, isiV, tListComp, tComp, tList, tTuple, tNil, tCons, tConst, tName, tTruth, truthV, tNotB, tAndB, tOrB, tConstB, tCmp, tCmpB, tCmp2B, cmpV, tBin, binV, tNot, tNeg, tIf, tAnd, tOr, tItem, tSlice, sliceV, boundV, Loc.setAll, Loc.set, Loc.empty, Loc.bare, bindV, String.reduceEq, reduceIte, List.length_cons, List.length_nil, tAttr, tMethI, tSetItem, tCmp2, tSetAttr, tDict0, tDict2, sIsNumber, tListRange, tNeDict0, tValues, tLenSet, tMulList, tSliceR, tNew]
  refine ⟨by decide, ?_⟩
  cases decide (Int.fmod c 16 < 5) with
  | false =>
    simp only [hed, List.length_map, eqD]
    exact last' σ Sub.refl
  | true =>
    simp only
    refine ⟨ed, _, ep, rfl, hed, fun d ep' hd => ?_⟩
    cases hk : kvs with
    | nil =>
      subst hk
      simp only [List.map_nil, List.isEmpty_nil, Bool.not_true]
      have s1 : Sub σ (σ.set d (.dictI [] ep')) := Sub.refl.new hd
      simp only [s1 _ _ hed, List.length_map, eqD]
      exact last' _ s1
    | cons p kvs' =>
      simp only [List.map_cons, List.isEmpty_cons, Bool.not_false]
      exact yes _ (Sub.refl.new hd) (by rw [hk]; simp)
end
section
open PySem PySem.W PyProof.Rows
variable {g : Gr} {P : Params}
theorem f_meets (hK : (KK P).In g.b0) (N : NN g) (M_pairs : FnM g (KK P) CC "pairs" 6 (sPairs CC)) (M_fullest : FnM g (KK P) CC "fullest" 6 (sFullest CC)) : SndC g 7 (.ref 333) (sMeets CC) := by
  refine SndC.mono (sndC_def (r := 6) (ps := ["_law_hall", "_law_numbers"]) (hK 333 _ rfl) rfl (CodeRec.mk' (hK 332 _ rfl) rfl rfl) rfl (by intro vs h; obtain ⟨a0, a1, rfl⟩ := len2 h; rfl) rfl rfl rfl (by decide +kernel)
    (sndSs_cons (sndS_assign (at_ (i := 2) rfl) rfl (sndE_call (at_ (i := 6) rfl) (fn_type N.n_dict sndF_dictP) (sndL_cons (sndE_comp (by decide +kernel) (sndI_value (sndE_methI hK hC M_pairs (sndE_name (.head _) rfl) sndL_nil rfl rfl rfl rfl)) (.name (at_ (i := 1) rfl) rfl) (by decide +kernel) sndT_nil (sndE_tuple (sndL_cons (sndE_item (sndE_name (at_ (i := 1) rfl) rfl) sndE_int (fun _ _ => rfl)) (sndL_cons (sndE_slice (sndE_name (at_ (i := 1) rfl) rfl) (sndO_some sndE_int) (sndO_some sndE_int)) sndL_nil))) (fun _ _ => rfl)) sndL_nil) rfl) (fun _ => rfl))
  (sndSs_cons (sndS_assign (at_ (i := 3) rfl) rfl (sndE_methI hK hC M_fullest (sndE_name (.head _) rfl) sndL_nil rfl rfl rfl rfl) (fun _ => rfl))
  (sndSs_cons (sndS_for (sndI_range1 (at_ (i := 7) rfl) (N.n_range) sndE_int rfl) (.name (at_ (i := 4) rfl) rfl) (sndSs_cons (sndS_assignComp (at_ (i := 5) rfl) rfl (by decide +kernel) (sndI_value (sndE_name (at_ (i := 1) rfl) rfl)) (.name (at_ (i := 1) rfl) rfl) (by decide +kernel) sndT_nil (sndE_item (sndE_item (sndE_name (at_ (i := 2) rfl) rfl) (sndE_name (at_ (i := 1) rfl) rfl) (fun _ _ => rfl)) (sndE_name (at_ (i := 3) rfl) rfl) (fun _ _ => rfl)) (fun _ _ => rfl))
  (sndSs_cons (sndS_if (sndB_boolop (sndBs_or (sndB_cmp (sndE_lenSet (at_ (i := 8) rfl) (N.n_len) (at_ (i := 9) rfl) (N.n_set) (sndE_name (at_ (i := 5) rfl) rfl) rfl) (sndE_call (at_ (i := 8) rfl) (fn_builtin N.n_len sndF_len) (sndL_cons (sndE_name (at_ (i := 5) rfl) rfl) sndL_nil) rfl) rfl) (sndBs_or (sndB_cmp (sndE_comp (by decide +kernel) (sndI_value (sndE_item (sndE_name (at_ (i := 3) rfl) rfl) (sndE_name (at_ (i := 4) rfl) rfl) (fun _ _ => rfl))) (.name (at_ (i := 1) rfl) rfl) (by decide +kernel) (sndT_one (sndB_cmp (sndE_name (at_ (i := 1) rfl) rfl) (sndE_name (at_ (i := 2) rfl) rfl) rfl)) (sndE_name (at_ (i := 1) rfl) rfl) (fun _ _ => rfl)) (sndE_list sndL_nil) rfl) sndBs_or_nil))) (sndSs_cons (sndS_return sndE_bool)
  sndSs_nil) sndSs_nil)
  sndSs_nil)) (fun _ _ => rfl))
  (sndSs_cons (sndS_return sndE_bool)
  sndSs_nil))))) ?_
  rintro xs σ Q E ⟨x, nb, D, m, h, rfl, H, W, h64, h0, h1, hnb, hq⟩
  refine tFun_k rfl fun K KE kret _ _ => ?_
  simp only [Loc.setAll]
  have hi := W.good.inc
  refine tSeq_k fun K1 k1 r1 _ _ => ?_
  simp only [tNop, tRet, tFlow, tDo, tIfS, tAssign, tAssignT, tAssignComp, tFor, tIter, walkV, tRange1, tEnum, tMethod, typeV, tAppend, tCount, tCall, tLen, lenV, tMax, tMin, tListOf, tIsI, isiV, tListComp, tComp, tList, tTuple, tNil, tCons, tConst, tName, tTruth, truthV, tNotB, tAndB, tOrB, tConstB, tCmp, tCmpB, tCmp2B, cmpV, tBin, binV, tNot, tNeg, tIf, tAnd, tOr, tItem, tSlice, sliceV, boundV, Loc.setAll, Loc.set, Loc.empty, Loc.bare, bindV, String.reduceEq, reduceIte, List.length_cons, List.length_nil, tAttr, tMethI, tSetItem, tCmp2, tSetAttr, tDict0, tDict2, sIsNumber, tListRange, tNeDict0, tValues, tLenSet, tMulList, tSliceR, tNew]
  refine ⟨H.instOf (by decide +kernel), x, D, rfl, H, hi, h64, fun pb hpb => ?_⟩
  simp only [AH.set_same]
  refine ⟨nofun, compT_growE pairRow (fun t => V.tup [.int t.1.n, .tup [.int t.1.l, .int t.1.r]]) D.T (fun σ' s' => s' _ _ AH.set_same) (fun t _ => ⟨_, fun _ _ P h => h, fun σ2 s2 Qv hQ => ?_⟩) fun σ2 s2 pd hpd => ?_⟩
  · simp only [tNop, tRet, tFlow, tDo, tIfS, tAssign, tAssignT, tAssignComp, tFor, tIter, walkV, tRange1, tEnum, tMethod, typeV, tAppend, tCount, tCall, tLen, lenV, tMax, tMin, tListOf, tIsI, isiV, tListComp, tComp, tList, tTuple, tNil, tCons, tConst, tName, tTruth, truthV, tNotB, tAndB, tOrB, tConstB, tCmp, tCmpB, tCmp2B, cmpV, tBin, binV, tNot, tNeg, tIf, tAnd, tOr, tItem, tSlice, sliceV, boundV, Loc.setAll, Loc.set, Loc.empty, Loc.bare, bindV, String.reduceEq, reduceIte, List.length_cons, List.length_nil, tAttr, tMethI, tSetItem, tCmp2, tSetAttr, tDict0, tDict2, sIsNumber, tListRange, tNeDict0, tValues, tLenSet, tMulList, tSliceR, tNew]
    refine itemT (xs := [V.int t.1.n, V.int t.1.l, V.int t.1.r, hueV t.1.h]) (atV_int (by decide) rfl) ?_
    exact ⟨by simp [Nonneg], by simp [Nonneg], by simp [Fits], hQ _ Sub.refl⟩
  have s1 : Sub σ (σ2.set pd (.list (D.T.map fun t => V.tup [.int t.1.n, .tup [.int t.1.l, .int t.1.r]]))) := ((Sub.refl.new hpb).trans s2).new hpd
  have hps : (D.T.map fun t => V.tup [.int t.1.n, .tup [.int t.1.l, .int t.1.r]]) = (endsOf D.S).map pairV := by
    unfold endsOf HD.S
    simp only [List.map_map]; rfl
  refine ⟨pd, endsOf D.S, rfl, by rw [← hps]; exact AH.set_same, fun rd ep hrd => k1 _ _ ?_⟩
  have hput : putAll [] (endsOf D.S) = endsOf D.S := by
    have := putAll_nil (endsOf D.S) [] (by simpa using ends_distinct hi)
    simpa using this
  rw [hput]
  have s2 := s1.new (o := .dictI (endsOf D.S) ep) hrd
  have hrd2 : (AH.set (σ2.set pd (.list (D.T.map fun t => V.tup [.int t.1.n, .tup [.int t.1.l, .int t.1.r]]))) rd (.dictI (endsOf D.S) ep)) rd = some (.dictI (endsOf D.S) ep) := AH.set_same
  generalize AH.set (σ2.set pd (.list (D.T.map fun t => V.tup [.int t.1.n, .tup [.int t.1.l, .int t.1.r]]))) rd (.dictI (endsOf D.S) ep) = σ3 at s2 hrd2
  have H3 := H.sub s2
  refine tSeq_k fun K1 k1 r1 _ _ => ?_
  simp only [tNop, tRet, tFlow, tDo, tIfS, tAssign, tAssignT, tAssignComp, tFor, tIter, walkV, tRange1, tEnum, tMethod, typeV, tAppend, tCount, tCall, tLen, lenV, tMax, tMin, tListOf, tIsI, isiV, tListComp, tComp, tList, tTuple, tNil, tCons, tConst, tName, tTruth, truthV, tNotB, tAndB, tOrB, tConstB, tCmp, tCmpB, tCmp2B, cmpV, tBin, binV, tNot, tNeg, tIf, tAnd, tOr, tItem, tSlice, sliceV, boundV, Loc.setAll, Loc.set, Loc.empty, Loc.bare, bindV, String.reduceEq, reduceIte, List.length_cons, List.length_nil, tAttr, tMethI, tSetItem, tCmp2, tSetAttr, tDict0, tDict2, sIsNumber, tListRange, tNeDict0, tValues, tLenSet, tMulList, tSliceR, tNew]
  refine ⟨H3.instOf (by decide +kernel), x, D, m, rfl, H3, W, h64, fun fb fc hfb hfc hne => k1 _ _ ?_⟩
  have hm0 : m ≠ 0 := by omega
  rw [if_neg hm0, if_neg hm0]
  have s4 := (s2.new (o := .list ((fullL D.S false D.a m).map V.int)) hfb).new (o := .list ((fullL D.S true D.b m).map V.int)) (a := fc) (by rw [AH.set_other (Ne.symm hne)]; exact hfc)
  have hfull : ∀ i : Nat, i < 2 → ∃ (fi : Addr) (L : List Int), atV [V.ref fb, V.ref fc] (i : Int) = some (.ref fi) ∧ ((σ3.set fb (.list ((fullL D.S false D.a m).map V.int))).set fc (.list ((fullL D.S true D.b m).map V.int))) fi = some (.list (L.map V.int)) ∧ ∀ e ∈ L, e ∈ (ofHue D.S h).map fun x => x.e (decide (i = 1)) := fun i hi2 => by
    rcases (show i = 0 ∨ i = 1 by omega) with rfl | rfl
    · exact ⟨fb, _, atV_nat rfl, by rw [AH.set_other hne]; exact AH.set_same, fun e he => fullL_in W.good h0 h1 he⟩
    · exact ⟨fc, _, atV_nat rfl, AH.set_same, fun e he => fullL_in W.good h0 h1 he⟩
  have hrd4 : ((σ3.set fb (.list ((fullL D.S false D.a m).map V.int))).set fc (.list ((fullL D.S true D.b m).map V.int))) rd = some (.dictI (endsOf D.S) ep) := by
    rw [AH.set_other fun z => by rw [← z, hrd2] at hfc; cases hfc]
    exact new_keeps hrd2 hfb
  generalize (σ3.set fb (.list ((fullL D.S false D.a m).map V.int))).set fc (.list ((fullL D.S true D.b m).map V.int)) = σ4 at s4 hfull hrd4
  refine tSeq_k fun K1 k1 r1 _ _ => ?_
  simp only [tNop, tRet, tFlow, tDo, tIfS, tAssign, tAssignT, tAssignComp, tFor, tIter, walkV, tRange1, tEnum, tMethod, typeV, tAppend, tCount, tCall, tLen, lenV, tMax, tMin, tListOf, tIsI, isiV, tListComp, tComp, tList, tTuple, tNil, tCons, tConst, tName, tTruth, truthV, tNotB, tAndB, tOrB, tConstB, tCmp, tCmpB, tCmp2B, cmpV, tBin, binV, tNot, tNeg, tIf, tAnd, tOr, tItem, tSlice, sliceV, boundV, Loc.setAll, Loc.set, Loc.empty, Loc.bare, bindV, String.reduceEq, reduceIte, List.length_cons, List.length_nil, tAttr, tMethI, tSetItem, tCmp2, tSetAttr, tDict0, tDict2, sIsNumber, tListRange, tNeDict0, tValues, tLenSet, tMulList, tSliceR, tNew]
  refine ⟨by decide, by simp [Fits], nofun, ?_⟩
  refine loopT_rangeK (fun i ℓ σ' => Sub σ4 σ' ∧ ℓ "_law_rows" = some (.ref rd) ∧ ℓ "_law_full" = some (.tup [.ref fb, .ref fc]) ∧ ℓ "_law_numbers" = some (.ref nb)) ?_ ?_ ⟨Sub.refl, rfl, rfl, rfl⟩
  · rintro ℓ σ' ⟨h2, e1, e2, e3⟩
    refine ⟨trivial, k1 _ _ ?_⟩
    refine tSeq_k fun K2 k2 r2 _ _ => ?_
    simp only [tNop, tRet, tFlow, tDo, tIfS, tAssign, tAssignT, tAssignComp, tFor, tIter, walkV, tRange1, tEnum, tMethod, typeV, tAppend, tCount, tCall, tLen, lenV, tMax, tMin, tListOf, tIsI, isiV, tListComp, tComp, tList, tTuple, tNil, tCons, tConst, tName, tTruth, truthV, tNotB, tAndB, tOrB, tConstB, tCmp, tCmpB, tCmp2B, cmpV, tBin, binV, tNot, tNeg, tIf, tAnd, tOr, tItem, tSlice, sliceV, boundV, Loc.setAll, Loc.set, Loc.empty, Loc.bare, bindV, String.reduceEq, reduceIte, List.length_cons, List.length_nil, tAttr, tMethI, tSetItem, tCmp2, tSetAttr, tDict0, tDict2, sIsNumber, tListRange, tNeDict0, tValues, tLenSet, tMulList, tSliceR, tNew]
    exact r2 _ _ _ (kret _ _ _ _ (s4.trans h2) hq)
  · rintro i ℓ σ' K2 hi2 k2 r2 _ _ ⟨h2, e1, e2, e3⟩
    have hi2 : i < 2 := hi2
    refine ⟨trivial, ?_⟩
    simp only [bindV]
    have hnb' := h2 _ _ (s4 _ _ hnb)
    refine tSeq_k fun K3 k3 r3 _ _ => ?_
    simp only [tNop, tRet, tFlow, tDo, tIfS, tAssign, tAssignT, tAssignComp, tFor, tIter, walkV, tRange1, tEnum, tMethod, typeV, tAppend, tCount, tCall, tLen, lenV, tMax, tMin, tListOf, tIsI, isiV, tListComp, tComp, tList, tTuple, tNil, tCons, tConst, tName, tTruth, truthV, tNotB, tAndB, tOrB, tConstB, tCmp, tCmpB, tCmp2B, cmpV, tBin, binV, tNot, tNeg, tIf, tAnd, tOr, tItem, tSlice, sliceV, boundV, Loc.setAll, Loc.set, Loc.empty, Loc.bare, bindV, String.reduceEq, reduceIte, List.length_cons, List.length_nil, tAttr, tMethI, tSetItem, tCmp2, tSetAttr, tDict0, tDict2, sIsNumber, tListRange, tNeDict0, tValues, tLenSet, tMulList, tSliceR, tNew]
    simp only [e3, hnb']
    refine ⟨nofun, compT_growE (fun x : Rw => V.int x.n) (fun x => V.int (x.e (decide (i = 1)))) (ofHue D.S h) (fun σ5 s5 => s5 _ _ hnb') (fun y hy => ⟨_, fun _ _ P h => h, fun σ5 s5 Qv hQ => ?_⟩) fun σ5 s5 eb heb => ?_⟩
    · have hyS : y ∈ D.S := (List.mem_filter.1 hy).1
      simp only [tNop, tRet, tFlow, tDo, tIfS, tAssign, tAssignT, tAssignComp, tFor, tIter, walkV, tRange1, tEnum, tMethod, typeV, tAppend, tCount, tCall, tLen, lenV, tMax, tMin, tListOf, tIsI, isiV, tListComp, tComp, tList, tTuple, tNil, tCons, tConst, tName, tTruth, truthV, tNotB, tAndB, tOrB, tConstB, tCmp, tCmpB, tCmp2B, cmpV, tBin, binV, tNot, tNeg, tIf, tAnd, tOr, tItem, tSlice, sliceV, boundV, Loc.setAll, Loc.set, Loc.empty, Loc.bare, bindV, String.reduceEq, reduceIte, List.length_cons, List.length_nil, tAttr, tMethI, tSetItem, tCmp2, tSetAttr, tDict0, tDict2, sIsNumber, tListRange, tNeDict0, tValues, tLenSet, tMulList, tSliceR, tNew]
      simp only [e1]
      refine itemI (s5 _ _ (h2 _ _ hrd4)) (lookup_ends hi hyS) (itemT (x := V.int (y.e (decide (i = 1)))) ?_ (hQ _ Sub.refl))
      rcases (show i = 0 ∨ i = 1 by omega) with rfl | rfl
      · exact atV_nat rfl
      · exact atV_nat rfl
    have hmap : ((ofHue D.S h).map fun x => V.int (x.e (decide (i = 1)))) = ((ofHue D.S h).map fun x => x.e (decide (i = 1))).map V.int := by rw [List.map_map]; rfl
    rw [hmap]
    generalize hE : ((ofHue D.S h).map fun x => x.e (decide (i = 1))) = Es at *
    have hEn : Es.Nodup := by rw [← hE]; exact class_ends W.good _
    have hEl : Es.length < 64 := by rw [← hE, List.length_map]; exact Nat.lt_of_le_of_lt (List.length_filter_le _ _) (by simpa [HD.S] using h64)
    refine k3 _ _ ?_
    have s6 : Sub σ4 (σ5.set eb (.list (Es.map V.int))) := (h2.trans s5).new heb
    have heb6 : (σ5.set eb (.list (Es.map V.int))) eb = some (.list (Es.map V.int)) := AH.set_same
    generalize σ5.set eb (.list (Es.map V.int)) = σ6 at s6 heb6
    obtain ⟨fi, L, hf1, hf2, hf3⟩ := hfull i hi2
    refine tSeq_k fun K3 k3 r3 _ _ => ?_
    simp only [tNop, tRet, tFlow, tDo, tIfS, tAssign, tAssignT, tAssignComp, tFor, tIter, walkV, tRange1, tEnum, tMethod, typeV, tAppend, tCount, tCall, tLen, lenV, tMax, tMin, tListOf, tIsI, isiV, tListComp, tComp, tList, tTuple, tNil, tCons, tConst, tName, tTruth, truthV, tNotB, tAndB, tOrB, tConstB, tCmp, tCmpB, tCmp2B, cmpV, tBin, binV, tNot, tNeg, tIf, tAnd, tOr, tItem, tSlice, sliceV, boundV, Loc.setAll, Loc.set, Loc.empty, Loc.bare, bindV, String.reduceEq, reduceIte, List.length_cons, List.length_nil, tAttr, tMethI, tSetItem, tCmp2, tSetAttr, tDict0, tDict2, sIsNumber, tListRange, tNeDict0, tValues, tLenSet, tMulList, tSliceR, tNew]
    simp only [listInts, heb6, intsV_map, List.length_map, e2]
    refine ⟨by omega, fun n hn => ?_⟩
    rw [hn hEn]
    refine eqD_int ?_
    simp only [BEq.rfl, Bool.not_true]
    refine itemT hf1 ?_
    simp only [s6 _ _ hf2]
    refine ⟨nofun, compT_growS V.int (fun e => !decide (e ∈ Es)) V.int L (fun σ7 s7 => s7 _ _ (s6 _ _ hf2)) (fun e _ σ7 s7 => ⟨_, fun P h => h, fun Qb hQ => ?_, fun _ σ8 s8 Qv hQ => ?_⟩) fun σ7 s7 lb hlb => ?_⟩
    · simp only [tNop, tRet, tFlow, tDo, tIfS, tAssign, tAssignT, tAssignComp, tFor, tIter, walkV, tRange1, tEnum, tMethod, typeV, tAppend, tCount, tCall, tLen, lenV, tMax, tMin, tListOf, tIsI, isiV, tListComp, tComp, tList, tTuple, tNil, tCons, tConst, tName, tTruth, truthV, tNotB, tAndB, tOrB, tConstB, tCmp, tCmpB, tCmp2B, cmpV, tBin, binV, tNot, tNeg, tIf, tAnd, tOr, tItem, tSlice, sliceV, boundV, Loc.setAll, Loc.set, Loc.empty, Loc.bare, bindV, String.reduceEq, reduceIte, List.length_cons, List.length_nil, tAttr, tMethI, tSetItem, tCmp2, tSetAttr, tDict0, tDict2, sIsNumber, tListRange, tNeDict0, tValues, tLenSet, tMulList, tSliceR, tNew]
      exact inD_ints (s7 _ _ heb6) (hQ _ Sub.refl)
    · simp only [tNop, tRet, tFlow, tDo, tIfS, tAssign, tAssignT, tAssignComp, tFor, tIter, walkV, tRange1, tEnum, tMethod, typeV, tAppend, tCount, tCall, tLen, lenV, tMax, tMin, tListOf, tIsI, isiV, tListComp, tComp, tList, tTuple, tNil, tCons, tConst, tName, tTruth, truthV, tNotB, tAndB, tOrB, tConstB, tCmp, tCmpB, tCmp2B, cmpV, tBin, binV, tNot, tNeg, tIf, tAnd, tOr, tItem, tSlice, sliceV, boundV, Loc.setAll, Loc.set, Loc.empty, Loc.bare, bindV, String.reduceEq, reduceIte, List.length_cons, List.length_nil, tAttr, tMethI, tSetItem, tCmp2, tSetAttr, tDict0, tDict2, sIsNumber, tListRange, tNeDict0, tValues, tLenSet, tMulList, tSliceR, tNew]
      exact hQ _ Sub.refl
    · have hnil : (L.filter fun e => !decide (e ∈ Es)) = [] := by
        rw [List.filter_eq_nil_iff]
        intro e he
        have : e ∈ Es := by rw [← hE]; exact hf3 e he
        simp [this]
      rw [hnil]
      refine ⟨by simp [Fits], fun zb hzb => eqD_nil (new_keeps AH.set_same hzb) AH.set_same ?_⟩
      simp only [Bool.not_true]
      exact k3 _ _ (k2 _ _ ⟨((s6.trans s7).new hlb).new hzb, e1, e2, e3⟩)
theorem f_alive (hK : (KK P).In g.b0) (N : NN g) (M_count : FnM g (KK P) CC "count" 7 (sCount CC)) (M_of_hue : FnM g (KK P) CC "of_hue" 7 (sOfHue CC)) (F_law_meets : FnG g "_law_meets" 7 (sMeets CC)) : SndC g 8 (.ref 338) (sAlive CC) := by
  refine SndC.mono (sndC_def (r := 7) (ps := ["_law_hall"]) (hK 338 _ rfl) rfl (CodeRec.mk' (hK 337 _ rfl) rfl rfl) rfl (by intro vs h; obtain ⟨a0, rfl⟩ := len1 h; rfl) rfl rfl rfl (by decide +kernel)
    (sndSs_cons (sndS_assign (at_ (i := 1) rfl) rfl (sndE_methI hK hC M_count (sndE_name (.head _) rfl) sndL_nil rfl rfl rfl rfl) (fun _ => rfl))
  (sndSs_cons (sndS_return (sndE_cmp (sndE_comp (by decide +kernel) (sndI_range1 (at_ (i := 2) rfl) (N.n_range) (sndE_name (at_ (i := 1) rfl) rfl) rfl) (.name (at_ (i := 1) rfl) rfl) (by decide +kernel) sndT_nil (sndE_boolop (sndV_and (sndE_cmp (sndE_methI hK hC M_of_hue (sndE_name (at_ (i := 3) rfl) rfl) (sndL_cons (sndE_name (at_ (i := 1) rfl) rfl) sndL_nil) rfl rfl rfl rfl) (sndE_list sndL_nil) rfl) (sndV_one (sndE_call (at_ (i := 2) rfl) F_law_meets (sndL_cons (sndE_name (at_ (i := 3) rfl) rfl) (sndL_cons (sndE_methI hK hC M_of_hue (sndE_name (at_ (i := 3) rfl) rfl) (sndL_cons (sndE_name (at_ (i := 1) rfl) rfl) sndL_nil) rfl rfl rfl rfl) sndL_nil)) rfl)))) (fun _ _ => rfl)) (sndE_mulList (sndE_list (sndL_cons sndE_bool sndL_nil)) (sndE_name (at_ (i := 1) rfl) rfl)) rfl))
  sndSs_nil))) ?_
  rintro xs σ Q E ⟨x, D, m, rfl, H, W, h64, hq⟩
  refine tFun_k rfl fun K KE kret _ _ => ?_
  simp only [Loc.setAll]
  have hi := W.good.inc
  have ha8 := W.a8
  have hb8 := W.b8
  refine tSeq_k fun K1 k1 r1 _ _ => ?_
  simp only [tNop, tRet, tFlow, tDo, tIfS, tAssign, tAssignT, tAssignComp, tFor, tIter, walkV, tRange1, tEnum, tMethod, typeV, tAppend, tCount, tCall, tLen, lenV, tMax, tMin, tListOf, tIsI, isiV, tListComp, tComp, tList, tTuple, tNil, tCons, tConst, tName, tTruth, truthV, tNotB, tAndB, tOrB, tConstB, tCmp, tCmpB, tCmp2B, cmpV, tBin, binV, tNot, tNeg, tIf, tAnd, tOr, tItem, tSlice, sliceV, boundV, Loc.setAll, Loc.set, Loc.empty, Loc.bare, bindV, String.reduceEq, reduceIte, List.length_cons, List.length_nil, tAttr, tMethI, tSetItem, tCmp2, tSetAttr, tDict0, tDict2, sIsNumber, tListRange, tNeDict0, tValues, tLenSet, tMulList, tSliceR, tNew]
  refine ⟨H.instOf (by decide +kernel), x, D, rfl, H, hi, h64, by omega, by omega, by omega, by omega, fun m' hm' => k1 _ _ ?_⟩
  have : m' = m := hm'.uniq W.good.cnt
  subst this
  have hm64 : m' < 64 := by have := cnt_le_length hm'; simp [HD.S] at this; omega
  refine tSeq_k fun K1 k1 r1 _ _ => ?_
  simp only [tNop, tRet, tFlow, tDo, tIfS, tAssign, tAssignT, tAssignComp, tFor, tIter, walkV, tRange1, tEnum, tMethod, typeV, tAppend, tCount, tCall, tLen, lenV, tMax, tMin, tListOf, tIsI, isiV, tListComp, tComp, tList, tTuple, tNil, tCons, tConst, tName, tTruth, truthV, tNotB, tAndB, tOrB, tConstB, tCmp, tCmpB, tCmp2B, cmpV, tBin, binV, tNot, tNeg, tIf, tAnd, tOr, tItem, tSlice, sliceV, boundV, Loc.setAll, Loc.set, Loc.empty, Loc.bare, bindV, String.reduceEq, reduceIte, List.length_cons, List.length_nil, tAttr, tMethI, tSetItem, tCmp2, tSetAttr, tDict0, tDict2, sIsNumber, tListRange, tNeDict0, tValues, tLenSet, tMulList, tSliceR, tNew]
  refine ⟨by omega, by unfold Fits; omega, nofun, ?_⟩
  rw [rangeV_rng, show ((m' : Int).toNat) = m' by omega]
  refine compT_growE V.int (fun _ => V.bool true) (rngI m') (fun _ _ => trivial) (fun hu hhu => ⟨_, fun _ _ P h => h, fun σ2 s2 Qv hQ => ?_⟩) fun σ2 s2 lb hlb => ?_
  · have hr := rngI_mem.1 hhu
    have H2 := H.sub s2
    simp only [tNop, tRet, tFlow, tDo, tIfS, tAssign, tAssignT, tAssignComp, tFor, tIter, walkV, tRange1, tEnum, tMethod, typeV, tAppend, tCount, tCall, tLen, lenV, tMax, tMin, tListOf, tIsI, isiV, tListComp, tComp, tList, tTuple, tNil, tCons, tConst, tName, tTruth, truthV, tNotB, tAndB, tOrB, tConstB, tCmp, tCmpB, tCmp2B, cmpV, tBin, binV, tNot, tNeg, tIf, tAnd, tOr, tItem, tSlice, sliceV, boundV, Loc.setAll, Loc.set, Loc.empty, Loc.bare, bindV, String.reduceEq, reduceIte, List.length_cons, List.length_nil, tAttr, tMethI, tSetItem, tCmp2, tSetAttr, tDict0, tDict2, sIsNumber, tListRange, tNeDict0, tValues, tLenSet, tMulList, tSliceR, tNew]
    refine ⟨H2.instOf (by decide +kernel), x, D, m', hu, rfl, H2, W, h64, hr.1, hr.2, fun ob hob => ⟨by simp [Fits], fun zb hzb => ?_⟩⟩
    have hmap : ((ofHue D.S hu).map fun x => V.int x.n) = ((ofHue D.S hu).map Rw.n).map V.int := by rw [List.map_map]; rfl
    refine eqD_ints (ns := (ofHue D.S hu).map Rw.n) (ms := []) (by rw [← hmap]; exact new_keeps AH.set_same hzb) AH.set_same ?_
    have hne : ((ofHue D.S hu).map Rw.n == []) = false := by
      have := class_some W.good hr.1 hr.2
      cases hc : ofHue D.S hu with
      | nil => exact absurd hc this
      | cons _ _ => rfl
    rw [hne]
    simp only [Bool.not_false]
    have s3 := (s2.new (o := .list ((ofHue D.S hu).map fun x => V.int x.n)) hob).new (o := .list []) hzb
    have H3 := H.sub s3
    refine ⟨H3.instOf (by decide +kernel), x, D, m', hu, rfl, H3, W, h64, hr.1, hr.2, fun qb hqb => ?_⟩
    have s4 := s3.new (o := .list ((ofHue D.S hu).map fun x => V.int x.n)) hqb
    exact ⟨x, qb, D, m', hu, rfl, H.sub s4, W, h64, hr.1, hr.2, AH.set_same, hQ _ (((Sub.refl.new hob).new hzb).new hqb)⟩
  · refine ⟨by simp [Fits], fun tb htb => ⟨tb, [V.bool true], (m' : Int), rfl, AH.set_same, rfl, by omega, by unfold Fits; omega, by simp [Fits]; omega, fun rb hrb => ?_⟩⟩
    have e1 : ((rngI m').map fun _ => V.bool true) = (List.replicate m' true).map V.bool := by
      rw [List.map_const', List.map_replicate, rngI_length]
    have e2 : (List.replicate (m' : Int).toNat [V.bool true]).flatten = (List.replicate m' true).map V.bool := by
      rw [show ((m' : Int).toNat) = m' by omega, List.map_replicate]
      clear hm' hm64 hq k1 r1 hlb htb hrb W e1
      induction m' with
      | zero => rfl
      | succ n ih => rw [List.replicate_succ, List.flatten_cons, ih, List.replicate_succ]; rfl
    rw [e2]
    refine eqD_bools (ns := List.replicate m' true) (ms := List.replicate m' true) (new_keeps (new_keeps (by rw [← e1]; exact AH.set_same) htb) hrb) AH.set_same ?_
    rw [BEq.rfl]
    exact r1 _ _ _ (kret _ _ _ _ (((s2.new hlb).new htb).new hrb) hq)
end
section
open PySem PySem.W PyProof.Rows
variable {g : Gr} {P : Params}
theorem f_law (hK : (KK P).In g.b0) (N : NN g) (F_Hall : SndF g 9 (.ref CC) (tNew CC (sInit CC))) (F_law_cell_at : FnG g "_law_cell_at" 9 sCellAt) (F_law_mixed : FnG g "_law_mixed" 9 sMixed) (F_law_sizes_by : FnG g "_law_sizes_by" 9 sSizesBy) (F_law_deed : FnG g "_law_deed" 9 sDeed) (F_law_alive : FnG g "_law_alive" 9 (sAlive CC))
    (M_come : FnM g (KK P) CC "come" 9 (sCome CC)) (M_go : FnM g (KK P) CC "go" 9 (sGo CC)) (M_count : FnM g (KK P) CC "count" 9 (sCount CC)) (M_of_hue : FnM g (KK P) CC "of_hue" 9 (sOfHue CC)) (M_pairs : FnM g (KK P) CC "pairs" 9 (sPairs CC)) (M_fullest : FnM g (KK P) CC "fullest" 9 (sFullest CC)) : SndC g 10 (.ref 345) sLawT := by
  refine SndC.mono (sndC_def (r := 9) (ps := ["_law_script"]) (hK 345 _ rfl) rfl (CodeRec.mk' (hK 344 _ rfl) rfl rfl) rfl (by intro vs h; obtain ⟨a0, rfl⟩ := len1 h; rfl) rfl rfl rfl (by decide +kernel)
    (sndSs_cons (sndS_assign (at_ (i := 1) rfl) rfl (sndE_call (at_ (i := 11) rfl) F_law_sizes_by (sndL_cons (sndE_call (at_ (i := 12) rfl) F_law_cell_at (sndL_cons (sndE_name (.head _) rfl) (sndL_cons sndE_int sndL_nil)) rfl) sndL_nil) rfl) (fun _ => rfl))
  (sndSs_cons (sndS_assign (at_ (i := 2) rfl) rfl (sndE_callC hK (at_ (i := 13) rfl) (N.n_Hall) kp_Hall F_Hall (sndL_cons (sndE_item (sndE_name (at_ (i := 1) rfl) rfl) sndE_int (fun _ _ => rfl)) (sndL_cons (sndE_item (sndE_name (at_ (i := 1) rfl) rfl) sndE_int (fun _ _ => rfl)) sndL_nil)) rfl) (fun _ => rfl))
  (sndSs_cons (sndS_assign (at_ (i := 3) rfl) rfl sndE_dict0 (fun _ => rfl))
  (sndSs_cons (sndS_assign (at_ (i := 4) rfl) rfl sndE_int (fun _ => rfl))
  (sndSs_cons (sndS_for (sndI_value (sndE_slice (sndE_name (.head _) rfl) (sndO_some sndE_int) (sndO_some sndE_int))) (.name (at_ (i := 5) rfl) rfl) (sndSs_cons (sndS_assign (at_ (i := 6) rfl) rfl (sndE_call (at_ (i := 14) rfl) F_law_deed (sndL_cons (sndE_call (at_ (i := 15) rfl) F_law_mixed (sndL_cons (sndE_name (at_ (i := 5) rfl) rfl) (sndL_cons (sndE_bin (sndE_name (at_ (i := 4) rfl) rfl) (sndE_bin sndE_int (sndE_call (at_ (i := 16) rfl) (fn_builtin N.n_len sndF_len) (sndL_cons (sndE_name (at_ (i := 3) rfl) rfl) sndL_nil) rfl))) sndL_nil)) rfl) (sndL_cons (sndE_name (at_ (i := 1) rfl) rfl) (sndL_cons (sndE_name (at_ (i := 3) rfl) rfl) (sndL_cons sndE_int sndL_nil)))) rfl) (fun _ => rfl))
  (sndSs_cons (sndS_if (sndB_cmp (sndE_item (sndE_name (at_ (i := 6) rfl) rfl) sndE_int (fun _ _ => rfl)) (sndE_str (fitsS (by decide))) rfl) (sndSs_cons (sndS_expr (sndE_methI hK hC M_come (sndE_name (at_ (i := 2) rfl) rfl) (sndL_cons (sndE_item (sndE_name (at_ (i := 6) rfl) rfl) sndE_int (fun _ _ => rfl)) (sndL_cons (sndE_item (sndE_name (at_ (i := 6) rfl) rfl) sndE_int (fun _ _ => rfl)) sndL_nil)) rfl rfl rfl rfl) (fun _ => rfl))
  (sndSs_cons (sndS_setItem (sndE_name (at_ (i := 3) rfl) rfl) (sndE_name (at_ (i := 4) rfl) rfl) (sndE_slice (sndE_name (at_ (i := 6) rfl) rfl) (sndO_some sndE_int) sndO_none) (fun _ => rfl))
  (sndSs_cons (sndS_assign (at_ (i := 4) rfl) rfl (sndE_bin (sndE_name (at_ (i := 4) rfl) rfl) sndE_int) (fun _ => rfl))
  sndSs_nil))) (sndSs_cons (sndS_expr (sndE_methI hK hC M_go (sndE_name (at_ (i := 2) rfl) rfl) (sndL_cons (sndE_item (sndE_name (at_ (i := 6) rfl) rfl) sndE_int (fun _ _ => rfl)) sndL_nil) rfl rfl rfl rfl) (fun _ => rfl))
  (sndSs_cons (sndS_expr (mPop (sndE_name (at_ (i := 3) rfl) rfl) (sndL_cons (sndE_item (sndE_name (at_ (i := 6) rfl) rfl) sndE_int (fun _ _ => rfl)) sndL_nil) rfl rfl rfl rfl) (fun _ => rfl))
  sndSs_nil)))
  sndSs_nil)) (fun _ _ => rfl))
  (sndSs_cons (sndS_assign (at_ (i := 7) rfl) rfl (sndE_methI hK hC M_count (sndE_name (at_ (i := 2) rfl) rfl) sndL_nil rfl rfl rfl rfl) (fun _ => rfl))
  (sndSs_cons (sndS_for (sndI_range1 (at_ (i := 17) rfl) (N.n_range) (sndE_name (at_ (i := 7) rfl) rfl) rfl) (.name (at_ (i := 8) rfl) rfl) (sndSs_cons (sndS_if (sndB_boolop (sndBs_or (sndB_cmp (sndE_methI hK hC M_count (sndE_name (at_ (i := 2) rfl) rfl) sndL_nil rfl rfl rfl rfl) (sndE_bin (sndE_name (at_ (i := 7) rfl) rfl) (sndE_name (at_ (i := 8) rfl) rfl)) rfl) (sndBs_or (sndB_not (sndB_value (sndE_call (at_ (i := 18) rfl) F_law_alive (sndL_cons (sndE_name (at_ (i := 2) rfl) rfl) sndL_nil) rfl) (fun _ _ => rfl))) sndBs_or_nil))) (sndSs_cons (sndS_return sndE_bool)
  sndSs_nil) sndSs_nil)
  (sndSs_cons (sndS_assign (at_ (i := 9) rfl) rfl (sndE_methI hK hC M_of_hue (sndE_name (at_ (i := 2) rfl) rfl) (sndL_cons (sndE_bin (sndE_call (at_ (i := 15) rfl) F_law_mixed (sndL_cons (sndE_call (at_ (i := 12) rfl) F_law_cell_at (sndL_cons (sndE_name (.head _) rfl) (sndL_cons sndE_int sndL_nil)) rfl) (sndL_cons (sndE_name (at_ (i := 8) rfl) rfl) sndL_nil)) rfl) (sndE_bin (sndE_name (at_ (i := 7) rfl) rfl) (sndE_name (at_ (i := 8) rfl) rfl))) sndL_nil) rfl rfl rfl rfl) (fun _ => rfl))
  (sndSs_cons (sndS_if (sndB_cmp (sndE_bin (sndE_bin (sndE_call (at_ (i := 12) rfl) F_law_cell_at (sndL_cons (sndE_name (.head _) rfl) (sndL_cons sndE_int sndL_nil)) rfl) (sndE_bin (sndE_name (at_ (i := 8) rfl) rfl) sndE_int)) sndE_int) sndE_int rfl) (sndSs_cons (sndS_assign (at_ (i := 9) rfl) rfl (sndE_sliceR (sndE_name (at_ (i := 9) rfl) rfl) (sndE_neg sndE_int)) (fun _ => rfl))
  sndSs_nil) sndSs_nil)
  (sndSs_cons (sndS_for (sndI_value (sndE_name (at_ (i := 9) rfl) rfl)) (.name (at_ (i := 10) rfl) rfl) (sndSs_cons (sndS_expr (sndE_methI hK hC M_go (sndE_name (at_ (i := 2) rfl) rfl) (sndL_cons (sndE_name (at_ (i := 10) rfl) rfl) sndL_nil) rfl rfl rfl rfl) (fun _ => rfl))
  sndSs_nil) (fun _ _ => rfl))
  sndSs_nil)))) (fun _ _ => rfl))
  (sndSs_cons (sndS_return (sndE_boolop (sndV_and (sndE_cmp (sndE_methI hK hC M_count (sndE_name (at_ (i := 2) rfl) rfl) sndL_nil rfl rfl rfl rfl) sndE_int rfl) (sndV_and (sndE_cmp (sndE_methI hK hC M_pairs (sndE_name (at_ (i := 2) rfl) rfl) sndL_nil rfl rfl rfl rfl) (sndE_list sndL_nil) rfl) (sndV_one (sndE_cmp (sndE_methI hK hC M_fullest (sndE_name (at_ (i := 2) rfl) rfl) sndL_nil rfl rfl rfl rfl) (sndE_tuple (sndL_cons (sndE_list sndL_nil) (sndL_cons (sndE_list sndL_nil) sndL_nil))) rfl))))))
  sndSs_nil))))))))) ?_
  rintro xs σ Q E ⟨ns, rfl, hns, hq⟩
  refine tFun_k rfl fun K KE kret _ _ => ?_
  simp only [Loc.setAll]
  refine tSeq_k fun K1 k1 r1 _ _ => ?_
  simp only [tNop, tRet, tFlow, tDo, tIfS, tAssign, tAssignT, tAssignComp, tFor, tIter, walkV, tRange1, tEnum, tMethod, typeV, tAppend, tCount, tCall, tLen, lenV, tMax, tMin, tListOf, tIsI, isiV, tListComp, tComp, tList, tTuple, tNil, tCons, tConst, tName, tTruth, truthV, tNotB, tAndB, tOrB, tConstB, tCmp, tCmpB, tCmp2B, cmpV, tBin, binV, tNot, tNeg, tIf, tAnd, tOr, tItem, tSlice, sliceV, boundV, Loc.setAll, Loc.set, Loc.empty, Loc.bare, bindV, String.reduceEq, reduceIte, List.length_cons, List.length_nil, tAttr, tMethI, tSetItem, tCmp2, tSetAttr, tDict0, tDict2, sIsNumber, tListRange, tNeDict0, tValues, tLenSet, tMulList, tSliceR, tNew]
  refine ⟨ns, 0, rfl, fun c0 => ⟨c0, rfl, fun a b kk ha1 ha2 hb1 hb2 => k1 _ _ ?_⟩⟩
  refine tSeq_k fun K1 k1 r1 _ _ => ?_
  simp only [tNop, tRet, tFlow, tDo, tIfS, tAssign, tAssignT, tAssignComp, tFor, tIter, walkV, tRange1, tEnum, tMethod, typeV, tAppend, tCount, tCall, tLen, lenV, tMax, tMin, tListOf, tIsI, isiV, tListComp, tComp, tList, tTuple, tNil, tCons, tConst, tName, tTruth, truthV, tNotB, tAndB, tOrB, tConstB, tCmp, tCmpB, tCmp2B, cmpV, tBin, binV, tNot, tNeg, tIf, tAnd, tOr, tItem, tSlice, sliceV, boundV, Loc.setAll, Loc.set, Loc.empty, Loc.bare, bindV, String.reduceEq, reduceIte, List.length_cons, List.length_nil, tAttr, tMethI, tSetItem, tCmp2, tSetAttr, tDict0, tDict2, sIsNumber, tListRange, tNeDict0, tValues, tLenSet, tMulList, tSliceR, tNew]
  refine itemT (atV_int (by decide) rfl) (itemT (atV_int (by decide) rfl) fun x d hx hd hxd => ⟨x, d, a, b, rfl, ha1, ha2, hb1, hb2, AH.set_same, by rw [AH.set_other (Ne.symm hxd)]; exact AH.set_same, fun σ1 D0 H0 hT hDa hDb hDn _ _ _ => ⟨rfl, k1 _ _ ?_⟩⟩)
  have W0 : Well D0 0 := by
    have hS : D0.S = [] := by unfold HD.S; rw [hT]; rfl
    exact ⟨by rw [hS]; exact Good.empty, by rw [hDa]; exact ⟨ha1, ha2⟩, by rw [hDb]; exact ⟨hb1, hb2⟩, by rw [hDn]; decide, fun y hy => by rw [hS] at hy; cases hy⟩
  refine tSeq_k fun K1 k1 r1 _ _ => ?_
  simp only [tNop, tRet, tFlow, tDo, tIfS, tAssign, tAssignT, tAssignComp, tFor, tIter, walkV, tRange1, tEnum, tMethod, typeV, tAppend, tCount, tCall, tLen, lenV, tMax, tMin, tListOf, tIsI, isiV, tListComp, tComp, tList, tTuple, tNil, tCons, tConst, tName, tTruth, truthV, tNotB, tAndB, tOrB, tConstB, tCmp, tCmpB, tCmp2B, cmpV, tBin, binV, tNot, tNeg, tIf, tAnd, tOr, tItem, tSlice, sliceV, boundV, Loc.setAll, Loc.set, Loc.empty, Loc.bare, bindV, String.reduceEq, reduceIte, List.length_cons, List.length_nil, tAttr, tMethI, tSetItem, tCmp2, tSetAttr, tDict0, tDict2, sIsNumber, tListRange, tNeDict0, tValues, tLenSet, tMulList, tSliceR, tNew]
  refine fun ed ep hed => k1 _ _ ?_
  have H1 := H0.sub (Sub.refl.new (o := .dictI [] ep) hed)
  have nf1 : ¬ D0.foot ed := noFoot H0 hed
  have hed1 : (σ1.set ed (.dictI [] ep)) ed = some (.dictI (endsOf D0.S) ep) := by rw [AH.set_same]; unfold endsOf HD.S; rw [hT]; rfl
  generalize σ1.set ed (.dictI [] ep) = σ2 at H1 hed1
  refine tSeq_k fun K1 k1 r1 _ _ => ?_
  simp only [tNop, tRet, tFlow, tDo, tIfS, tAssign, tAssignT, tAssignComp, tFor, tIter, walkV, tRange1, tEnum, tMethod, typeV, tAppend, tCount, tCall, tLen, lenV, tMax, tMin, tListOf, tIsI, isiV, tListComp, tComp, tList, tTuple, tNil, tCons, tConst, tName, tTruth, truthV, tNotB, tAndB, tOrB, tConstB, tCmp, tCmpB, tCmp2B, cmpV, tBin, binV, tNot, tNeg, tIf, tAnd, tOr, tItem, tSlice, sliceV, boundV, Loc.setAll, Loc.set, Loc.empty, Loc.bare, bindV, String.reduceEq, reduceIte, List.length_cons, List.length_nil, tAttr, tMethI, tSetItem, tCmp2, tSetAttr, tDict0, tDict2, sIsNumber, tListRange, tNeDict0, tValues, tLenSet, tMulList, tSliceR, tNew]
  refine k1 _ _ ?_
  refine tSeq_k fun K1 k1 r1 _ _ => ?_
  simp only [tNop, tRet, tFlow, tDo, tIfS, tAssign, tAssignT, tAssignComp, tFor, tIter, walkV, tRange1, tEnum, tMethod, typeV, tAppend, tCount, tCall, tLen, lenV, tMax, tMin, tListOf, tIsI, isiV, tListComp, tComp, tList, tTuple, tNil, tCons, tConst, tName, tTruth, truthV, tNotB, tAndB, tOrB, tConstB, tCmp, tCmpB, tCmp2B, cmpV, tBin, binV, tNot, tNeg, tIf, tAnd, tOr, tItem, tSlice, sliceV, boundV, Loc.setAll, Loc.set, Loc.empty, Loc.bare, bindV, String.reduceEq, reduceIte, List.length_cons, List.length_nil, tAttr, tMethI, tSetItem, tCmp2, tSetAttr, tDict0, tDict2, sIsNumber, tListRange, tNeDict0, tValues, tLenSet, tMulList, tSliceR, tNew]
  refine ⟨by simp [Nonneg], by simp [Nonneg], fun sl hsl => ?_⟩
  simp only [AH.set_same]
  have hcut : ∃ cells : List Int, cutV (some 2) (some 32) (ns.map V.int) = cells.map V.int ∧ cells.length ≤ 32 := ⟨(ns.take 32).drop 2, by simp [cutV, takeV, loN, List.map_take, List.map_drop], by simp; omega⟩
  obtain ⟨cells, hcells, hclen⟩ := hcut
  rw [hcells]
  refine ⟨nofun, loopT_k (fun xs ℓ σ' => ∃ (rest : List Int) (D : HD) (m : Nat) (ep : Nat), xs = rest.map V.int ∧ HallAt σ' CC x D ∧ Well D m ∧ D.a = a ∧ D.b = b ∧ D.T.length ≤ 40 ∧ D.nx + rest.length ≤ 40 ∧ σ' ed = some (.dictI (endsOf D.S) ep) ∧ ¬ D.foot ed ∧ σ' sl = some (.list (cells.map V.int)) ∧ ¬ D.foot sl ∧
      ℓ "_law_script" = some (.frz (ns.map V.int)) ∧ ℓ "_law_sizes" = some (.tup [.int a, .int b, .int kk]) ∧ ℓ "_law_hall" = some (.ref x) ∧ ℓ "_law_ends_here" = some (.ref ed) ∧ ℓ "_law_came" = some (.int D.nx)) ?_ ?_
    ⟨cells, D0, 0, ep, rfl, H1.sub (Sub.refl.new hsl), W0, hDa, hDb, by rw [hT]; simp, by rw [hDn]; omega, new_keeps hed1 hsl, nf1, AH.set_same, noFoot H1 hsl, rfl, rfl, rfl, rfl, by rw [hDn]; rfl⟩⟩
  · -- behind the deeds
    rintro ℓ σ' ⟨rest, D, m, ep, h1, H, W, hDa, hDb, hT40, hnx, hed, nfe, hsl', nfs, e1, e2, e3, e4, e5⟩
    refine ⟨hsl', k1 _ _ ?_⟩
    have ha8 := W.a8
    have hb8 := W.b8
    refine tSeq_k fun K1 k1 r1 _ _ => ?_
    simp only [tNop, tRet, tFlow, tDo, tIfS, tAssign, tAssignT, tAssignComp, tFor, tIter, walkV, tRange1, tEnum, tMethod, typeV, tAppend, tCount, tCall, tLen, lenV, tMax, tMin, tListOf, tIsI, isiV, tListComp, tComp, tList, tTuple, tNil, tCons, tConst, tName, tTruth, truthV, tNotB, tAndB, tOrB, tConstB, tCmp, tCmpB, tCmp2B, cmpV, tBin, binV, tNot, tNeg, tIf, tAnd, tOr, tItem, tSlice, sliceV, boundV, Loc.setAll, Loc.set, Loc.empty, Loc.bare, bindV, String.reduceEq, reduceIte, List.length_cons, List.length_nil, tAttr, tMethI, tSetItem, tCmp2, tSetAttr, tDict0, tDict2, sIsNumber, tListRange, tNeDict0, tValues, tLenSet, tMulList, tSliceR, tNew]
    simp only [e3]
    refine ⟨H.instOf (by decide +kernel), x, D, rfl, H, W.good.inc, by omega, by omega, by omega, by omega, by omega, fun m0 hm0 => k1 _ _ ?_⟩
    have : m0 = m := hm0.uniq W.good.cnt
    subst this
    have hm64 : m0 ≤ 40 := by have := cnt_le_length hm0; simp [HD.S] at this; omega
    refine tSeq_k fun K1 k1 r1 _ _ => ?_
    simp only [tNop, tRet, tFlow, tDo, tIfS, tAssign, tAssignT, tAssignComp, tFor, tIter, walkV, tRange1, tEnum, tMethod, typeV, tAppend, tCount, tCall, tLen, lenV, tMax, tMin, tListOf, tIsI, isiV, tListComp, tComp, tList, tTuple, tNil, tCons, tConst, tName, tTruth, truthV, tNotB, tAndB, tOrB, tConstB, tCmp, tCmpB, tCmp2B, cmpV, tBin, binV, tNot, tNeg, tIf, tAnd, tOr, tItem, tSlice, sliceV, boundV, Loc.setAll, Loc.set, Loc.empty, Loc.bare, bindV, String.reduceEq, reduceIte, List.length_cons, List.length_nil, tAttr, tMethI, tSetItem, tCmp2, tSetAttr, tDict0, tDict2, sIsNumber, tListRange, tNeDict0, tValues, tLenSet, tMulList, tSliceR, tNew]
    refine ⟨by omega, by unfold Fits; omega, nofun, ?_⟩
    rw [show ((m0 : Int).toNat) = m0 by omega]
    refine loopT_rangeK (fun i ℓ σ2 => ∃ (D : HD), HallAt σ2 CC x D ∧ Well D (m0 - i) ∧ i ≤ m0 ∧ D.T.length ≤ 40 ∧ ℓ "_law_script" = some (.frz (ns.map V.int)) ∧ ℓ "_law_hall" = some (.ref x) ∧ ℓ "_law_many" = some (.int (m0 : Nat))) ?_ ?_
      ⟨D, H, by simpa using W, Nat.zero_le _, hT40, e1, e3, rfl⟩
    · -- the end
      rintro ℓ σ2 ⟨D, H, W, _, hT40, e1, e3, e4⟩
      refine ⟨trivial, k1 _ _ ?_⟩
      rw [Nat.sub_self] at W
      have hS : D.S = [] := cnt_zero W.good.cnt W.good.inr
      have hTn : D.T = [] := by unfold HD.S at hS; simpa using hS
      have ha8 := W.a8
      have hb8 := W.b8
      refine tSeq_k fun K1 k1 r1 _ _ => ?_
      simp only [tNop, tRet, tFlow, tDo, tIfS, tAssign, tAssignT, tAssignComp, tFor, tIter, walkV, tRange1, tEnum, tMethod, typeV, tAppend, tCount, tCall, tLen, lenV, tMax, tMin, tListOf, tIsI, isiV, tListComp, tComp, tList, tTuple, tNil, tCons, tConst, tName, tTruth, truthV, tNotB, tAndB, tOrB, tConstB, tCmp, tCmpB, tCmp2B, cmpV, tBin, binV, tNot, tNeg, tIf, tAnd, tOr, tItem, tSlice, sliceV, boundV, Loc.setAll, Loc.set, Loc.empty, Loc.bare, bindV, String.reduceEq, reduceIte, List.length_cons, List.length_nil, tAttr, tMethI, tSetItem, tCmp2, tSetAttr, tDict0, tDict2, sIsNumber, tListRange, tNeDict0, tValues, tLenSet, tMulList, tSliceR, tNew]
      simp only [e3]
      refine ⟨H.instOf (by decide +kernel), x, D, rfl, H, W.good.inc, by omega, by omega, by omega, by omega, by omega, fun m1 hm1 => ?_⟩
      have : m1 = 0 := hm1.uniq W.good.cnt
      subst this
      refine eqD_int ?_
      simp only [Int.ofNat_eq_natCast, Int.natCast_zero, BEq.rfl]
      refine ⟨H.instOf (by decide +kernel), x, D, rfl, H, W.good.inc, by omega, fun pb hpb => ⟨by simp [Fits], fun zb hzb => ?_⟩⟩
      rw [hTn] at hzb ⊢
      simp only [List.map_nil] at hzb ⊢
      refine eqD_nil (new_keeps AH.set_same hzb) AH.set_same ?_
      have H2 := H.sub ((Sub.refl.new (o := .list []) hpb).new (o := .list []) hzb)
      refine ⟨H2.instOf (by decide +kernel), x, D, 0, rfl, H2, W, by omega, fun fb fc hfb hfc hne => ⟨by simp [Fits], fun b1 hb1 => ⟨by simp [Fits], fun b2 hb2 => ⟨by simp [Fits], ?_⟩⟩⟩⟩
      simp only [if_true, List.map_nil] at hb1 hb2 ⊢
      refine eqD_nil2 (new_keeps (new_keeps ?_ hb1) hb2) (new_keeps (new_keeps AH.set_same hb1) hb2) (new_keeps AH.set_same hb2) AH.set_same (r1 _ _ _ (kret _ _ _ _ Sub.refl (hq _)))
      rw [AH.set_other hne]; exact AH.set_same
    · -- a turn
      rintro i ℓ σ2 K2 hi k2 r2 _ _ ⟨D, H, W, him, hT40, e1, e3, e4⟩
      refine ⟨trivial, ?_⟩
      simp only [bindV]
      have ha8 := W.a8
      have hb8 := W.b8
      have hcast : ((m0 : Int) - (i : Int)) = ((m0 - i : Nat) : Int) := by omega
      refine tSeq_k fun K3 k3 r3 _ _ => ?_
      simp only [tNop, tRet, tFlow, tDo, tIfS, tAssign, tAssignT, tAssignComp, tFor, tIter, walkV, tRange1, tEnum, tMethod, typeV, tAppend, tCount, tCall, tLen, lenV, tMax, tMin, tListOf, tIsI, isiV, tListComp, tComp, tList, tTuple, tNil, tCons, tConst, tName, tTruth, truthV, tNotB, tAndB, tOrB, tConstB, tCmp, tCmpB, tCmp2B, cmpV, tBin, binV, tNot, tNeg, tIf, tAnd, tOr, tItem, tSlice, sliceV, boundV, Loc.setAll, Loc.set, Loc.empty, Loc.bare, bindV, String.reduceEq, reduceIte, List.length_cons, List.length_nil, tAttr, tMethI, tSetItem, tCmp2, tSetAttr, tDict0, tDict2, sIsNumber, tListRange, tNeDict0, tValues, tLenSet, tMulList, tSliceR, tNew]
      simp only [e3, e4]
      refine ⟨H.instOf (by decide +kernel), x, D, rfl, H, W.good.inc, by omega, by omega, by omega, by omega, by omega, fun m1 hm1 => ?_⟩
      have : m1 = m0 - i := hm1.uniq W.good.cnt
      subst this
      refine eqD_int ?_
      rw [hcast]
      simp only [BEq.rfl, Bool.not_true]
      refine ⟨x, D, m0 - i, rfl, H, W, by omega, ?_⟩
      simp only [Bool.not_true]
      refine k3 _ _ ?_
      refine tSeq_k fun K3 k3 r3 _ _ => ?_
      simp only [tNop, tRet, tFlow, tDo, tIfS, tAssign, tAssignT, tAssignComp, tFor, tIter, walkV, tRange1, tEnum, tMethod, typeV, tAppend, tCount, tCall, tLen, lenV, tMax, tMin, tListOf, tIsI, isiV, tListComp, tComp, tList, tTuple, tNil, tCons, tConst, tName, tTruth, truthV, tNotB, tAndB, tOrB, tConstB, tCmp, tCmpB, tCmp2B, cmpV, tBin, binV, tNot, tNeg, tIf, tAnd, tOr, tItem, tSlice, sliceV, boundV, Loc.setAll, Loc.set, Loc.empty, Loc.bare, bindV, String.reduceEq, reduceIte, List.length_cons, List.length_nil, tAttr, tMethI, tSetItem, tCmp2, tSetAttr, tDict0, tDict2, sIsNumber, tListRange, tNeDict0, tValues, tLenSet, tMulList, tSliceR, tNew]
      simp only [e1, e3, e4]
      refine ⟨H.instOf (by decide +kernel), ns, 1, rfl, fun c1 => ⟨c1, (i : Int), rfl, by omega, by omega, fun n hn => ⟨by omega, ?_⟩⟩⟩
      rw [hcast]
      have hpos : (0 : Int) < ((m0 - i : Nat) : Int) := by omega
      have hh0 := Int.fmod_nonneg_of_pos n hpos
      have hh1 := Int.fmod_lt_of_pos n hpos
      generalize Int.fmod n ((m0 - i : Nat) : Int) = hu at hh0 hh1
      refine ⟨x, D, m0 - i, hu, rfl, H, W, by omega, hh0, hh1, fun nb hnb => k3 _ _ ?_⟩
      have hmap : ((ofHue D.S hu).map fun x => V.int x.n) = ((ofHue D.S hu).map Rw.n).map V.int := by rw [List.map_map]; rfl
      rw [hmap]
      -- the pairs of the hue go
      have fin : ∀ (nb : Addr) (L : List Int) (σ3 : AH) (ℓ3 : Loc), HallAt σ3 CC x D → σ3 nb = some (.list (L.map V.int)) → ¬ D.foot nb → L.Perm ((ofHue D.S hu).map Rw.n) → ℓ3 "_law_numbers" = some (.ref nb) → ℓ3 "_law_script" = some (.frz (ns.map V.int)) → ℓ3 "_law_hall" = some (.ref x) → ℓ3 "_law_many" = some (.int (m0 : Nat)) →
          tSeq (tFor (.name "_law_number") (tIter (tName "_law_numbers")) (tSeq (tDo (tMethI CC "go" (sGo CC) (tName "_law_hall") (tCons (tName "_law_number") tNil))) tNop)) tNop ℓ3 σ3 K2 KE := by
        intro nb L σ3 ℓ3 H3 hnb3 nf3 hL l1 l2 l3 l4
        refine tSeq_k fun K4 k4 r4 _ _ => ?_
        simp only [tNop, tRet, tFlow, tDo, tIfS, tAssign, tAssignT, tAssignComp, tFor, tIter, walkV, tRange1, tEnum, tMethod, typeV, tAppend, tCount, tCall, tLen, lenV, tMax, tMin, tListOf, tIsI, isiV, tListComp, tComp, tList, tTuple, tNil, tCons, tConst, tName, tTruth, truthV, tNotB, tAndB, tOrB, tConstB, tCmp, tCmpB, tCmp2B, cmpV, tBin, binV, tNot, tNeg, tIf, tAnd, tOr, tItem, tSlice, sliceV, boundV, Loc.setAll, Loc.set, Loc.empty, Loc.bare, bindV, String.reduceEq, reduceIte, List.length_cons, List.length_nil, tAttr, tMethI, tSetItem, tCmp2, tSetAttr, tDict0, tDict2, sIsNumber, tListRange, tNeDict0, tValues, tLenSet, tMulList, tSliceR, tNew]
        simp only [l1, hnb3]
        refine ⟨nofun, loopT_k (fun xs ℓ σ4 => ∃ (done rest : List Int) (D4 : HD) (m4 : Nat), done ++ rest = L ∧ xs = rest.map V.int ∧ HallAt σ4 CC x D4 ∧ Well D4 m4 ∧ D4.S.map sk = (D.S.filter fun x => !done.contains x.n).map sk ∧ D4.a = D.a ∧ D4.b = D.b ∧ D4.T.length ≤ 40 ∧ σ4 nb = some (.list (L.map V.int)) ∧ ¬ D4.foot nb ∧ ℓ "_law_script" = some (.frz (ns.map V.int)) ∧ ℓ "_law_hall" = some (.ref x) ∧ ℓ "_law_many" = some (.int (m0 : Nat))) ?_ ?_
          ⟨[], L, D, m0 - i, rfl, rfl, H3, W, by simp [filter_all], rfl, rfl, hT40, hnb3, nf3, l2, l3, l4⟩⟩
        · rintro ℓ σ4 ⟨done, rest, D4, m4, h1, h2, H4, W4, hsk, h4a, h4b, hT4, hnb4, nf4, f1, f2, f3⟩
          have hr : rest = [] := by cases rest with | nil => rfl | cons _ _ => simp at h2
          subst hr
          rw [List.append_nil] at h1
          subst h1
          refine ⟨hnb4, k4 _ _ ?_⟩
          simp only [tNop, tRet, tFlow, tDo, tIfS, tAssign, tAssignT, tAssignComp, tFor, tIter, walkV, tRange1, tEnum, tMethod, typeV, tAppend, tCount, tCall, tLen, lenV, tMax, tMin, tListOf, tIsI, isiV, tListComp, tComp, tList, tTuple, tNil, tCons, tConst, tName, tTruth, truthV, tNotB, tAndB, tOrB, tConstB, tCmp, tCmpB, tCmp2B, cmpV, tBin, binV, tNot, tNeg, tIf, tAnd, tOr, tItem, tSlice, sliceV, boundV, Loc.setAll, Loc.set, Loc.empty, Loc.bare, bindV, String.reduceEq, reduceIte, List.length_cons, List.length_nil, tAttr, tMethI, tSetItem, tCmp2, tSetAttr, tDict0, tDict2, sIsNumber, tListRange, tNeDict0, tValues, tLenSet, tMulList, tSliceR, tNew]
          refine k2 _ _ ⟨D4, H4, ?_, by omega, hT4, f1, f2, f3⟩
          have hcl : IsCnt D4.S D4.a D4.b (m0 - (i + 1)) := by
            rw [h4a, h4b]
            rw [class_filter W.good.inc hL] at hsk
            refine cnt_sk hsk ?_
            have e : m0 - i = (m0 - (i + 1)) + 1 := by omega
            have W' := W.good
            rw [e] at W'
            exact class_gone W' hh0 (by omega)
          have : m4 = m0 - (i + 1) := W4.good.cnt.uniq hcl
          rw [← this]; exact W4
        · rintro v xs ℓ σ4 K5 k5 r5 _ _ ⟨done, rest, D4, m4, h1, h2, H4, W4, hsk, h4a, h4b, hT4, hnb4, nf4, f1, f2, f3⟩
          obtain ⟨n, rest, rfl⟩ : ∃ s r, rest = s :: r := by cases rest with | nil => simp at h2 | cons s r => exact ⟨s, r, rfl⟩
          simp only [List.map_cons, List.cons.injEq] at h2
          obtain ⟨rfl, rfl⟩ := h2
          refine ⟨hnb4, ?_⟩
          simp only [bindV]
          have hLn : L.Nodup := by
            rw [hL.nodup_iff]
            have : ((ofHue D.S hu).map Rw.n).Pairwise (· < ·) := by
              rw [List.pairwise_map]; exact List.Pairwise.filter _ W.good.inc
            exact this.imp fun h => by omega
          have hnd : n ∉ done := fun q => by
            rw [← h1, List.nodup_append] at hLn
            exact hLn.2.2 _ q _ (.head _) rfl
          obtain ⟨t, ht, htn⟩ : ∃ t ∈ D4.T, t.1.n = n := by
            have hnL : n ∈ L := by rw [← h1]; simp
            obtain ⟨y, hy, e⟩ := List.mem_map.1 (hL.mem_iff.1 hnL)
            have hyS : y ∈ D.S.filter fun x => !done.contains x.n := List.mem_filter.2 ⟨(List.mem_filter.1 hy).1, by simp [e, hnd]⟩
            have : n ∈ D4.S.map Rw.n := by rw [sk_ns hsk]; exact List.mem_map.2 ⟨y, hyS, e⟩
            obtain ⟨z, hz, e2⟩ := List.mem_map.1 this
            obtain ⟨t, ht, rfl⟩ := mem_S hz
            exact ⟨t, ht, e2⟩
          subst htn
          refine tSeq_k fun K6 k6 r6 _ _ => ?_
          simp only [tNop, tRet, tFlow, tDo, tIfS, tAssign, tAssignT, tAssignComp, tFor, tIter, walkV, tRange1, tEnum, tMethod, typeV, tAppend, tCount, tCall, tLen, lenV, tMax, tMin, tListOf, tIsI, isiV, tListComp, tComp, tList, tTuple, tNil, tCons, tConst, tName, tTruth, truthV, tNotB, tAndB, tOrB, tConstB, tCmp, tCmpB, tCmp2B, cmpV, tBin, binV, tNot, tNeg, tIf, tAnd, tOr, tItem, tSlice, sliceV, boundV, Loc.setAll, Loc.set, Loc.empty, Loc.bare, bindV, String.reduceEq, reduceIte, List.length_cons, List.length_nil, tAttr, tMethI, tSetItem, tCmp2, tSetAttr, tDict0, tDict2, sIsNumber, tListRange, tNeDict0, tValues, tLenSet, tMulList, tSliceR, tNew]
          simp only [f2]
          refine ⟨H4.instOf (by decide +kernel), x, D4, m4, t, rfl, ht, H4, W4, by omega, fun σ5 D5 m5 fb log H5 W5 F5 hsk5 _ _ _ _ _ _ => k6 _ _ (k5 _ _ ⟨done ++ [t.1.n], rest, D5, m5, by simpa using h1, rfl, H5, W5, hsk5.trans (drop_more hsk), F5.sz.1.trans h4a, F5.sz.2.1.trans h4b, ?_, F5.keep _ _ hnb4 nf4, F5.off hnb4 nf4, f1, f2, f3⟩)⟩
          have := congrArg List.length hsk5
          simp [HD.S] at this
          rw [this]
          exact Nat.le_trans (List.length_filter_le _ _) (by simpa [HD.S] using hT4)
      refine tSeq_k fun K3 k3 r3 _ _ => ?_
      refine tIfS_k fun KB kt kf => ?_
      simp only [tNop, tRet, tFlow, tDo, tIfS, tAssign, tAssignT, tAssignComp, tFor, tIter, walkV, tRange1, tEnum, tMethod, typeV, tAppend, tCount, tCall, tLen, lenV, tMax, tMin, tListOf, tIsI, isiV, tListComp, tComp, tList, tTuple, tNil, tCons, tConst, tName, tTruth, truthV, tNotB, tAndB, tOrB, tConstB, tCmp, tCmpB, tCmp2B, cmpV, tBin, binV, tNot, tNeg, tIf, tAnd, tOr, tItem, tSlice, sliceV, boundV, Loc.setAll, Loc.set, Loc.empty, Loc.bare, bindV, String.reduceEq, reduceIte, List.length_cons, List.length_nil, tAttr, tMethI, tSetItem, tCmp2, tSetAttr, tDict0, tDict2, sIsNumber, tListRange, tNeDict0, tValues, tLenSet, tMulList, tSliceR, tNew]
      simp only [e1]
      have h10 : ((i : Int) + 1) ≠ 0 := by omega
      refine ⟨ns, 1, rfl, fun c2 => ⟨h10, by decide, eqD_int ?_⟩⟩
      cases ((c2.fdiv ((i : Int) + 1)).fmod 2 == 1) with
      | true =>
        refine kt _ ?_
        refine tSeq_k fun K4 k4 r4 _ _ => ?_
        simp only [tNop, tRet, tFlow, tDo, tIfS, tAssign, tAssignT, tAssignComp, tFor, tIter, walkV, tRange1, tEnum, tMethod, typeV, tAppend, tCount, tCall, tLen, lenV, tMax, tMin, tListOf, tIsI, isiV, tListComp, tComp, tList, tTuple, tNil, tCons, tConst, tName, tTruth, truthV, tNotB, tAndB, tOrB, tConstB, tCmp, tCmpB, tCmp2B, cmpV, tBin, binV, tNot, tNeg, tIf, tAnd, tOr, tItem, tSlice, sliceV, boundV, Loc.setAll, Loc.set, Loc.empty, Loc.bare, bindV, String.reduceEq, reduceIte, List.length_cons, List.length_nil, tAttr, tMethI, tSetItem, tCmp2, tSetAttr, tDict0, tDict2, sIsNumber, tListRange, tNeDict0, tValues, tLenSet, tMulList, tSliceR, tNew]
        refine ⟨nb, _, rfl, by trivial, AH.set_same, fun rb hrb => k4 _ _ ?_⟩
        simp only [tNop, tRet, tFlow, tDo, tIfS, tAssign, tAssignT, tAssignComp, tFor, tIter, walkV, tRange1, tEnum, tMethod, typeV, tAppend, tCount, tCall, tLen, lenV, tMax, tMin, tListOf, tIsI, isiV, tListComp, tComp, tList, tTuple, tNil, tCons, tConst, tName, tTruth, truthV, tNotB, tAndB, tOrB, tConstB, tCmp, tCmpB, tCmp2B, cmpV, tBin, binV, tNot, tNeg, tIf, tAnd, tOr, tItem, tSlice, sliceV, boundV, Loc.setAll, Loc.set, Loc.empty, Loc.bare, bindV, String.reduceEq, reduceIte, List.length_cons, List.length_nil, tAttr, tMethI, tSetItem, tCmp2, tSetAttr, tDict0, tDict2, sIsNumber, tListRange, tNeDict0, tValues, tLenSet, tMulList, tSliceR, tNew]
        refine k3 _ _ (fin rb ((ofHue D.S hu).map Rw.n).reverse _ _ (H.sub ((Sub.refl.new hnb).new hrb)) (by rw [AH.set_same, List.map_reverse]) (noFoot (H.sub (Sub.refl.new hnb)) hrb) (List.reverse_perm _) rfl e1 e3 e4)
      | false =>
        refine kf _ ?_
        simp only [tNop, tRet, tFlow, tDo, tIfS, tAssign, tAssignT, tAssignComp, tFor, tIter, walkV, tRange1, tEnum, tMethod, typeV, tAppend, tCount, tCall, tLen, lenV, tMax, tMin, tListOf, tIsI, isiV, tListComp, tComp, tList, tTuple, tNil, tCons, tConst, tName, tTruth, truthV, tNotB, tAndB, tOrB, tConstB, tCmp, tCmpB, tCmp2B, cmpV, tBin, binV, tNot, tNeg, tIf, tAnd, tOr, tItem, tSlice, sliceV, boundV, Loc.setAll, Loc.set, Loc.empty, Loc.bare, bindV, String.reduceEq, reduceIte, List.length_cons, List.length_nil, tAttr, tMethI, tSetItem, tCmp2, tSetAttr, tDict0, tDict2, sIsNumber, tListRange, tNeDict0, tValues, tLenSet, tMulList, tSliceR, tNew]
        exact k3 _ _ (fin nb ((ofHue D.S hu).map Rw.n) _ _ (H.sub (Sub.refl.new hnb)) AH.set_same (noFoot H hnb) (List.Perm.refl _) rfl e1 e3 e4)
  · -- a deed
    rintro v xs ℓ σ' K2 k2 r2 _ _ ⟨rest, D, m, ep, h1, H, W, hDa, hDb, hT40, hnx, hed, nfe, hsl', nfs, e1, e2, e3, e4, e5⟩
    obtain ⟨cell, rest, rfl⟩ : ∃ s r, rest = s :: r := by cases rest with | nil => simp at h1 | cons s r => exact ⟨s, r, rfl⟩
    simp only [List.map_cons, List.cons.injEq] at h1
    obtain ⟨rfl, rfl⟩ := h1
    refine ⟨hsl', ?_⟩
    simp only [bindV]
    have hi := W.good.inc
    have hnx0 := W.nx
    simp only [List.length_cons] at hnx
    have hel : (endsOf D.S).length = D.T.length := by simp [endsOf, HD.S]
    refine tSeq_k fun K3 k3 r3 _ _ => ?_
    simp only [tNop, tRet, tFlow, tDo, tIfS, tAssign, tAssignT, tAssignComp, tFor, tIter, walkV, tRange1, tEnum, tMethod, typeV, tAppend, tCount, tCall, tLen, lenV, tMax, tMin, tListOf, tIsI, isiV, tListComp, tComp, tList, tTuple, tNil, tCons, tConst, tName, tTruth, truthV, tNotB, tAndB, tOrB, tConstB, tCmp, tCmpB, tCmp2B, cmpV, tBin, binV, tNot, tNeg, tIf, tAnd, tOr, tItem, tSlice, sliceV, boundV, Loc.setAll, Loc.set, Loc.empty, Loc.bare, bindV, String.reduceEq, reduceIte, List.length_cons, List.length_nil, tAttr, tMethI, tSetItem, tCmp2, tSetAttr, tDict0, tDict2, sIsNumber, tListRange, tNeDict0, tValues, tLenSet, tMulList, tSliceR, tNew]
    simp only [e2, e4, e5, hed, hel]
    refine ⟨.of_left (by decide), cell, _, rfl, by omega, by omega, fun n hn => ?_⟩
    refine ⟨n, a, b, kk, ed, D.S.map sk, ep, rfl, hed, ha1, ha2, hb1, hb2, by simpa [HD.S] using hT40, ends_inc hi, fun k hk => k3 _ _ ?_, fun hlt l r hl1 hl2 hr1 hr2 => k3 _ _ ?_⟩
    · -- one goes
      obtain ⟨y, hy, e⟩ : ∃ y ∈ D.S, y.n = k := by
        rw [List.map_map] at hk
        obtain ⟨y, hy, e⟩ := List.mem_map.1 hk
        exact ⟨y, hy, e⟩
      obtain ⟨t, ht, rfl⟩ := mem_S hy
      subst e
      refine tSeq_k fun K4 k4 r4 _ _ => ?_
      refine tIfS_k fun KB kt kf => ?_
      simp only [tNop, tRet, tFlow, tDo, tIfS, tAssign, tAssignT, tAssignComp, tFor, tIter, walkV, tRange1, tEnum, tMethod, typeV, tAppend, tCount, tCall, tLen, lenV, tMax, tMin, tListOf, tIsI, isiV, tListComp, tComp, tList, tTuple, tNil, tCons, tConst, tName, tTruth, truthV, tNotB, tAndB, tOrB, tConstB, tCmp, tCmpB, tCmp2B, cmpV, tBin, binV, tNot, tNeg, tIf, tAnd, tOr, tItem, tSlice, sliceV, boundV, Loc.setAll, Loc.set, Loc.empty, Loc.bare, bindV, String.reduceEq, reduceIte, List.length_cons, List.length_nil, tAttr, tMethI, tSetItem, tCmp2, tSetAttr, tDict0, tDict2, sIsNumber, tListRange, tNeDict0, tValues, tLenSet, tMulList, tSliceR, tNew]
      refine itemT (atV_int (by decide) rfl) (eqD_str go_ok come_ok ?_)
      rw [show (goS == Str.ofString "come") = false from go_come]
      refine kf _ ?_
      refine tSeq_k fun K5 k5 r5 _ _ => ?_
      simp only [tNop, tRet, tFlow, tDo, tIfS, tAssign, tAssignT, tAssignComp, tFor, tIter, walkV, tRange1, tEnum, tMethod, typeV, tAppend, tCount, tCall, tLen, lenV, tMax, tMin, tListOf, tIsI, isiV, tListComp, tComp, tList, tTuple, tNil, tCons, tConst, tName, tTruth, truthV, tNotB, tAndB, tOrB, tConstB, tCmp, tCmpB, tCmp2B, cmpV, tBin, binV, tNot, tNeg, tIf, tAnd, tOr, tItem, tSlice, sliceV, boundV, Loc.setAll, Loc.set, Loc.empty, Loc.bare, bindV, String.reduceEq, reduceIte, List.length_cons, List.length_nil, tAttr, tMethI, tSetItem, tCmp2, tSetAttr, tDict0, tDict2, sIsNumber, tListRange, tNeDict0, tValues, tLenSet, tMulList, tSliceR, tNew]
      simp only [e3]
      refine ⟨H.instOf (by decide +kernel), itemT (atV_int (by decide) rfl) ⟨x, D, m, t, rfl, ht, H, W, by omega, fun σ5 D5 m5 fb log H5 W5 F5 hsk5 _ _ _ _ _ _ => k5 _ _ ?_⟩⟩
      have hed5 := F5.keep _ _ hed nfe
      have nfe5 := F5.off hed nfe
      refine tSeq_k fun K5 k5 r5 _ _ => ?_
      simp only [tNop, tRet, tFlow, tDo, tIfS, tAssign, tAssignT, tAssignComp, tFor, tIter, walkV, tRange1, tEnum, tMethod, typeV, tAppend, tCount, tCall, tLen, lenV, tMax, tMin, tListOf, tIsI, isiV, tListComp, tComp, tList, tTuple, tNil, tCons, tConst, tName, tTruth, truthV, tNotB, tAndB, tOrB, tConstB, tCmp, tCmpB, tCmp2B, cmpV, tBin, binV, tNot, tNeg, tIf, tAnd, tOr, tItem, tSlice, sliceV, boundV, Loc.setAll, Loc.set, Loc.empty, Loc.bare, bindV, String.reduceEq, reduceIte, List.length_cons, List.length_nil, tAttr, tMethI, tSetItem, tCmp2, tSetAttr, tDict0, tDict2, sIsNumber, tListRange, tNeDict0, tValues, tLenSet, tMulList, tSliceR, tNew]
      simp only [e4, hed5]
      refine ⟨trivial, itemT (atV_int (by decide) rfl) ?_⟩
      simp only [tPop, hed5]
      refine ⟨_, lookup_ends hi hy, fun ep5 => k5 _ _ ?_⟩
      simp only [tNop, tRet, tFlow, tDo, tIfS, tAssign, tAssignT, tAssignComp, tFor, tIter, walkV, tRange1, tEnum, tMethod, typeV, tAppend, tCount, tCall, tLen, lenV, tMax, tMin, tListOf, tIsI, isiV, tListComp, tComp, tList, tTuple, tNil, tCons, tConst, tName, tTruth, truthV, tNotB, tAndB, tOrB, tConstB, tCmp, tCmpB, tCmp2B, cmpV, tBin, binV, tNot, tNeg, tIf, tAnd, tOr, tItem, tSlice, sliceV, boundV, Loc.setAll, Loc.set, Loc.empty, Loc.bare, bindV, String.reduceEq, reduceIte, List.length_cons, List.length_nil, tAttr, tMethI, tSetItem, tCmp2, tSetAttr, tDict0, tDict2, sIsNumber, tListRange, tNeDict0, tValues, tLenSet, tMulList, tSliceR, tNew]
      refine k4 _ _ ?_
      simp only [tNop, tRet, tFlow, tDo, tIfS, tAssign, tAssignT, tAssignComp, tFor, tIter, walkV, tRange1, tEnum, tMethod, typeV, tAppend, tCount, tCall, tLen, lenV, tMax, tMin, tListOf, tIsI, isiV, tListComp, tComp, tList, tTuple, tNil, tCons, tConst, tName, tTruth, truthV, tNotB, tAndB, tOrB, tConstB, tCmp, tCmpB, tCmp2B, cmpV, tBin, binV, tNot, tNeg, tIf, tAnd, tOr, tItem, tSlice, sliceV, boundV, Loc.setAll, Loc.set, Loc.empty, Loc.bare, bindV, String.reduceEq, reduceIte, List.length_cons, List.length_nil, tAttr, tMethI, tSetItem, tCmp2, tSetAttr, tDict0, tDict2, sIsNumber, tListRange, tNeDict0, tValues, tLenSet, tMulList, tSliceR, tNew]
      refine k2 _ _ ⟨rest, D5, m5, ep5, rfl, H5.setDict hed5 nfe5, W5, F5.sz.1.trans hDa, F5.sz.2.1.trans hDb, ?_, by rw [F5.sz.2.2]; omega, ?_, nfe5, ?_, F5.off hsl' nfs, e1, e2, e3, e4, ?_⟩
      · have := congrArg List.length hsk5
        simp [HD.S] at this
        rw [this]
        exact Nat.le_trans (List.length_filter_le _ _) (by simpa [HD.S] using hT40)
      · rw [AH.set_same, ends_drop, endsOf_congr hsk5]
      · rw [AH.set_other fun z => by rw [z, hed] at hsl'; cases hsl']
        exact F5.keep _ _ hsl' nfs
      · rw [F5.sz.2.2]; exact e5
    · -- one comes
      have hltT : D.T.length < 40 := by simpa [HD.S] using hlt
      refine tSeq_k fun K4 k4 r4 _ _ => ?_
      refine tIfS_k fun KB kt kf => ?_
      simp only [tNop, tRet, tFlow, tDo, tIfS, tAssign, tAssignT, tAssignComp, tFor, tIter, walkV, tRange1, tEnum, tMethod, typeV, tAppend, tCount, tCall, tLen, lenV, tMax, tMin, tListOf, tIsI, isiV, tListComp, tComp, tList, tTuple, tNil, tCons, tConst, tName, tTruth, truthV, tNotB, tAndB, tOrB, tConstB, tCmp, tCmpB, tCmp2B, cmpV, tBin, binV, tNot, tNeg, tIf, tAnd, tOr, tItem, tSlice, sliceV, boundV, Loc.setAll, Loc.set, Loc.empty, Loc.bare, bindV, String.reduceEq, reduceIte, List.length_cons, List.length_nil, tAttr, tMethI, tSetItem, tCmp2, tSetAttr, tDict0, tDict2, sIsNumber, tListRange, tNeDict0, tValues, tLenSet, tMulList, tSliceR, tNew]
      refine itemT (atV_int (by decide) rfl) (eqD_str come_ok come_ok ?_)
      rw [show (comeS == Str.ofString "come") = true from BEq.rfl]
      refine kt _ ?_
      refine tSeq_k fun K5 k5 r5 _ _ => ?_
      simp only [tNop, tRet, tFlow, tDo, tIfS, tAssign, tAssignT, tAssignComp, tFor, tIter, walkV, tRange1, tEnum, tMethod, typeV, tAppend, tCount, tCall, tLen, lenV, tMax, tMin, tListOf, tIsI, isiV, tListComp, tComp, tList, tTuple, tNil, tCons, tConst, tName, tTruth, truthV, tNotB, tAndB, tOrB, tConstB, tCmp, tCmpB, tCmp2B, cmpV, tBin, binV, tNot, tNeg, tIf, tAnd, tOr, tItem, tSlice, sliceV, boundV, Loc.setAll, Loc.set, Loc.empty, Loc.bare, bindV, String.reduceEq, reduceIte, List.length_cons, List.length_nil, tAttr, tMethI, tSetItem, tCmp2, tSetAttr, tDict0, tDict2, sIsNumber, tListRange, tNeDict0, tValues, tLenSet, tMulList, tSliceR, tNew]
      simp only [e3]
      refine ⟨H.instOf (by decide +kernel), itemT (atV_int (by decide) rfl) (itemT (atV_int (by decide) rfl) ⟨x, D, l, r, m, rfl, H, W, by omega, hltT, ⟨hl1, by rw [hDa]; exact hl2⟩, ⟨hr1, by rw [hDb]; exact hr2⟩, fun σ5 D5 m5 hue other nums c H5 W5 hn5 ha5 hb5 keep5 new5 dom5 hsk5 _ _ _ _ => k5 _ _ ?_⟩)⟩
      have off5 : ∀ {y o}, σ' y = some o → ¬ D.foot y → ¬ D5.foot y := fun {y o} q nf z => by
        rcases new5 y z with w | w
        · exact nf w
        · rw [q] at w; cases w
      have hed5 := keep5 _ _ hed nfe
      have nfe5 := off5 hed nfe
      refine tSeq_k fun K5 k5 r5 _ _ => ?_
      simp only [tNop, tRet, tFlow, tDo, tIfS, tAssign, tAssignT, tAssignComp, tFor, tIter, walkV, tRange1, tEnum, tMethod, typeV, tAppend, tCount, tCall, tLen, lenV, tMax, tMin, tListOf, tIsI, isiV, tListComp, tComp, tList, tTuple, tNil, tCons, tConst, tName, tTruth, truthV, tNotB, tAndB, tOrB, tConstB, tCmp, tCmpB, tCmp2B, cmpV, tBin, binV, tNot, tNeg, tIf, tAnd, tOr, tItem, tSlice, sliceV, boundV, Loc.setAll, Loc.set, Loc.empty, Loc.bare, bindV, String.reduceEq, reduceIte, List.length_cons, List.length_nil, tAttr, tMethI, tSetItem, tCmp2, tSetAttr, tDict0, tDict2, sIsNumber, tListRange, tNeDict0, tValues, tLenSet, tMulList, tSliceR, tNew]
      simp only [e4, e5]
      refine ⟨by simp [Nonneg], by simp [Nonneg], ?_⟩
      simp only [setItemV, hed5]
      refine ⟨_, rfl, by simp [Fits, hel]; omega, fun ep5 => k5 _ _ ?_⟩
      refine tSeq_k fun K5 k5 r5 _ _ => ?_
      simp only [tNop, tRet, tFlow, tDo, tIfS, tAssign, tAssignT, tAssignComp, tFor, tIter, walkV, tRange1, tEnum, tMethod, typeV, tAppend, tCount, tCall, tLen, lenV, tMax, tMin, tListOf, tIsI, isiV, tListComp, tComp, tList, tTuple, tNil, tCons, tConst, tName, tTruth, truthV, tNotB, tAndB, tOrB, tConstB, tCmp, tCmpB, tCmp2B, cmpV, tBin, binV, tNot, tNeg, tIf, tAnd, tOr, tItem, tSlice, sliceV, boundV, Loc.setAll, Loc.set, Loc.empty, Loc.bare, bindV, String.reduceEq, reduceIte, List.length_cons, List.length_nil, tAttr, tMethI, tSetItem, tCmp2, tSetAttr, tDict0, tDict2, sIsNumber, tListRange, tNeDict0, tValues, tLenSet, tMulList, tSliceR, tNew]
      simp only [e5]
      refine k5 _ _ ?_
      simp only [tNop, tRet, tFlow, tDo, tIfS, tAssign, tAssignT, tAssignComp, tFor, tIter, walkV, tRange1, tEnum, tMethod, typeV, tAppend, tCount, tCall, tLen, lenV, tMax, tMin, tListOf, tIsI, isiV, tListComp, tComp, tList, tTuple, tNil, tCons, tConst, tName, tTruth, truthV, tNotB, tAndB, tOrB, tConstB, tCmp, tCmpB, tCmp2B, cmpV, tBin, binV, tNot, tNeg, tIf, tAnd, tOr, tItem, tSlice, sliceV, boundV, Loc.setAll, Loc.set, Loc.empty, Loc.bare, bindV, String.reduceEq, reduceIte, List.length_cons, List.length_nil, tAttr, tMethI, tSetItem, tCmp2, tSetAttr, tDict0, tDict2, sIsNumber, tListRange, tNeDict0, tValues, tLenSet, tMulList, tSliceR, tNew]
      refine k4 _ _ ?_
      simp only [tNop, tRet, tFlow, tDo, tIfS, tAssign, tAssignT, tAssignComp, tFor, tIter, walkV, tRange1, tEnum, tMethod, typeV, tAppend, tCount, tCall, tLen, lenV, tMax, tMin, tListOf, tIsI, isiV, tListComp, tComp, tList, tTuple, tNil, tCons, tConst, tName, tTruth, truthV, tNotB, tAndB, tOrB, tConstB, tCmp, tCmpB, tCmp2B, cmpV, tBin, binV, tNot, tNeg, tIf, tAnd, tOr, tItem, tSlice, sliceV, boundV, Loc.setAll, Loc.set, Loc.empty, Loc.bare, bindV, String.reduceEq, reduceIte, List.length_cons, List.length_nil, tAttr, tMethI, tSetItem, tCmp2, tSetAttr, tDict0, tDict2, sIsNumber, tListRange, tNeDict0, tValues, tLenSet, tMulList, tSliceR, tNew]
      refine k2 _ _ ⟨rest, D5, m5, ep5, rfl, H5.setDict hed5 nfe5, W5, ha5.trans hDa, hb5.trans hDb, ?_, by rw [hn5]; omega, ?_, nfe5, ?_, off5 hsl' nfs, e1, e2, e3, e4, by rw [hn5]; rfl⟩
      · have := congrArg List.length hsk5
        simp [HD.S] at this
        omega
      · rw [AH.set_same]
        have := ends_add hsk5 fun y hy => by have := W.below y hy; omega
        rw [← this]; rfl
      · rw [AH.set_other fun z => by rw [z, hed] at hsl'; cases hsl']
        exact keep5 _ _ hsl' nfs
end
section
open PySem PySem.W PyProof.Rows
theorem ns_at {h : Heap} {mg : Str → Option Value} {o : Obj} {es : Array DictEntry} {ep : Nat} {n : Str} {v : Value} (hN : h.Ns mainGlobals mg) (h3 : h.get? mainGlobals = some o) (hd : o.data = .dict es ep) (e : nsFind es n = some v) : mg n = some v := by
  obtain ⟨o', es', ep', ho, hd', hk, hf⟩ := id hN
  rw [h3] at ho; cases ho
  rw [hd] at hd'; cases hd'
  exact (hf _).symm.trans e
theorem fa_of {mg : Str → Option Value} {n : Str} {a b : Addr} (e : mg n = some (.ref a)) (h : mg n = some (.ref b)) : b = a := (Value.ref.inj (Option.some.inj (e.symm.trans h))).symm
theorem vr_script {g : Gr} {h : Heap} {l : Addr} {vs : List Value} {ns : List Int} (hL : g.b0.IsList l vs.toArray) (hI : IntsAre vs ns) (hn : ns.length ≤ 1000) : VRs g h [V.frz (ns.map V.int)] [.ref l] := by
  obtain ⟨o, ho, hc, n, hd⟩ := hL
  refine VRs_cons (VR_frz.mpr ⟨by simp [Fits]; omega, l, o, vs.toArray, n, rfl, ho, hc, hd, ?_⟩) VRs_nil
  clear ho hc hd hn
  show VRs g h _ vs
  induction hI with
  | nil => exact VRs_nil
  | cons n t _ ih => exact VRs_cons (VR_int.mpr ⟨t, rfl⟩) ih
theorem caller_room : Room callerA 10 true := ⟨by decide, by decide, fun _ => rfl⟩
theorem names_of {g : Gr} {P : Params} {mg mb : Str → Option Value} (hK : (KK P).In g.b0) (hN : g.b0.Ns mainGlobals mg) (hB : g.b0.Ns builtinsNs mb) (hb : ∀ x : Str, x ≠ "__name__" → mb x = bootBuiltins x) : NN g := by
  have h3 := hK mainGlobals _ rfl
  exact ⟨bui_of hN h3 rfl (by kernel_rfl) hB hb (by decide) (by kernel_rfl), bui_of hN h3 rfl (by kernel_rfl) hB hb (by decide) (by kernel_rfl), bui_of hN h3 rfl (by kernel_rfl) hB hb (by decide) (by kernel_rfl), bui_of hN h3 rfl (by kernel_rfl) hB hb (by decide) (by kernel_rfl), bui_of hN h3 rfl (by kernel_rfl) hB hb (by decide) (by kernel_rfl), bui_of hN h3 rfl (by kernel_rfl) hB hb (by decide) (by kernel_rfl), bui_of hN h3 rfl (by kernel_rfl) hB hb (by decide) (by kernel_rfl), bui_of hN h3 rfl (by kernel_rfl) hB hb (by decide) (by kernel_rfl), bui_of hN h3 rfl (by kernel_rfl) hB hb (by decide) (by kernel_rfl), bui_of hN h3 rfl (by kernel_rfl) hB hb (by decide) (by kernel_rfl), bui_of hN h3 rfl (by kernel_rfl) hB hb (by decide) (by kernel_rfl), glo_of hN h3 rfl (by kernel_rfl), glo_of hN h3 rfl (by kernel_rfl), glo_of hN h3 rfl (by kernel_rfl), glo_of hN h3 rfl (by kernel_rfl), glo_of hN h3 rfl (by kernel_rfl)⟩
variable {g : Gr} {P : Params}
theorem law_runs (hK : (KK P).In g.b0) (N : NN g) (Kn : ∀ {n : String} {v : Value} {o : Obj} {es : Array DictEntry} {ep : Nat}, g.b0.get? mainGlobals = some o → o.data = .dict es ep → nsFind es (Str.ofString n) = some v → Known g n v) : SndC g 10 (.ref 345) sLawT := by
  have h3 := hK mainGlobals _ rfl
  have F_num : FnG g "is_number" 2 sIsNumber := fn_def (Kn h3 rfl (by kernel_rfl)) (hK 125 _ rfl) rfl (f_is_number hK N).toF
  have F_oth : FnG g "other_side" 2 sOther := fn_def (Kn h3 rfl (by kernel_rfl)) (hK 132 _ rfl) rfl (f_other_side hK N).toF
  have M_end_of : FnM g (KK P) CC "end_of" 2 sEndOf := fnM (by kernel_rfl) (by kernel_rfl) (by kernel_rfl) (f_end_of hK N)
  have M_met : FnM g (KK P) CC "met" 3 (sMet CC) := fnM (by kernel_rfl) (by kernel_rfl) (by kernel_rfl) (f_met hK N M_end_of)
  have M_count : FnM g (KK P) CC "count" 4 (sCount CC) := fnM (by kernel_rfl) (by kernel_rfl) (by kernel_rfl) (f_count hK N M_met)
  have M_open : FnM g (KK P) CC "open_hues" 4 (sOpen CC) := fnM (by kernel_rfl) (by kernel_rfl) (by kernel_rfl) (f_open_hues hK N M_met)
  have M_with : FnM g (KK P) CC "with_hue" 4 (sWith CC) := fnM (by kernel_rfl) (by kernel_rfl) (by kernel_rfl) (f_with_hue hK N M_met)
  have M_chain : FnM g (KK P) CC "chain_from" 5 (sChain CC) := fnM (by kernel_rfl) (by kernel_rfl) (by kernel_rfl) (f_chain_from hK N (F_oth.le (by decide)) M_with (M_end_of.le (by decide)))
  have M_turn : FnM g (KK P) CC "turn" 2 (sTurn CC) := fnM (by kernel_rfl) (by kernel_rfl) (by kernel_rfl) (f_turn hK N)
  have M_ways : FnM g (KK P) CC "ways" 6 (sWays CC) := fnM (by kernel_rfl) (by kernel_rfl) (by kernel_rfl) (f_ways hK N (M_open.le (by decide)) M_chain)
  have M_hued : FnM g (KK P) CC "hued" 7 (sHued CC) := fnM (by kernel_rfl) (by kernel_rfl) (by kernel_rfl) (f_hued hK N (M_open.le (by decide)) M_ways (M_turn.le (by decide)))
  have M_nend : FnM g (KK P) CC "need_end" 3 (sNeedEnd CC) := fnM (by kernel_rfl) (by kernel_rfl) (by kernel_rfl) (f_need_end hK N F_num)
  have M_npair : FnM g (KK P) CC "need_pair" 3 (sNeedPair CC) := fnM (by kernel_rfl) (by kernel_rfl) (by kernel_rfl) (f_need_pair hK N F_num)
  have M_come : FnM g (KK P) CC "come" 8 (sCome CC) := fnM (by kernel_rfl) (by kernel_rfl) (by kernel_rfl) (f_come hK N (M_nend.le (by decide)) (M_count.le (by decide)) M_hued)
  have M_go : FnM g (KK P) CC "go" 8 (sGo CC) := fnM (by kernel_rfl) (by kernel_rfl) (by kernel_rfl) (f_go hK N (M_npair.le (by decide)) (M_count.le (by decide)) M_hued)
  have M_pairs : FnM g (KK P) CC "pairs" 2 (sPairs CC) := fnM (by kernel_rfl) (by kernel_rfl) (by kernel_rfl) (f_pairs hK N)
  have M_ishue : FnM g (KK P) CC "is_hue" 5 (sIsHue CC) := fnM (by kernel_rfl) (by kernel_rfl) (by kernel_rfl) (f_is_hue hK N (F_num.le (by decide)) M_count)
  have M_ofhue : FnM g (KK P) CC "of_hue" 6 (sOfHue CC) := fnM (by kernel_rfl) (by kernel_rfl) (by kernel_rfl) (f_of_hue hK N M_ishue)
  have M_full : FnM g (KK P) CC "fullest" 5 (sFullest CC) := fnM (by kernel_rfl) (by kernel_rfl) (by kernel_rfl) (f_fullest hK N M_count (M_met.le (by decide)))
  have F_Hall : SndF g 4 (.ref CC) (tNew CC (sInit CC)) := sndF_new hK (by kernel_rfl) (by kernel_rfl) (by kernel_rfl) (f_init hK N F_num)
  have F_cell : FnG g "_law_cell_at" 2 sCellAt := fn_def (Kn h3 rfl (by kernel_rfl)) (hK 295 _ rfl) rfl (f_cell_at hK N).toF
  have F_mix : FnG g "_law_mixed" 2 sMixed := fn_def (Kn h3 rfl (by kernel_rfl)) (hK 302 _ rfl) rfl (f_mixed hK N).toF
  have F_sz : FnG g "_law_sizes_by" 2 sSizesBy := fn_def (Kn h3 rfl (by kernel_rfl)) (hK 316 _ rfl) rfl (f_sizes_by hK N).toF
  have F_ends : FnG g "_law_ends" 3 sEnds := fn_def (Kn h3 rfl (by kernel_rfl)) (hK 321 _ rfl) rfl (f_ends hK N).toF
  have F_deed : FnG g "_law_deed" 4 sDeed := fn_def (Kn h3 rfl (by kernel_rfl)) (hK 328 _ rfl) rfl (f_deed hK N F_ends).toF
  have F_meets : FnG g "_law_meets" 7 (sMeets CC) := fn_def (Kn h3 rfl (by kernel_rfl)) (hK 333 _ rfl) rfl (f_meets hK N (M_pairs.le (by decide)) (M_full.le (by decide))).toF
  have F_alive : FnG g "_law_alive" 8 (sAlive CC) := fn_def (Kn h3 rfl (by kernel_rfl)) (hK 338 _ rfl) rfl (f_alive hK N (M_count.le (by decide)) (M_ofhue.le (by decide)) F_meets).toF
  exact f_law hK N (F_Hall.le (by decide)) (F_cell.le (by decide)) (F_mix.le (by decide)) (F_sz.le (by decide)) (F_deed.le (by decide)) (F_alive.le (by decide)) (M_come.le (by decide)) (M_go.le (by decide)) (M_count.le (by decide)) (M_ofhue.le (by decide)) (M_pairs.le (by decide)) (M_full.le (by decide))
end
end Mine
open PySem PySem.W PyProof.Rows Mine
theorem PySem.Challenge.cw_uf040033_07_holds : PySem.Challenge.rw_uf040033_07.Holds := by
  refine holds_law Mine.said fun said => ?_
  refine PySem.W.holds_open (q := Mine.qq) (loose := Mine.LL) (Xt := fun s => xlAt Mine.qq [] s && recOk [] s) (XP := XL Mine.qq []) (Yf := Hook.obs Mine.HKK) (Ya := Hook.val Mine.HKK) (YP := Hook.says Mine.HKK) Mine.left (Hook.of Mine.HKK) (Hook.keeps Mine.HKK) (fun s e => xl_of s (Bool.and_eq_true_iff.mp e).1) XL.keeps (by rfl) (by rfl) (by rfl) (fun s e => recFacts_of (Bool.and_eq_true_iff.mp e).2) (by rfl) said (by decide +kernel) ⟨rfl, rfl, rfl, rfl, rfl, by decide +kernel⟩ ?hw ?hc
  case hw => w_witness2
  intro w s₀ s₁ mg mb G Y fa o pm cd doc dV kV ho hd hcd hD hmg hg args vals as hpre hlay hrd hwl hlo
  have KX := kIn_of Y
  refine Ground.open G ?_
  intro T B D TE TW
  try (refine guard_noD D (by decide +kernel) ?_; clear D)
  wrow_args hpre hlay hrd hwl hlo
  first | refine callC_kw (enter_call ?_) | refine enter_call ?_ | refine callC_kw (enter_callW ?_) | refine enter_callW ?_
  w_top on
  try refine codeAny_mono ?_ (fun _ _ g => GoodW.toG g)
  rename_i ns hs hlay0 hL1 hr1 hl2 as1 as2 l vs as3 hL ra w1 r0 hI hr hc1 hc2
  have hlen : ns.length ≤ 63 := by omega
  let g : Gr := ⟨PySem.Challenge.rw_uf040033_07.row.prog, w, s₁.heap, fun _ => False⟩
  have hK : (KK w.params).In g.b0 := KX
  have h3 := hK mainGlobals _ rfl
  obtain rfl : fa = 345 := fa_of (ns_at (n := Str.ofString "law") (v := .ref 345) T.g h3 rfl (by kernel_rfl)) hmg
  have N : NN g := names_of hK T.g T.b T.builtins
  have L := law_runs hK N fun h hd e => glo_of T.g h hd e
  have Gk : GOk g := ⟨T.nolimit, T.seer (by decide +kernel), rfl⟩
  have R0 : Rel g s₁.heap (fun _ => none) := ⟨fun _ h => h.elim, fun _ _ h => h, fun _ _ h => nomatch h⟩
  refine codeAny_mono (L.run callerA s₁ (fun _ => none) [.frz (ns.map V.int)] [.ref l] (fun v _ => v = .bool true) (fun _ _ => False) Gk ⟨[], rfl, trivial, fun _ h => nomatch h⟩ caller_room R0 (vr_script hL hI (by omega)) ⟨ns, rfl, hlen, fun _ => rfl⟩) fun r s' p => ?_
  match r, p with
  | .ok (.ret v), p =>
    obtain ⟨x, σ', hv, hR, hx, hsm, rfl⟩ := p
    rw [VR_bool.mp hv]
    exact ⟨.inl ⟨.bool true, .bool true, [], rfl, fun _ => rfl, .bool true, (by wrow_post), fun _ => ⟨List.nodup_nil, fun _ h => nomatch h⟩⟩, hR.base, hsm.2.1, hsm.1.trans hg⟩
  | .error e, p => obtain ⟨_, _, h, _⟩ := p; exact h.elim
