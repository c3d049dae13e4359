import PyProof.Rows.All
import Wide.All
import OpenK.AllK
import PyProof.DictRoads
import PyProof.DictRoadsH
import PyProof.DictIter
import PyProof.CompFree
import PyProof.ForAny
import PyProof.DefCall
import PyProof.RaisesMany
import PyProof.Rules3
import PyProof.Cells
import PyProof.NoPylong
import PyProof.Rows.TupAssign
import PyProof.WalksPairs
import PyProof.WalksMore
import PyProof.EnumStmt
import PyProof.DictWalks
import PyProof.RangeIter
import PyProof.PlainList
import PyProof.CompMap
import PyProof.CompUse
import PyProof.MinMaxWalk
import PyProof.WalkInts
import PyProof.IsiPairs
import PyProof.CallRoads
import PyProof.ListCopy
import PyProof.RangeFor
import PyProof.IsiHeapPairs
import PySem.Challenge.RW_uf040033_08
set_option Elab.async false
set_option linter.unusedVariables false
set_option linter.unusedSimpArgs false
open PySem
namespace Mine

/-- abstract values: what a Python value means, without tokens; tuples are plain data -/
inductive V where
  | none
  | bool (b : Bool)
  | int (i : Int)
  | str (x : Str)
  | ref (a : Addr)
  | tup (xs : List V)
  | frz (xs : List V)

/-- abstract objects -/
inductive AO where
  | list (xs : List V)
  | dictI (kvs : List (Int × V)) (ep : Nat)
  | dictS (kvs : List (Str × V)) (ep : Nat)
  | dictT (kvs : List (List Int × V)) (ep : Nat)
  | inst (C d : Addr)
  | attrs (kvs : List (Str × V))

abbrev AH := Addr → Option AO
abbrev Loc := String → Option V

def AH.set (σ : AH) (a : Addr) (o : AO) : AH := fun b => if b = a then some o else σ b
def Loc.set (ℓ : Loc) (i : String) (v : V) : Loc := fun j => if j = i then some v else ℓ j

/-- the ground: program, world, the heap in which the law is called -/
structure Gr where
  prog : Program
  w : World
  b0 : Heap
  /-- tuples that the interpreter keeps to itself: no value is one of them -/
  hid : Addr → Prop

/-- sizes that stay under every line of the model -/
def Fits (n : Nat) : Prop := n ≤ 1000000
theorem Fits.line {n : Nat} (h : Fits n) : n ≤ sizeLine := by unfold Fits at h; have : sizeLine = 16777216 := rfl; omega
theorem Fits.le {n m : Nat} (h : Fits n) (k : m ≤ n) : Fits m := Nat.le_trans k h
theorem Fits.fit {n : Nat} (h : Fits n) : (n : Int) < 2 ^ 63 := by unfold Fits at h; omega

mutual
/-- the value v bears the datum, in the heap h over the base b0 -/
def VR (g : Gr) (h : Heap) : V → Value → Prop
  | .none, v => v = .none
  | .bool b, v => v = .bool b
  | .int i, v => ∃ t, v = .int i t
  | .str x, v => Fits x.length ∧ ∃ t, v = .str x t
  | .ref a, v => v = .ref a
  | .tup xs, v => Fits xs.length ∧ ∃ a o vs n, v = .ref a ∧ ¬ g.hid a ∧ h.get? a = some o ∧ o.cls = .type "tuple" ∧ o.data = .seq vs n ∧ VRs g h xs vs.toList
  | .frz xs, v => Fits xs.length ∧ ∃ a o vs n, v = .ref a ∧ g.b0.get? a = some o ∧ o.cls = .type "list" ∧ o.data = .seq vs n ∧ VRs g h xs vs.toList
def VRs (g : Gr) (h : Heap) : List V → List Value → Prop
  | [], vs => vs = []
  | x :: xs, vs => ∃ v r, vs = v :: r ∧ VR g h x v ∧ VRs g h xs r
end

section
variable {g : Gr} {h h' : Heap}
theorem VR_none {v : Value} : VR g h .none v ↔ v = .none := by unfold VR; exact Iff.rfl
theorem VR_bool {b : Bool} {v : Value} : VR g h (.bool b) v ↔ v = .bool b := by unfold VR; exact Iff.rfl
theorem VR_int {i : Int} {v : Value} : VR g h (.int i) v ↔ ∃ t, v = .int i t := by unfold VR; exact Iff.rfl
theorem VR_str {x : Str} {v : Value} : VR g h (.str x) v ↔ Fits x.length ∧ ∃ t, v = .str x t := by unfold VR; exact Iff.rfl
theorem VR_ref {a : Addr} {v : Value} : VR g h (.ref a) v ↔ v = .ref a := by unfold VR; exact Iff.rfl
theorem VR_tup {xs : List V} {v : Value} : VR g h (.tup xs) v ↔ Fits xs.length ∧ ∃ a o vs n, v = .ref a ∧ ¬ g.hid a ∧ h.get? a = some o ∧ o.cls = .type "tuple" ∧ o.data = .seq vs n ∧ VRs g h xs vs.toList := by
  rw [VR]
theorem VR_frz {xs : List V} {v : Value} : VR g h (.frz xs) v ↔ Fits xs.length ∧ ∃ a o vs n, v = .ref a ∧ g.b0.get? a = some o ∧ o.cls = .type "list" ∧ o.data = .seq vs n ∧ VRs g h xs vs.toList := by
  rw [VR]
theorem VRs_nil : VRs g h [] [] := by unfold VRs; rfl
theorem VRs_cons {x : V} {xs : List V} {v : Value} {vs : List Value} (a : VR g h x v) (b : VRs g h xs vs) : VRs g h (x :: xs) (v :: vs) := by
  unfold VRs; exact ⟨v, vs, rfl, a, b⟩
theorem VRs_cons_inv {x : V} {xs : List V} {vs : List Value} (a : VRs g h (x :: xs) vs) : ∃ v r, vs = v :: r ∧ VR g h x v ∧ VRs g h xs r := by
  unfold VRs at a; exact a
theorem VRs_nil_inv {vs : List Value} (a : VRs g h [] vs) : vs = [] := by
  unfold VRs at a; exact a
theorem VRs_length : ∀ {xs : List V} {vs : List Value}, VRs g h xs vs → xs.length = vs.length
  | [], vs, a => by rw [VRs_nil_inv a]; rfl
  | x :: xs, vs, a => by obtain ⟨v, r, rfl, _, b⟩ := VRs_cons_inv a; simp [VRs_length b]
theorem VRs_get : ∀ {xs : List V} {vs : List Value}, VRs g h xs vs → ∀ {i : Nat} {x : V}, xs[i]? = some x → ∃ v, vs[i]? = some v ∧ VR g h x v
  | [], vs, a, i, x, e => by simp at e
  | y :: xs, vs, a, i, x, e => by
    obtain ⟨v, r, rfl, hv, b⟩ := VRs_cons_inv a
    cases i with
    | zero => simp at e; subst e; exact ⟨v, by simp, hv⟩
    | succ i => simp at e; obtain ⟨w, h1, h2⟩ := VRs_get b e; exact ⟨w, by simpa using h1, h2⟩
theorem VRs_append : ∀ {xs ys : List V} {vs us : List Value}, VRs g h xs vs → VRs g h ys us → VRs g h (xs ++ ys) (vs ++ us)
  | [], ys, vs, us, a, b => by rw [VRs_nil_inv a]; exact b
  | x :: xs, ys, vs, us, a, b => by obtain ⟨v, r, rfl, hv, c⟩ := VRs_cons_inv a; exact VRs_cons hv (VRs_append c b)
theorem VRs_snoc {xs : List V} {x : V} {vs : List Value} {v : Value} (a : VRs g h xs vs) (b : VR g h x v) : VRs g h (xs ++ [x]) (vs ++ [v]) :=
  VRs_append a (VRs_cons b VRs_nil)
theorem VRs_drop : ∀ {xs : List V} {vs : List Value} (n : Nat), VRs g h xs vs → VRs g h (xs.drop n) (vs.drop n)
  | xs, vs, 0, a => a
  | [], vs, n + 1, a => by rw [VRs_nil_inv a]; exact VRs_nil
  | x :: xs, vs, n + 1, a => by obtain ⟨v, r, rfl, hv, b⟩ := VRs_cons_inv a; exact VRs_drop n b
theorem VRs_take : ∀ {xs : List V} {vs : List Value} (n : Nat), VRs g h xs vs → VRs g h (xs.take n) (vs.take n)
  | xs, vs, 0, a => VRs_nil
  | [], vs, n + 1, a => by rw [VRs_nil_inv a]; exact VRs_nil
  | x :: xs, vs, n + 1, a => by obtain ⟨v, r, rfl, hv, b⟩ := VRs_cons_inv a; exact VRs_cons hv (VRs_take n b)
end

/-- an object is kept, but perhaps for its slots -/
def UpTo (h' : Heap) (a : Addr) (o : Obj) : Prop := h'.get? a = some o ∨ ∃ es n sl, o.data = .dict es n ∧ h'.get? a = some { o with slots := sl }
theorem UpTo.of {h' : Heap} {a : Addr} {o : Obj} (e : h'.get? a = some o) : UpTo h' a o := .inl e
theorem UpTo.sl {h' : Heap} {a : Addr} {o : Obj} (x : UpTo h' a o) : ∃ sl, h'.get? a = some { o with slots := sl } := by
  rcases x with e | ⟨_, _, sl, _, e⟩
  · exact ⟨o.slots, e⟩
  · exact ⟨sl, e⟩
/-- what is no table is kept as it is -/
theorem UpTo.exact {h' : Heap} {a : Addr} {o : Obj} (x : UpTo h' a o) (hd : ∀ es n, o.data ≠ .dict es n) : h'.get? a = some o := by
  rcases x with e | ⟨es, n, _, e, _⟩
  · exact e
  · exact absurd e (hd es n)
theorem UpTo.then {h' h'' : Heap} {a : Addr} {o : Obj} (x : UpTo h' a o) (k : ∀ o', h'.get? a = some o' → UpTo h'' a o') : UpTo h'' a o := by
  rcases x with e | ⟨es, n, sl, d, e⟩
  · exact k o e
  · obtain ⟨sl', e'⟩ := (k _ e).sl
    exact .inr ⟨es, n, sl', d, e'⟩

/-- tuples are kept -/
def TupsKept (g : Gr) (h h' : Heap) : Prop := ∀ a o vs n, ¬ g.hid a → h.get? a = some o → o.cls = .type "tuple" → o.data = .seq vs n → UpTo h' a o

mutual
theorem VR.mono {g : Gr} {h h' : Heap} (k : TupsKept g h h') : ∀ {x : V} {v : Value}, VR g h x v → VR g h' x v
  | .none, v, a => by rw [VR_none] at a ⊢; exact a
  | .bool b, v, a => by rw [VR_bool] at a ⊢; exact a
  | .int i, v, a => by rw [VR_int] at a ⊢; exact a
  | .str x, v, a => by rw [VR_str] at a ⊢; exact a
  | .ref b, v, a => by rw [VR_ref] at a ⊢; exact a
  | .tup xs, v, a => by
    rw [VR_tup] at a ⊢
    obtain ⟨hf, b, o, vs, n, e, nh, ho, hc, hd, r⟩ := a
    have ho' := (k _ _ _ _ nh ho hc hd).exact (by rw [hd]; intros; exact Data.noConfusion)
    exact ⟨hf, b, _, vs, n, e, nh, ho', hc, hd, VRs.mono k r⟩
  | .frz xs, v, a => by
    rw [VR_frz] at a ⊢
    obtain ⟨hf, b, o, vs, n, e, ho, hc, hd, r⟩ := a
    exact ⟨hf, b, o, vs, n, e, ho, hc, hd, VRs.mono k r⟩
theorem VRs.mono {g : Gr} {h h' : Heap} (k : TupsKept g h h') : ∀ {xs : List V} {vs : List Value}, VRs g h xs vs → VRs g h' xs vs
  | [], vs, a => by rw [VRs_nil_inv a]; exact VRs_nil
  | x :: xs, vs, a => by
    obtain ⟨v, r, rfl, hv, c⟩ := VRs_cons_inv a
    exact VRs_cons (VR.mono k hv) (VRs.mono k c)
end

/-- a dict keyed by tuples of ints, its epoch told -/
def DictAtT (g : Gr) (h : Heap) (d : Addr) (xs : List (List Int × Addr × Value)) (ep : Nat) : Prop :=
  ∃ o es, h.get? d = some o ∧ o.ExactDict ∧ o.data = .dict es ep ∧ es.toList = xs.map (entryOfKey (tupleKind (intKind g.prog g.w))) ∧ (∀ x ∈ xs, ¬ g.hid x.2.1 ∧ IsTupleKey (intKind g.prog g.w) h x.1 x.2.1) ∧ (xs.map (·.1)).Nodup

/-- the object at a bears the abstract object -/
def OR (g : Gr) (h : Heap) (a : Addr) : AO → Prop
  | .list xs => Fits xs.length ∧ ∃ vs n, h.get? a = some { cls := .type "list", data := .seq vs n } ∧ VRs g h xs vs.toList
  | .dictI kvs ep => Fits kvs.length ∧ ∃ us, h.DictAt (intKind g.prog g.w) a us ep ∧ us.map (·.1) = kvs.map (·.1) ∧ VRs g h (kvs.map (·.2)) (us.map (·.2))
  | .dictS kvs ep => Fits kvs.length ∧ ∃ us, h.DictAt (strKind g.prog g.w) a us ep ∧ us.map (·.1) = kvs.map (·.1) ∧ VRs g h (kvs.map (·.2)) (us.map (·.2))
  | .dictT kvs ep => Fits kvs.length ∧ ∃ us, DictAtT g h a us ep ∧ us.map (·.1) = kvs.map (·.1) ∧ VRs g h (kvs.map (·.2)) (us.map (·.2.2))
  | .inst C d => h.get? a = some { cls := .ref C, dict := some d, data := .plain }
  | .attrs kvs => ∃ es n, h.get? a = some { cls := .type "dict", data := .dict es n } ∧ StrKeys es ∧ ∀ x v, kvs.lookup x = some v → ∃ u, nsFind es x = some u ∧ VR g h v u

theorem OR_some {g : Gr} {h : Heap} {a : Addr} {ao : AO} (x : OR g h a ao) : ∃ o, h.get? a = some o ∧ o.cls ≠ .type "tuple" := by
  cases ao with
  | list xs => obtain ⟨_, vs, n, e, _⟩ := x; exact ⟨_, e, by simp⟩
  | dictI kvs ep => obtain ⟨_, us, ⟨o, es, ho, hc, _⟩, _⟩ := x; exact ⟨o, ho, by rw [hc.1]; decide⟩
  | dictS kvs ep => obtain ⟨_, us, ⟨o, es, ho, hc, _⟩, _⟩ := x; exact ⟨o, ho, by rw [hc.1]; decide⟩
  | dictT kvs ep => obtain ⟨_, us, ⟨o, es, ho, hc, _⟩, _⟩ := x; exact ⟨o, ho, by rw [hc.1]; decide⟩
  | inst C d => exact ⟨_, x, by simp⟩
  | attrs kvs => obtain ⟨es, n, e, _⟩ := x; exact ⟨_, e, by simp⟩

theorem tupleKey_mono {g : Gr} {h h' : Heap} (k : TupsKept g h h') {ks : List Int} {a : Addr} (nh : ¬ g.hid a) (x : IsTupleKey (intKind g.prog g.w) h ks a) : IsTupleKey (intKind g.prog g.w) h' ks a := by
  obtain ⟨o, items, n, ho, hc, hd, hi⟩ := x
  have ho' := (k _ _ _ _ nh ho hc hd).exact (by rw [hd]; intros; exact Data.noConfusion)
  exact ⟨_, items, n, ho', hc, hd, hi⟩

/-- an object that stands as it stood keeps its abstract object, where tuples are kept -/
theorem OR_mono {g : Gr} {h h' : Heap} {a : Addr} {ao : AO} (k : TupsKept g h h') (e : ∀ o, h.get? a = some o → h'.get? a = some o) (x : OR g h a ao) : OR g h' a ao := by
  cases ao with
  | list xs => obtain ⟨hf, vs, n, ho, r⟩ := x; exact ⟨hf, vs, n, e _ ho, VRs.mono k r⟩
  | dictI kvs ep => obtain ⟨hf, us, ⟨o, es, ho, r⟩, q, p⟩ := x; exact ⟨hf, us, ⟨o, es, e _ ho, r⟩, q, VRs.mono k p⟩
  | dictS kvs ep => obtain ⟨hf, us, ⟨o, es, ho, r⟩, q, p⟩ := x; exact ⟨hf, us, ⟨o, es, e _ ho, r⟩, q, VRs.mono k p⟩
  | dictT kvs ep => obtain ⟨hf, us, ⟨o, es, ho, h1, h2, h3, h4, h5⟩, q, p⟩ := x; exact ⟨hf, us, ⟨o, es, e _ ho, h1, h2, h3, fun y hy => ⟨(h4 y hy).1, tupleKey_mono k (h4 y hy).1 (h4 y hy).2⟩, h5⟩, q, VRs.mono k p⟩
  | inst C d => exact e _ x
  | attrs kvs => obtain ⟨es, n, ho, hs, r⟩ := x; exact ⟨es, n, e _ ho, hs, fun y v q => let ⟨u, h1, h2⟩ := r y v q; ⟨u, h1, VR.mono k h2⟩⟩

/-- the heap bears the abstract heap; what stood at the call stands -/
structure Rel (g : Gr) (h : Heap) (σ : AH) : Prop where
  hid : ∀ a, g.hid a → ∃ o, h.get? a = some o
  base : ∀ a o, g.b0.get? a = some o → h.get? a = some o
  own : ∀ a ao, σ a = some ao → g.b0.get? a = none ∧ OR g h a ao

/-- what a step may do: what is not owned (nor in W) is kept but for slots; nothing is freed; what is owned behind was owned or is new -/
structure Ext (W : Addr → Prop) (h : Heap) (σ : AH) (h' : Heap) (σ' : AH) : Prop where
  keep : ∀ a o, h.get? a = some o → σ a = none → ¬ W a → UpTo h' a o
  pres : ∀ a o, h.get? a = some o → ∃ o', h'.get? a = some o'
  dom : ∀ a, σ' a ≠ none → σ a ≠ none ∨ h.get? a = none

abbrev No : Addr → Prop := fun _ => False

theorem Ext.refl {W : Addr → Prop} {h : Heap} {σ : AH} : Ext W h σ h σ :=
  ⟨fun _ _ e _ _ => .of e, fun _ o e => ⟨o, e⟩, fun _ e => .inl e⟩
theorem Ext.off {W : Addr → Prop} {h h' : Heap} {σ σ' : AH} (x : Ext W h σ h' σ') {a : Addr} {o : Obj} (e : h.get? a = some o) (n : σ a = none) : σ' a = none := by
  cases q : σ' a with
  | none => rfl
  | some _ =>
    rcases x.dom a (by rw [q]; simp) with z | z
    · exact absurd n z
    · rw [e] at z; cases z
theorem Ext.trans {W : Addr → Prop} {h h' h'' : Heap} {σ σ' σ'' : AH} (x : Ext W h σ h' σ') (y : Ext W h' σ' h'' σ'') : Ext W h σ h'' σ'' := by
  refine ⟨fun a o e n w => ?_, fun a o e => ?_, fun a q => ?_⟩
  · exact (x.keep a o e n w).then fun o' e' => y.keep a o' e' (x.off e n) w
  · obtain ⟨o', e'⟩ := x.pres a o e; exact y.pres a o' e'
  · rcases y.dom a q with z | z
    · exact x.dom a z
    · cases e : h.get? a with
      | none => exact .inr rfl
      | some o => obtain ⟨o', e'⟩ := x.pres a o e; rw [e'] at z; cases z
theorem Ext.weaken {W W' : Addr → Prop} {h h' : Heap} {σ σ' : AH} (x : Ext W h σ h' σ') (k : ∀ a, W a → W' a) : Ext W' h σ h' σ' :=
  ⟨fun a o e n w => x.keep a o e n fun q => w (k a q), x.pres, x.dom⟩
/-- at these addresses lies no sequence -/
def NoSeq (W : Addr → Prop) (h : Heap) : Prop := ∀ a o, W a → h.get? a = some o → ∀ vs n, o.data ≠ .seq vs n
/-- tuples are kept by a step -/
theorem Ext.tuples {g : Gr} {W : Addr → Prop} {h h' : Heap} {σ σ' : AH} (x : Ext W h σ h' σ') (R : Rel g h σ) (hw : NoSeq W h) : TupsKept g h h' := fun a o vs n _ e c d => by
  refine x.keep a o e ?_ fun w => hw a o w e vs n d
  cases q : σ a with
  | none => rfl
  | some ao => obtain ⟨o', e', c'⟩ := OR_some (R.own a ao q).2; rw [e] at e'; cases e'; exact absurd c c'
theorem Ext.vr {g : Gr} {W : Addr → Prop} {h h' : Heap} {σ σ' : AH} (x : Ext W h σ h' σ') (R : Rel g h σ) (hw : NoSeq W h) {v : V} {u : Value} (k : VR g h v u) : VR g h' v u :=
  VR.mono (x.tuples R hw) k
theorem Ext.vrs {g : Gr} {W : Addr → Prop} {h h' : Heap} {σ σ' : AH} (x : Ext W h σ h' σ') (R : Rel g h σ) (hw : NoSeq W h) {v : List V} {u : List Value} (k : VRs g h v u) : VRs g h' v u :=
  VRs.mono (x.tuples R hw) k
theorem noSeq_no {h : Heap} : NoSeq No h := fun _ _ n => n.elim

/-- forgetting: fewer objects are told -/
theorem Rel.forget {g : Gr} {h : Heap} {σ σ' : AH} (R : Rel g h σ) (k : ∀ a o, σ' a = some o → σ a = some o) : Rel g h σ' :=
  ⟨R.hid, R.base, fun a ao e => R.own a ao (k a ao e)⟩
theorem Ext.forget {W : Addr → Prop} {h h' : Heap} {σ σ' σ'' : AH} (x : Ext W h σ h' σ') (k : ∀ a o, σ'' a = some o → σ' a = some o) : Ext W h σ h' σ'' :=
  ⟨x.keep, x.pres, fun a q => x.dom a (by
    cases e : σ'' a with
    | none => exact absurd e q
    | some o => rw [k a o e]; simp)⟩

/-- a step that keeps all (allocations of unowned things) -/
theorem Rel.keeps {g : Gr} {h h' : Heap} {σ : AH} (R : Rel g h σ) (k : ∀ a o, h.get? a = some o → h'.get? a = some o) : Rel g h' σ :=
  ⟨fun a ha => let ⟨o, e⟩ := R.hid a ha; ⟨o, k a o e⟩, fun a o e => k a o (R.base a o e), fun a ao e => ⟨(R.own a ao e).1, OR_mono (fun a o _ _ _ e _ _ => .of (k a o e)) (k a) (R.own a ao e).2⟩⟩
theorem Ext.keeps {W : Addr → Prop} {h h' : Heap} {σ : AH} (k : ∀ a o, h.get? a = some o → h'.get? a = some o) : Ext W h σ h' σ :=
  ⟨fun a o e _ _ => .of (k a o e), fun a o e => ⟨o, k a o e⟩, fun _ e => .inl e⟩
theorem push_keeps (h : Heap) (o' : Obj) : ∀ a o, h.get? a = some o → (h.push o').get? a = some o := fun _ _ e => Heap.get?_push_of_some _ e

/-- a new owned object -/
theorem Rel.alloc {g : Gr} {h h' : Heap} {σ : AH} {a : Addr} {ao : AO} (R : Rel g h σ) (k : ∀ a o, h.get? a = some o → h'.get? a = some o) (hn : h.get? a = none) (x : OR g h' a ao) : Rel g h' (σ.set a ao) := by
  refine ⟨fun a ha => let ⟨o, e⟩ := R.hid a ha; ⟨o, k a o e⟩, fun b o e => k b o (R.base b o e), fun b bo e => ?_⟩
  unfold AH.set at e
  split at e
  · rename_i q; subst q; cases e
    refine ⟨?_, x⟩
    cases q : g.b0.get? b with
    | none => rfl
    | some o => rw [R.base b o q] at hn; cases hn
  · exact (R.keeps k).own b bo e
theorem Ext.alloc {W : Addr → Prop} {h h' : Heap} {σ : AH} {a : Addr} {ao : AO} (k : ∀ a o, h.get? a = some o → h'.get? a = some o) (hn : h.get? a = none) : Ext W h σ h' (σ.set a ao) :=
  ⟨fun a o e _ _ => .of (k a o e), fun a o e => ⟨o, k a o e⟩, fun b q => by
    unfold AH.set at q
    by_cases z : b = a
    · subst z; exact .inr hn
    · rw [if_neg z] at q; exact .inl q⟩
/-- an owned object is changed -/
theorem Rel.upd {g : Gr} {h h' : Heap} {σ : AH} {a : Addr} {ao ao' : AO} (R : Rel g h σ) (e : σ a = some ao) (k : Heap.SameBut a h h') (x : OR g h' a ao') : Rel g h' (σ.set a ao') := by
  have pr : ∃ o, h'.get? a = some o := let ⟨o, q, _⟩ := OR_some x; ⟨o, q⟩
  have ho := R.own a ao e
  obtain ⟨o₀, e₀, c₀⟩ := OR_some ho.2
  refine ⟨fun b hb => ?_, fun b o q => (k.2 b fun z => ?_).trans (R.base b o q), fun b bo q => ?_⟩
  · by_cases z : b = a
    · rw [z]; exact pr
    · obtain ⟨o, q⟩ := R.hid b hb; exact ⟨o, (k.2 b z).trans q⟩
  · subst z; rw [ho.1] at q; cases q
  · unfold AH.set at q
    split at q
    · rename_i z; subst z; cases q; exact ⟨ho.1, x⟩
    · rename_i z
      refine ⟨(R.own b bo q).1, OR_mono (fun c o _ _ _ y t _ => .of ((k.2 c fun w => ?_).trans y)) (fun o y => (k.2 b z).trans y) (R.own b bo q).2⟩
      subst w; rw [e₀] at y; cases y; exact c₀ t
theorem Ext.upd {W : Addr → Prop} {h h' : Heap} {σ : AH} {a : Addr} {ao ao' : AO} (e : σ a = some ao) (k : Heap.SameBut a h h') (p : ∃ o, h'.get? a = some o) : Ext W h σ h' (σ.set a ao') := by
  refine ⟨fun b o q n _ => .of ((k.2 b fun z => ?_).trans q), fun b o q => ?_, fun b q => ?_⟩
  · subst z; rw [e] at n; cases n
  · by_cases z : b = a
    · subst z; exact p
    · exact ⟨o, (k.2 b z).trans q⟩
  · unfold AH.set at q
    by_cases z : b = a
    · subst z; rw [e]; simp
    · rw [if_neg z] at q; exact .inl q
theorem Rel.owned_some {g : Gr} {h : Heap} {σ : AH} (R : Rel g h σ) {a : Addr} {ao : AO} (e : σ a = some ao) : ∃ o, h.get? a = some o := let ⟨o, h1, _⟩ := OR_some (R.own a ao e).2; ⟨o, h1⟩
theorem Rel.fresh {g : Gr} {h : Heap} {σ : AH} (R : Rel g h σ) {a : Addr} (e : h.get? a = none) : σ a = none := by
  cases q : σ a with
  | none => rfl
  | some ao => obtain ⟨o, z⟩ := R.owned_some q; rw [e] at z; cases z
theorem size_fresh (h : Heap) : h.get? h.objs.size = none := Heap.get?_none_of_le (Nat.le_refl _)
end Mine

open PySem
namespace Mine

/-- a block's environment: its names are of the kinds that its scope says (a free name may stand as a cell) -/
structure EnvOk (sc : Scope) (env : Env) : Prop where
  kinds : ∀ x k, (x, k) ∈ sc.names → env.kindOf x = some k ∨ (k = .free ∧ env.kindOf x = some .cell)
  plain : ∀ x k, (x, k) ∈ sc.names → (x == ("__debug__" : Str)) = false ∧ (x == ("__classdict__" : Str)) = false
  kind : env.scope.kind = .function
  globals : env.globals = mainGlobals
  builtins : env.builtins = builtinsNs

/-- the block's names bear the abstract locals -/
structure LR (g : Gr) (h : Heap) (σ : AH) (env : Env) (ℓ : Loc) : Prop where
  ns : ∃ m, h.Ns env.locals m ∧ ∀ n v, ℓ n = some v → env.kindOf (Str.ofString n) = some .local → ∃ u, m (Str.ofString n) = some u ∧ VR g h v u
  cell : ∀ x c, env.cells.lookup x = some c → ∃ o u, h.get? c = some o ∧ o.data = .cell u
  cells : ∀ n v, ℓ n = some v → (env.kindOf (Str.ofString n) = some .cell ∨ env.kindOf (Str.ofString n) = some .free) → ∃ c u, env.cells.lookup (Str.ofString n) = some c ∧ h.IsCell c (some u) ∧ VR g h v u
  off : σ env.locals = none ∧ g.b0.get? env.locals = none
  offc : ∀ x c, env.cells.lookup x = some c → σ c = none ∧ c ≠ env.locals ∧ g.b0.get? c = none
  apart : ∀ x y c, env.cells.lookup x = some c → env.cells.lookup y = some c → x = y
  has : ∀ x, env.kindOf x = some .cell ∨ env.kindOf x = some .free → ∃ c, env.cells.lookup x = some c

/-- the frames on the stack stand (wanted where something is raised) -/
def FrOk (g : Gr) (A : Around) (env : Env) (h : Heap) (σ : AH) : Prop :=
  ∃ e0 outer, A.frames = some (e0 :: outer) ∧ e0.frame = env.frame ∧ h.FunFrames g.b0 (e0 :: outer) ∧ (∀ e ∈ e0 :: outer, ∀ f, e.frame = some f → σ f = none) ∧
    e0.scope.isGenerator = false ∧ e0.scope.isCoroutine = false ∧ e0.builtins = builtinsNs ∧ e0.globals = mainGlobals

/-- what holds of the ground -/
structure GOk (g : Gr) : Prop where
  nolimit : g.b0.NoLimit
  seer : g.b0.NoSeer
  tree : g.prog.given.tree = none

structure Room (A : Around) (r : Nat) (c : Bool) : Prop where
  depth : A.depth + 2 * r + 110 < recursionLimit
  units : A.units + 20 * r + 100 < cLine
  calm : c = true → A.handled = none

theorem Room.le {A : Around} {r r' : Nat} {c : Bool} (x : Room A r c) (h : r' ≤ r) : Room A r' c :=
  ⟨by have := x.depth; omega, by have := x.units; omega, x.calm⟩
theorem Room.deeper {A : Around} {r : Nat} {c : Bool} (x : Room A (r + 1) c) (env : Env) : Room (A.deeper env) r c :=
  ⟨by have := x.depth; show A.depth + 1 + 2 * r + 110 < _; omega, by have := x.units; show A.units + 3 + 20 * r + 100 < _; omega, x.calm⟩
theorem Room.mark {A : Around} {r : Nat} {c : Bool} (x : Room A r c) : Room (A.mark none) r c := ⟨x.depth, x.units, fun h => by show (none : Option Value).or A.handled = none; rw [x.calm h]; rfl⟩
theorem Room.room {A : Around} {r : Nat} {c : Bool} (x : Room A r c) : A.depth < recursionLimit := by have := x.depth; omega
theorem Room.cline {A : Around} {r : Nat} {c : Bool} (x : Room A r c) : A.units + 50 < cLine := by have := x.units; omega

structure Cx (g : Gr) (sc : Scope) (r : Nat) (c : Bool) (A : Around) (env : Env) (h : Heap) (σ : AH) (ℓ : Loc) : Prop where
  gok : GOk g
  ok : EnvOk sc env
  loc : LR g h σ env ℓ
  fr : FrOk g A env h σ
  room : Room A r c
  rel : Rel g h σ

/-- the parts of the state that no step turns -/
def Same (s s' : Shared) : Prop := s'.gens = s.gens ∧ s'.os = s.os ∧ s'.drawn = s.drawn
theorem Same.refl {s : Shared} : Same s s := ⟨rfl, rfl, rfl⟩
theorem Same.trans {s s' s'' : Shared} (x : Same s s') (y : Same s' s'') : Same s s'' := ⟨y.1.trans x.1, y.2.1.trans x.2.1, y.2.2.trans x.2.2⟩

theorem ns_upTo {h h' : Heap} {a : Addr} {m : Str → Option Value} (n : h.Ns a m) (k : ∀ o, h.get? a = some o → UpTo h' a o) : h'.Ns a m := by
  obtain ⟨o, es, ep, ho, hd, r⟩ := n
  obtain ⟨sl, e⟩ := (k o ho).sl
  exact ⟨_, es, ep, e, hd, r⟩
theorem cell_upTo {h h' : Heap} {a : Addr} {v : Option Value} (n : h.IsCell a v) (k : ∀ o, h.get? a = some o → UpTo h' a o) : h'.IsCell a v := by
  obtain ⟨o, ho, hd⟩ := n
  obtain ⟨sl, e⟩ := (k o ho).sl
  exact ⟨_, e, hd⟩

theorem LR.step {g : Gr} {h h' : Heap} {σ σ' : AH} {env : Env} {ℓ : Loc} (L : LR g h σ env ℓ) (R : Rel g h σ) (x : Ext No h σ h' σ') : LR g h' σ' env ℓ := by
  have kv : ∀ {v : V} {u : Value}, VR g h v u → VR g h' v u := x.vr R noSeq_no
  obtain ⟨m, hn, hm⟩ := L.ns
  have hl : ∀ o, h.get? env.locals = some o → UpTo h' env.locals o := fun o e => x.keep _ o e L.off.1 id
  refine ⟨⟨m, ns_upTo hn hl, fun y v a b => let ⟨u, e, f⟩ := hm y v a b; ⟨u, e, kv f⟩⟩, fun y c e => ?_, fun y v a k => ?_, ⟨?_, L.off.2⟩, fun y c e => ⟨?_, (L.offc y c e).2⟩, L.apart, L.has⟩
  · obtain ⟨o, u, ho, hd⟩ := L.cell y c e
    obtain ⟨sl, ho'⟩ := (x.keep _ o ho (L.offc y c e).1 id).sl
    exact ⟨_, u, ho', hd⟩
  · obtain ⟨c, u, e, ho, hv⟩ := L.cells y v a k
    exact ⟨c, u, e, cell_upTo ho fun o z => x.keep _ o z (L.offc _ c e).1 id, kv hv⟩
  · obtain ⟨o, es, ep, ho, _⟩ := hn; exact x.off ho L.off.1
  · obtain ⟨o, u, ho, hd⟩ := L.cell y c e
    exact x.off ho (L.offc y c e).1

theorem FrOk.step {g : Gr} {A : Around} {env : Env} {W : Addr → Prop} {h h' : Heap} {σ σ' : AH} (F : FrOk g A env h σ) (x : Ext W h σ h' σ') (hw : ∀ a o, W a → h.get? a = some o → (∀ vs, o.data ≠ .fields vs) → ∃ o', h'.get? a = some o' ∧ ∀ vs, o'.data ≠ .fields vs) : FrOk g A env h' σ' := by
  obtain ⟨e0, outer, hA, hf, ff, off, rest⟩ := F
  have key : ∀ l : List Env, h.FunFrames g.b0 l → (∀ e ∈ l, ∀ f, e.frame = some f → σ f = none) → h'.FunFrames g.b0 l ∧ ∀ e ∈ l, ∀ f, e.frame = some f → σ' f = none := by
    intro l
    induction l with
    | nil => exact fun _ _ => ⟨trivial, fun _ z => nomatch z⟩
    | cons e r ih =>
      rintro ⟨hk, ⟨L, o, hfL, hb, ho, hd⟩, hr⟩ hoff
      obtain ⟨i1, i2⟩ := ih hr fun e' he' => hoff e' (.tail _ he')
      have hs : σ L = none := hoff e (.head _) L hfL
      have hx : ∃ o', h'.get? L = some o' ∧ ∀ vs, o'.data ≠ .fields vs := by
        by_cases w : W L
        · exact hw L o w ho hd
        · obtain ⟨sl, e'⟩ := (x.keep L o ho hs w).sl; exact ⟨_, e', hd⟩
      obtain ⟨o', ho', hd'⟩ := hx
      refine ⟨⟨hk, ⟨L, o', hfL, hb, ho', hd'⟩, i1⟩, fun e' he' f hf' => ?_⟩
      cases he' with
      | head => rw [hfL] at hf'; cases hf'; exact x.off ho hs
      | tail _ q => exact i2 e' q f hf'
  obtain ⟨k1, k2⟩ := key _ ff off
  exact ⟨e0, outer, hA, hf, k1, k2, rest⟩

theorem Cx.step {g : Gr} {sc : Scope} {r : Nat} {c : Bool} {A : Around} {env : Env} {h h' : Heap} {σ σ' : AH} {ℓ : Loc} (X : Cx g sc r c A env h σ ℓ) (R : Rel g h' σ') (x : Ext No h σ h' σ') : Cx g sc r c A env h' σ' ℓ :=
  ⟨X.gok, X.ok, X.loc.step X.rel x, X.fr.step x (fun _ _ n => n.elim), X.room, R⟩

/-- an exception of class C is under way -/
def XAt (_g : Gr) (_A : Around) (_h : Heap) (_e : Value) (_C : Addr) (_σ : AH) : Prop := False

def PostX (g : Gr) (A : Around) (s : Shared) (σ : AH) (E : Addr → AH → Prop) (e : Value) (s' : Shared) : Prop :=
  ∃ C σ', XAt g A s'.heap e C σ' ∧ Rel g s'.heap σ' ∧ Ext No s.heap σ s'.heap σ' ∧ Same s s' ∧ E C σ'
/-- what is behind the evaluation of a thing: R tells how the model's result bears the abstract one -/
def Post {α β : Type} (g : Gr) (R : Heap → β → α → Prop) (s : Shared) (σ : AH) (Q : β → AH → Prop) (v : α) (s' : Shared) : Prop :=
  ∃ x σ', R s'.heap x v ∧ Rel g s'.heap σ' ∧ Ext No s.heap σ s'.heap σ' ∧ Same s s' ∧ Q x σ'
abbrev PostE (g : Gr) := Post g (fun h => VR g h)
abbrev PostB (g : Gr) := Post g (fun _ (x : Bool) (v : Bool) => x = v)
abbrev PostL (g : Gr) := Post g (fun h => VRs g h)

abbrev TE := Loc → AH → (V → AH → Prop) → (Addr → AH → Prop) → Prop
abbrev TB := Loc → AH → (Bool → AH → Prop) → (Addr → AH → Prop) → Prop
abbrev TL := Loc → AH → (List V → AH → Prop) → (Addr → AH → Prop) → Prop

section
variable {α β : Type} {g : Gr} {R : Heap → β → α → Prop} {A : Around} {s s₁ : Shared} {σ σ₁ : AH} {Q : β → AH → Prop} {E : Addr → AH → Prop}
theorem Post.back (x : Ext No s.heap σ s₁.heap σ₁) (y : Same s s₁) {v : α} {s' : Shared} (p : Post g R s₁ σ₁ Q v s') : Post g R s σ Q v s' :=
  let ⟨z, σ', h1, h2, h3, h4, h5⟩ := p; ⟨z, σ', h1, h2, x.trans h3, y.trans h4, h5⟩
theorem PostX.back (x : Ext No s.heap σ s₁.heap σ₁) (y : Same s s₁) {v : Value} {s' : Shared} (p : PostX g A s₁ σ₁ E v s') : PostX g A s σ E v s' :=
  let ⟨z, σ', h1, h2, h3, h4, h5⟩ := p; ⟨z, σ', h1, h2, x.trans h3, y.trans h4, h5⟩
theorem wp_back {M : Model} {t : Sem α} (x : Ext No s.heap σ s₁.heap σ₁) (y : Same s s₁) (h : wpAny M A t (Post g R s₁ σ₁ Q) (PostX g A s₁ σ₁ E) s₁) : wpAny M A t (Post g R s σ Q) (PostX g A s σ E) s₁ :=
  wpAny_mono h (fun _ _ p => p.back x y) fun _ _ p => p.back x y
/-- the state is the one at hand -/
theorem Post.here {x : β} {v : α} (h1 : R s.heap x v) (h2 : Rel g s.heap σ) (h3 : Q x σ) : Post g R s σ Q v s := ⟨x, σ, h1, h2, .refl, .refl, h3⟩
/-- only a token was drawn, or things were made that nobody owns -/
theorem Post.keeps {x : β} {v : α} {s' : Shared} (k : ∀ a o, s.heap.get? a = some o → s'.heap.get? a = some o) (y : Same s s') (h1 : R s'.heap x v) (h2 : Rel g s.heap σ) (h3 : Q x σ) : Post g R s σ Q v s' :=
  ⟨x, σ, h1, h2.keeps k, .keeps k, y, h3⟩
end

section
variable (g : Gr) (sc : Scope) (r : Nat) (c : Bool)
structure SndE (e : Expr) (t : TE) : Prop where
  run : ∀ A env s ℓ σ Q E, Cx g sc r c A env s.heap σ ℓ → t ℓ σ Q E → wpAny (model g.prog g.w) A (eval e env) (PostE g s σ Q) (PostX g A s σ E) s
structure SndB (e : Expr) (t : TB) : Prop where
  run : ∀ A env s ℓ σ Q E, Cx g sc r c A env s.heap σ ℓ → t ℓ σ Q E → wpAny (model g.prog g.w) A (isTrue e env (eval e env)) (PostB g s σ Q) (PostX g A s σ E) s
structure SndL (es : List Expr) (t : TL) : Prop where
  run : ∀ A env pos s ℓ σ Q E, Cx g sc r c A env s.heap σ ℓ → t ℓ σ Q E → wpAny (model g.prog g.w) A (spliced (backTo pos (starEach es env))) (PostL g s σ Q) (PostX g A s σ E) s
end

section
variable {g : Gr} {sc : Scope} {r : Nat} {c : Bool} {α β γ δ : Type} {R : Heap → β → α → Prop} {R' : Heap → δ → γ → Prop} {A : Around} {env : Env} {s : Shared} {ℓ : Loc} {σ : AH} {Q : β → AH → Prop} {Q' : δ → AH → Prop} {E : Addr → AH → Prop}
/-- one thing, then what hangs on it -/
theorem Cx.then {m : Sem γ} {f : γ → Sem α} (X : Cx g sc r c A env s.heap σ ℓ) (h : wpAny (model g.prog g.w) A m (Post g R' s σ Q') (PostX g A s σ E) s)
    (k : ∀ v x s₁ σ₁, R' s₁.heap x v → Cx g sc r c A env s₁.heap σ₁ ℓ → Ext No s.heap σ s₁.heap σ₁ → Q' x σ₁ → wpAny (model g.prog g.w) A (f v) (Post g R s₁ σ₁ Q) (PostX g A s₁ σ₁ E) s₁) :
    wpAny (model g.prog g.w) A m (fun v s₁ => wpAny (model g.prog g.w) A (f v) (Post g R s σ Q) (PostX g A s σ E) s₁) (PostX g A s σ E) s :=
  wpAny_mono h (fun v s₁ p => let ⟨x, σ₁, h1, h2, h3, h4, h5⟩ := p; wp_back h3 h4 (k v x s₁ σ₁ h1 (X.step h2 h3) h3 h5)) fun _ _ p => p
end
end Mine

open PySem PyProof.Rows
namespace Mine
variable {g : Gr} {sc : Scope} {r : Nat} {c : Bool}

/-! ## constants and names -/
def tConst (v : V) : TE := fun _ σ Q _ => Q v σ
def tName (i : String) : TE := fun ℓ σ Q _ => match ℓ i with | some v => Q v σ | none => False

theorem sndE_int {i : Int} {k : Nat} {pos : Pos} : SndE g sc r c (.Constant (.int i) k pos) (tConst (.int i)) := .mk fun A env s ℓ σ Q E X h =>
  wpAny_Constant_int (.keeps (s' := { s with toks := s.toks + 1 }) (fun _ _ e => e) ⟨rfl, rfl, rfl⟩ (VR_int.mpr ⟨_, rfl⟩) X.rel h)
theorem sndE_str {x : Str} {k : Nat} {pos : Pos} (hx : Fits x.length) : SndE g sc r c (.Constant (.str x) k pos) (tConst (.str x)) := .mk fun A env s ℓ σ Q E X h =>
  wpAny_Constant_str (.keeps (s' := { s with toks := s.toks + 1 }) (fun _ _ e => e) ⟨rfl, rfl, rfl⟩ (VR_str.mpr ⟨hx, _, rfl⟩) X.rel h)
theorem sndE_none {k : Nat} {pos : Pos} : SndE g sc r c (.Constant .none k pos) (tConst .none) := .mk fun A env s ℓ σ Q E X h =>
  wpAny_Constant_none (.here (VR_none.mpr rfl) X.rel h)
theorem sndE_bool {b : Bool} {k : Nat} {pos : Pos} : SndE g sc r c (.Constant (.bool b) k pos) (tConst (.bool b)) := .mk fun A env s ℓ σ Q E X h =>
  wpAny_Constant_bool (.here (VR_bool.mpr rfl) X.rel h)

def isVar (k : NameKind) : Bool := k == .local || k == .cell || k == .free
theorem sndE_name {n : String} {pos : Pos} {k : NameKind} (hm : (Str.ofString n, k) ∈ sc.names) (hk : isVar k = true) : SndE g sc r c (.Name (Str.ofString n) pos) (tName n) := .mk fun A env s ℓ σ Q E X h => by
  unfold tName at h
  split at h
  · rename_i v hv
    have hp := X.ok.plain _ _ hm
    have loc : env.kindOf (Str.ofString n) = some .local → wpAny (model g.prog g.w) A (loadName env (Str.ofString n)) (PostE g s σ Q) (PostX g A s σ E) s := fun q => by
      obtain ⟨m, hn, hm⟩ := X.loc.ns
      obtain ⟨u, e, hu⟩ := hm n v hv q
      exact wpAny_loadName_local X.ok.kind q hn e (.here hu X.rel h)
    have cel : env.kindOf (Str.ofString n) = some .cell → wpAny (model g.prog g.w) A (loadName env (Str.ofString n)) (PostE g s σ Q) (PostX g A s σ E) s := fun q => by
      obtain ⟨cc, u, e, ho, hu⟩ := X.loc.cells n v hv (.inl q)
      exact wpAny_loadName_cell X.ok.kind q e ho (.here hu X.rel h)
    have fre : env.kindOf (Str.ofString n) = some .free → wpAny (model g.prog g.w) A (loadName env (Str.ofString n)) (PostE g s σ Q) (PostX g A s σ E) s := fun q => by
      obtain ⟨cc, u, e, ho, hu⟩ := X.loc.cells n v hv (.inr q)
      exact wpAny_loadName_free X.ok.kind q e ho (.here hu X.rel h) hp.2
    refine wpAny_Name ?_ hp.1
    rcases X.ok.kinds _ _ hm with q | ⟨_, q⟩
    · cases k <;> first | exact loc q | exact cel q | exact fre q | cases hk
    · exact cel q
  · exact h.elim

/-! ## lists of expressions -/
def tNil : TL := fun _ σ Q _ => Q [] σ
def tCons (t : TE) (ts : TL) : TL := fun ℓ σ Q E => t ℓ σ (fun v σ₁ => ts ℓ σ₁ (fun vs σ₂ => Q (v :: vs) σ₂) E) E
def isStar : Expr → Bool
  | .Starred .. => true
  | _ => false
theorem starEach_cons {e : Expr} {es : List Expr} (env : Env) (h : isStar e = false) : starEach (e :: es) env = (false, eval e env) :: starEach es env := by
  cases e <;> first | rfl | cases h
theorem sndL_nil : SndL g sc r c [] tNil := .mk fun A env pos s ℓ σ Q E X h => wpAny_items_nil (.here VRs_nil X.rel h)
theorem sndL_cons {e : Expr} {es : List Expr} {t : TE} {ts : TL} (h1 : SndE g sc r c e t) (h2 : SndL g sc r c es ts) (hs : isStar e = false := by rfl) :
    SndL g sc r c (e :: es) (tCons t ts) := .mk fun A env pos s ℓ σ Q E X h => by
  refine wpAny_items_cons ?_ (starEach_cons env hs)
  refine wpAny_mono (h1.run A env s ℓ σ _ E X h) (fun v s₁ p => ?_) fun _ _ p => p
  obtain ⟨x, σ₁, hv, hR, hx, hs1, hq⟩ := p
  refine wpAny_mono (h2.run A env pos s₁ ℓ σ₁ _ E (X.step hR hx) hq) (fun vs s₂ p => ?_) fun _ _ p => p.back hx hs1
  obtain ⟨xs, σ₂, hvs, hR2, hx2, hs2, hq2⟩ := p
  exact ⟨x :: xs, σ₂, VRs_cons (hx2.vr hR noSeq_no hv) hvs, hR2, hx.trans hx2, hs1.trans hs2, hq2⟩

/-! ## displays -/
def tList (ts : TL) : TE := fun ℓ σ Q E => ts ℓ σ (fun vs σ₁ => Fits vs.length ∧ ∀ a, σ₁ a = none → Q (.ref a) (σ₁.set a (.list vs))) E
def tTuple (ts : TL) : TE := fun ℓ σ Q E => ts ℓ σ (fun vs σ₁ => Fits vs.length ∧ Q (.tup vs) σ₁) E
/-- a new list, owned -/
theorem post_newList {s s₁ : Shared} {σ σ₁ : AH} {Q : V → AH → Prop} {vs : List Value} {xs : List V} {n : Nat} (hx : Ext No s.heap σ s₁.heap σ₁) (hs : Same s s₁) (hR : Rel g s₁.heap σ₁) (hv : VRs g s₁.heap xs vs) (hft : Fits xs.length) (hq : ∀ a, σ₁ a = none → Q (.ref a) (σ₁.set a (.list xs))) {s' : Shared}
    (e : s' = { s₁ with heap := s₁.heap.push { cls := .type "list", data := .seq vs.toArray n }, toks := s'.toks }) : PostE g s σ Q (.ref s₁.heap.objs.size) s' := by
  rw [e]
  have hk := push_keeps s₁.heap { cls := .type "list", data := .seq vs.toArray n }
  have hf := size_fresh s₁.heap
  refine ⟨.ref _, _, VR_ref.mpr rfl, hR.alloc hk hf ?_, hx.trans (.alloc hk hf), hs.trans ⟨rfl, rfl, rfl⟩, hq _ (hR.fresh hf)⟩
  exact ⟨hft, vs.toArray, n, Heap.get?_push_size _ rfl, VRs.mono (fun a o _ _ _ e _ _ => .of (hk a o e)) hv⟩
/-- a new tuple -/
theorem post_newTuple {s s₁ : Shared} {σ σ₁ : AH} {Q : V → AH → Prop} {vs : List Value} {xs : List V} {n : Nat} (hx : Ext No s.heap σ s₁.heap σ₁) (hs : Same s s₁) (hR : Rel g s₁.heap σ₁) (hv : VRs g s₁.heap xs vs) (hft : Fits xs.length) (hq : Q (.tup xs) σ₁) {s' : Shared}
    (e : s' = { s₁ with heap := s₁.heap.push { cls := .type "tuple", data := .seq vs.toArray n }, toks := s'.toks }) : PostE g s σ Q (.ref s₁.heap.objs.size) s' := by
  rw [e]
  have hk := push_keeps s₁.heap { cls := .type "tuple", data := .seq vs.toArray n }
  refine ⟨.tup xs, σ₁, VR_tup.mpr ⟨hft, _, _, vs.toArray, n, rfl, fun nh => (by obtain ⟨o, e⟩ := hR.hid _ nh; rw [size_fresh] at e; cases e), Heap.get?_push_size _ rfl, rfl, rfl, VRs.mono (fun a o _ _ _ e _ _ => .of (hk a o e)) hv⟩, hR.keeps hk, hx.trans (.keeps hk), hs.trans ⟨rfl, rfl, rfl⟩, hq⟩
theorem sndE_list {es : List Expr} {ts : TL} {pos : Pos} (h1 : SndL g sc r c es ts) : SndE g sc r c (.List es pos) (tList ts) := .mk fun A env s ℓ σ Q E X h => by
  refine wpAny_List (wpAny_mono (h1.run A env pos s ℓ σ _ E X h) (fun vs s₁ p => ?_) fun _ _ p => p)
  obtain ⟨xs, σ₁, hv, hR, hx, hs, hf, hq⟩ := p
  exact ⟨(VRs_length hv ▸ hf).line, post_newList hx hs hR hv hf hq rfl⟩
theorem sndE_tuple {es : List Expr} {ts : TL} {k : Nat} {pos : Pos} (h1 : SndL g sc r c es ts) : SndE g sc r c (.Tuple es k pos) (tTuple ts) := .mk fun A env s ℓ σ Q E X h => by
  refine wpAny_Tuple (wpAny_mono (h1.run A env pos s ℓ σ _ E X h) (fun vs s₁ p => ?_) fun _ _ p => p)
  obtain ⟨xs, σ₁, hv, hR, hx, hs, hf, hq⟩ := p
  exact ⟨(VRs_length hv ▸ hf).line, post_newTuple hx hs hR hv hf hq rfl⟩
end Mine

open PySem PyProof.Rows
namespace Mine
variable {g : Gr} {sc : Scope} {r : Nat} {c : Bool}

/-! ## data: what a value reads as -/
mutual
def DataOf (σ : AH) : PyData → V → Prop
  | .none, v => v = .none
  | .bool b, v => v = .bool b
  | .int i, v => v = .int i
  | .str x, v => v = .str x
  | .list ds, v => ∃ a xs, v = .ref a ∧ σ a = some (.list xs) ∧ DataOfs σ ds xs
  | .tuple ds, v => ∃ xs, v = .tup xs ∧ DataOfs σ ds xs
  | .dict _, _ => False
def DataOfs (σ : AH) : List PyData → List V → Prop
  | [], xs => xs = []
  | d :: ds, xs => ∃ x r, xs = x :: r ∧ DataOf σ d x ∧ DataOfs σ ds r
end
mutual
theorem reads_of {h : Heap} {σ : AH} (R : Rel g h σ) : ∀ {d : PyData} {x : V} {v : Value}, DataOf σ d x → VR g h x v → ∃ as, Reads h v d as
  | .none, x, v, hd, hv => by unfold DataOf at hd; subst hd; rw [VR_none] at hv; subst hv; exact ⟨_, .none⟩
  | .bool b, x, v, hd, hv => by unfold DataOf at hd; subst hd; rw [VR_bool] at hv; subst hv; exact ⟨_, .bool b⟩
  | .int i, x, v, hd, hv => by unfold DataOf at hd; subst hd; rw [VR_int] at hv; obtain ⟨t, rfl⟩ := hv; exact ⟨_, .int i t⟩
  | .str i, x, v, hd, hv => by unfold DataOf at hd; subst hd; rw [VR_str] at hv; obtain ⟨_, t, rfl⟩ := hv; exact ⟨_, .str i t⟩
  | .list ds, x, v, hd, hv => by
    unfold DataOf at hd; obtain ⟨a, xs, rfl, e, hds⟩ := hd
    rw [VR_ref] at hv; subst hv
    obtain ⟨_, _, vs, n, ho, hvs⟩ := R.own a _ e
    obtain ⟨as, q⟩ := readsAll_of R hds hvs
    exact ⟨_, .list ho rfl rfl q⟩
  | .tuple ds, x, v, hd, hv => by
    unfold DataOf at hd; obtain ⟨xs, rfl, hds⟩ := hd
    rw [VR_tup] at hv; obtain ⟨_, a, o, vs, n, rfl, nh, ho, hc, hdt, hvs⟩ := hv
    obtain ⟨as, q⟩ := readsAll_of R hds hvs
    exact ⟨_, .tuple ho hc hdt q⟩
  | .dict _, x, v, hd, hv => by unfold DataOf at hd; exact hd.elim
theorem readsAll_of {h : Heap} {σ : AH} (R : Rel g h σ) : ∀ {ds : List PyData} {xs : List V} {vs : List Value}, DataOfs σ ds xs → VRs g h xs vs → ∃ as, ReadsAll h vs ds as
  | [], xs, vs, hd, hv => by unfold DataOfs at hd; subst hd; rw [VRs_nil_inv hv]; exact ⟨_, .nil⟩
  | d :: ds, xs, vs, hd, hv => by
    unfold DataOfs at hd; obtain ⟨x, r, rfl, h1, h2⟩ := hd
    obtain ⟨v, w, rfl, h3, h4⟩ := VRs_cons_inv hv
    obtain ⟨as, p⟩ := reads_of R h1 h3
    obtain ⟨bs, q⟩ := readsAll_of R h2 h4
    exact ⟨_, .cons p q⟩
end
/-- the data that the model's equality walks over -/
def Lay (d : PyData) : Prop := d.canLay0 = true ∧ d.depth ≤ 20

/-! ## truth -/
def truthV : V → AH → Option Bool
  | .none, _ => some false
  | .bool b, _ => some b
  | .int i, _ => some (i != 0)
  | .str x, _ => some ((x.length : Int) != 0)
  | .tup xs, _ => some (!xs.isEmpty)
  | .frz xs, _ => some (!xs.isEmpty)
  | .ref a, σ => match σ a with
    | some (.list xs) => some (!xs.isEmpty)
    | some (.dictI kvs _) => some (!kvs.isEmpty)
    | _ => none

theorem isEmpty_of_length {α β : Type} {xs : List α} {ys : Array β} (h : xs.length = ys.size) : (!ys.isEmpty) = !xs.isEmpty := by
  cases xs with
  | nil => simp at h; have : ys = #[] := by simpa using h.symm
           subst this; rfl
  | cons x xs => have : ys.size ≠ 0 := by simp at h; omega
                 have h2 : ys.isEmpty = false := by unfold Array.isEmpty; exact decide_eq_false this
                 rw [h2]; rfl

theorem sysMod_ne {h : Heap} {σ : AH} (G : GOk g) (R : Rel g h σ) {a : Addr} {ao : AO} (e : σ a = some ao) : (a == sysModules) = false := by
  obtain ⟨mm, ⟨o, es, ep, ho, _⟩, _⟩ := G.seer.mods
  cases q : a == sysModules with
  | false => rfl
  | true =>
    have := (R.own a ao e).1
    rw [show a = sysModules from beq_iff_eq.mp q, ho] at this; cases this

theorem truth_ok {A : Around} {E : Value → Shared → Prop} {s : Shared} {σ : AH} {x : V} {v : Value} {b : Bool} {Q : Bool → Shared → Prop} (G : GOk g) (R : Rel g s.heap σ) (hv : VR g s.heap x v) (ht : truthV x σ = some b)
    (hq : ∀ tk, Q b { s with toks := tk }) : wpAny (model g.prog g.w) A (truthy v) Q E s := by
  cases x with
  | none => rw [VR_none] at hv; subst hv; cases ht; exact truthy_none (hq s.toks)
  | bool b' => rw [VR_bool] at hv; subst hv; cases ht; exact wpAny_truthy_bool (hq s.toks)
  | int i => rw [VR_int] at hv; obtain ⟨t, rfl⟩ := hv; cases ht; exact PySem.P.truthy_int (hq s.toks)
  | str y => rw [VR_str] at hv; obtain ⟨hf, t, rfl⟩ := hv; cases ht; exact PySem.P.truthy_str (by have := hf.fit; omega) (hq _)
  | tup xs =>
    rw [VR_tup] at hv; obtain ⟨hf, a, o, vs, n, rfl, nh, ho, hc, hd, hvs⟩ := hv
    have hl : xs.length = vs.size := by rw [VRs_length hvs]; simp
    cases ht
    exact truthy_tuple ⟨o, ho, hc, n, hd⟩ (by rw [← hl]; exact hf.fit) (by rw [isEmpty_of_length hl]; exact hq _)
  | frz xs =>
    rw [VR_frz] at hv; obtain ⟨hf, a, o, vs, n, rfl, ho, hc, hd, hvs⟩ := hv
    have hl : xs.length = vs.size := by rw [VRs_length hvs]; simp
    cases ht
    exact wpAny_truthy_list ⟨o, R.base _ _ ho, hc, n, hd⟩ (by rw [← hl]; exact hf.fit) (by rw [isEmpty_of_length hl]; exact hq _)
  | ref a =>
    rw [VR_ref] at hv; subst hv
    simp only [truthV] at ht
    split at ht
    · rename_i xs e
      obtain ⟨_, hf, vs, n, ho, hvs⟩ := R.own a _ e
      have hl : xs.length = vs.size := by rw [VRs_length hvs]; simp
      cases ht
      exact wpAny_truthy_list ⟨_, ho, rfl, n, rfl⟩ (by rw [← hl]; exact hf.fit) (by rw [isEmpty_of_length hl]; exact hq _)
    · rename_i kvs ep e
      obtain ⟨_, hf, us, hd, hk, hvs⟩ := R.own a _ e
      have hl : us.length = kvs.length := by have := congrArg List.length hk; simpa using this
      cases ht
      refine wpAny_truthy_dict (sysMod_ne G R e) hd.dictOf (by rw [hl]; exact hf.fit) ?_
      have : us.isEmpty = kvs.isEmpty := by cases us <;> cases kvs <;> simp at hl ⊢
      rw [this]; exact hq _
    · cases ht

/-- a test by a value's truth -/
def tTruth (t : TE) : TB := fun ℓ σ Q E => t ℓ σ (fun v σ₁ => match truthV v σ₁ with | some b => Q b σ₁ | none => False) E
theorem sndB_value {e : Expr} {t : TE} (h1 : SndE g sc r c e t) (he : ∀ env whole, isTrue e env whole = (do let v ← whole; standAt e.pos; holding [v] (truthy v))) : SndB g sc r c e (tTruth t) := .mk fun A env s ℓ σ Q E X h => by
  refine wpAny_isTrue_value (X.then (h1.run A env s ℓ σ _ E X h) fun v x s₁ σ₁ hv X₁ hx hq => ?_) (he env _)
  split at hq
  · rename_i b hb; exact truth_ok X.gok X₁.rel hv hb fun tk => .keeps (fun _ _ e => e) ⟨rfl, rfl, rfl⟩ rfl X₁.rel hq
  · exact hq.elim
def tNotB (t : TB) : TB := fun ℓ σ Q E => t ℓ σ (fun b σ₁ => Q (!b) σ₁) E
theorem sndB_not {e : Expr} {t : TB} {pos : Pos} (h1 : SndB g sc r c e t) : SndB g sc r c (.UnaryOp .Not e pos) (tNotB t) := .mk fun A env s ℓ σ Q E X h =>
  wpAny_isTrue_Not (wpAny_mono (h1.run A env s ℓ σ _ E X h) (fun b s₁ p => let ⟨x, σ₁, h1, h2, h3, h4, h5⟩ := p; ⟨!x, σ₁, by rw [h1], h2, h3, h4, h5⟩) fun _ _ p => p)

/-- and, or: tests one behind the other -/
structure SndBs (g : Gr) (sc : Scope) (r : Nat) (c : Bool) (op : BoolOp) (es : List Expr) (t : TB) : Prop where
  run : ∀ A env s ℓ σ Q E, Cx g sc r c A env s.heap σ ℓ → t ℓ σ Q E → wpAny (model g.prog g.w) A (allTrue op es env) (PostB g s σ Q) (PostX g A s σ E) s
def tAndB (t ts : TB) : TB := fun ℓ σ Q E => t ℓ σ (fun b σ₁ => match b with | true => ts ℓ σ₁ Q E | false => Q false σ₁) E
def tOrB (t ts : TB) : TB := fun ℓ σ Q E => t ℓ σ (fun b σ₁ => match b with | true => Q true σ₁ | false => ts ℓ σ₁ Q E) E
def tConstB (b : Bool) : TB := fun _ σ Q _ => Q b σ
theorem sndBs_and_nil : SndBs g sc r c .And [] (tConstB true) := .mk fun A env s ℓ σ Q E X h => wpAny_allTrue_And_nil (.here rfl X.rel h)
theorem sndBs_or_nil : SndBs g sc r c .Or [] (tConstB false) := .mk fun A env s ℓ σ Q E X h => wpAny_allTrue_Or_nil (.here rfl X.rel h)
theorem sndBs_and {e : Expr} {es : List Expr} {t ts : TB} (h1 : SndB g sc r c e t) (h2 : SndBs g sc r c .And es ts) : SndBs g sc r c .And (e :: es) (tAndB t ts) := .mk fun A env s ℓ σ Q E X h => by
  refine wpAny_allTrue_And_cons (wpAny_mono (h1.run A env s ℓ σ _ E X h) (fun b s₁ p => ?_) fun _ _ p => p)
  obtain ⟨x, σ₁, rfl, hR, hx, hs, hq⟩ := p
  cases x with
  | true => exact wp_back hx hs (h2.run A env s₁ ℓ σ₁ Q E (X.step hR hx) hq)
  | false => exact ⟨false, σ₁, rfl, hR, hx, hs, hq⟩
theorem sndBs_or {e : Expr} {es : List Expr} {t ts : TB} (h1 : SndB g sc r c e t) (h2 : SndBs g sc r c .Or es ts) : SndBs g sc r c .Or (e :: es) (tOrB t ts) := .mk fun A env s ℓ σ Q E X h => by
  refine wpAny_allTrue_Or_cons (wpAny_mono (h1.run A env s ℓ σ _ E X h) (fun b s₁ p => ?_) fun _ _ p => p)
  obtain ⟨x, σ₁, rfl, hR, hx, hs, hq⟩ := p
  cases x with
  | false => exact wp_back hx hs (h2.run A env s₁ ℓ σ₁ Q E (X.step hR hx) hq)
  | true => exact ⟨true, σ₁, rfl, hR, hx, hs, hq⟩
theorem sndB_boolop {op : BoolOp} {es : List Expr} {t : TB} {pos : Pos} (h1 : SndBs g sc r c op es t) : SndB g sc r c (.BoolOp op es pos) t := .mk fun A env s ℓ σ Q E X h =>
  wpAny_isTrue_BoolOp (h1.run A env s ℓ σ Q E X h)

/-! ## comparisons -/
def isNoneV : V → Bool
  | .none => true
  | _ => false
def eqD (a b : V) (σ : AH) (Q : Bool → Prop) : Prop := match a, b with
  | .int i, .int j => Q (i == j)
  | a, b => ∃ da db, DataOf σ da a ∧ DataOf σ db b ∧ Lay da ∧ Lay db ∧ Q (PyData.eqv da db)
def inD (x c : V) (σ : AH) (Q : Bool → Prop) : Prop := match c with
  | .tup xs => ∃ ds d, DataOfs σ ds xs ∧ DataOf σ d x ∧ Lay (.tuple ds) ∧ Lay d ∧ Q (ds.any fun y => PyData.eqv y d)
  | .ref a => match σ a with
    | some (.list xs) => ∃ ds d, DataOfs σ ds xs ∧ DataOf σ d x ∧ Lay (.list ds) ∧ Lay d ∧ Q (ds.any fun y => PyData.eqv y d)
    | some (.dictI kvs _) => match x with | .int k => Q (kvs.any fun kv => kv.1 == k) | _ => False
    | some (.dictT kvs _) => ∃ ks : List Int, x = .tup (ks.map V.int) ∧ Q (kvs.any fun kv => kv.1 == ks)
    | _ => False
  | _ => False
def cmpV (op : CmpOp) (a b : V) (σ : AH) (Q : Bool → Prop) : Prop := match op with
  | .Lt => match a, b with | .int i, .int j => Q (decide (i < j)) | _, _ => False
  | .LtE => match a, b with | .int i, .int j => Q (decide (i ≤ j)) | _, _ => False
  | .Gt => match a, b with | .int i, .int j => Q (decide (j < i)) | _, _ => False
  | .GtE => match a, b with | .int i, .int j => Q (decide (j ≤ i)) | _, _ => False
  | .Eq => eqD a b σ Q
  | .NotEq => eqD a b σ fun r => Q (!r)
  | .Is => match b with | .none => Q (isNoneV a) | .bool true => (match a with | .bool x => Q x | _ => False) | _ => False
  | .IsNot => match b with | .none => Q (!isNoneV a) | _ => False
  | .In => inD a b σ Q
  | .NotIn => inD a b σ fun r => Q (!r)
end Mine

open PySem PyProof.Rows
namespace Mine
variable {g : Gr} {sc : Scope} {r : Nat} {c : Bool}

theorem isNone_of {h : Heap} {a : V} {u : Value} (hv : VR g h a u) : (u == .none) = isNoneV a := by
  cases a with
  | none => rw [VR_none] at hv; subst hv; rfl
  | bool b => rw [VR_bool] at hv; subst hv; rfl
  | int i => rw [VR_int] at hv; obtain ⟨t, rfl⟩ := hv; rfl
  | str x => rw [VR_str] at hv; obtain ⟨_, t, rfl⟩ := hv; rfl
  | ref a => rw [VR_ref] at hv; subst hv; rfl
  | tup xs => rw [VR_tup] at hv; obtain ⟨_, a, _, _, _, rfl, _⟩ := hv; rfl
  | frz xs => rw [VR_frz] at hv; obtain ⟨_, a, _, _, _, rfl, _⟩ := hv; rfl

theorem valueAt_isSome {us : List (Int × Value)} {kvs : List (Int × V)} (hk : us.map (·.1) = kvs.map (·.1)) (k : Int) : (valueAt us k).isSome = kvs.any fun kv => kv.1 == k := by
  induction us generalizing kvs with
  | nil => cases kvs with
    | nil => rfl
    | cons _ _ => simp at hk
  | cons u us ih => cases kvs with
    | nil => simp at hk
    | cons kv kvs =>
      simp only [List.map_cons, List.cons.injEq] at hk
      have := ih hk.2
      unfold valueAt at this ⊢
      rw [List.find?_cons, List.any_cons, ← hk.1]
      by_cases e : u.1 = k
      · simp [e]
      · have e' : (u.1 == k) = false := by simpa using e
        simp only [e, decide_false, e', Bool.false_or]; exact this
theorem atKey_isSome {us : List (List Int × Addr × Value)} {kvs : List (List Int × V)} (hk : us.map (·.1) = kvs.map (·.1)) (k : List Int) : (atKey us k).isSome = kvs.any fun kv => kv.1 == k := by
  induction us generalizing kvs with
  | nil => cases kvs with
    | nil => rfl
    | cons _ _ => simp at hk
  | cons u us ih => cases kvs with
    | nil => simp at hk
    | cons kv kvs =>
      simp only [List.map_cons, List.cons.injEq] at hk
      have := ih hk.2
      unfold atKey at this ⊢
      rw [List.find?_cons, List.any_cons, ← hk.1]
      by_cases e : u.1 = k
      · simp [e]
      · have e' : (u.1 == k) = false := by simpa using e
        simp only [e, decide_false, e', Bool.false_or]; exact this
theorem itemsAre_ints {h : Heap} : ∀ {ks : List Int} {vs : List Value}, VRs g h (ks.map V.int) vs → ItemsAre (intKind g.prog g.w) ks vs
  | [], vs, a => by rw [VRs_nil_inv a]; exact .nil
  | k :: ks, vs, a => by
    obtain ⟨v, r, rfl, hv, b⟩ := VRs_cons_inv a
    rw [VR_int] at hv; obtain ⟨t, rfl⟩ := hv
    exact .cons (intKind_is _ _ k t) (itemsAre_ints b)
theorem tupleKey_of {h : Heap} {ks : List Int} {v : Value} (hv : VR g h (.tup (ks.map V.int)) v) : ∃ a, v = .ref a ∧ ¬ g.hid a ∧ IsTupleKey (intKind g.prog g.w) h ks a := by
  rw [VR_tup] at hv; obtain ⟨_, a, o, vs, n, rfl, nh, ho, hc, hd, hvs⟩ := hv
  exact ⟨a, rfl, nh, o, vs, n, ho, hc, hd, itemsAre_ints hvs⟩
theorem DictAtT.ofH {h : Heap} {d : Addr} {xs : List (List Int × Addr × Value)} {ep : Nat} (x : DictAtT g h d xs ep) : h.DictOfH (tupleKind (intKind g.prog g.w)) d xs := let ⟨o, es, h1, h2, h3, h4, h5, h6⟩ := x; ⟨o, es, ep, h1, h2, h3, h4, fun y hy => (h5 y hy).2, h6⟩

section
variable {A : Around} {env : Env} {E : Value → Shared → Prop} {s : Shared} {σ : AH} {ℓ : Loc}
/-- what a comparison leaves: a bool, and nothing changed -/
def Told (s : Shared) (Q : Bool → Prop) (v : Value) (s' : Shared) : Prop := ∃ b tk, v = .bool b ∧ s' = { s with toks := tk } ∧ Q b
theorem Told.at {Q : Bool → Prop} {b : Bool} {tk : Nat} (h : Q b) : Told s Q (.bool b) { s with toks := tk } := ⟨b, tk, rfl, rfl, h⟩

theorem eq_ok {a b : V} {u v : Value} {Q : Bool → Prop} (X : Cx g sc r c A env s.heap σ ℓ) (ha : VR g s.heap a u) (hb : VR g s.heap b v) (h : eqD a b σ Q) : wpAny (model g.prog g.w) A (compareOp .Eq u v) (Told s Q) E s := by
  have hu := X.room.cline
  have gen : (∃ da db, DataOf σ da a ∧ DataOf σ db b ∧ Lay da ∧ Lay db ∧ Q (PyData.eqv da db)) → wpAny (model g.prog g.w) A (compareOp .Eq u v) (Told s Q) E s := by
    rintro ⟨da, db, h1, h2, h3, h4, h5⟩
    obtain ⟨as, ra⟩ := reads_of X.rel h1 ha
    obtain ⟨bs, rb⟩ := reads_of X.rel h2 hb
    have := h3.2
    exact SeqAt.compareEq_reads ra rb h3.1 h4.1 (by omega) ⟨_, s.toks, rfl, rfl, h5⟩
  unfold eqD at h
  split at h
  · rw [VR_int] at ha hb; obtain ⟨t, rfl⟩ := ha; obtain ⟨t', rfl⟩ := hb
    exact PySem.P.eq_int ⟨_, s.toks, rfl, rfl, h⟩
  · exact gen h
theorem ne_ok {a b : V} {u v : Value} {Q : Bool → Prop} (X : Cx g sc r c A env s.heap σ ℓ) (ha : VR g s.heap a u) (hb : VR g s.heap b v) (h : eqD a b σ fun r => Q (!r)) : wpAny (model g.prog g.w) A (compareOp .NotEq u v) (Told s Q) E s := by
  have hu := X.room.cline
  have gen : (∃ da db, DataOf σ da a ∧ DataOf σ db b ∧ Lay da ∧ Lay db ∧ Q (!PyData.eqv da db)) → wpAny (model g.prog g.w) A (compareOp .NotEq u v) (Told s Q) E s := by
    rintro ⟨da, db, h1, h2, h3, h4, h5⟩
    obtain ⟨as, ra⟩ := reads_of X.rel h1 ha
    obtain ⟨bs, rb⟩ := reads_of X.rel h2 hb
    have := h3.2
    exact SeqAt.compareNe_reads ra rb h3.1 h4.1 (by omega) ⟨_, s.toks, rfl, rfl, h5⟩
  unfold eqD at h
  split at h
  · rw [VR_int] at ha hb; obtain ⟨t, rfl⟩ := ha; obtain ⟨t', rfl⟩ := hb
    exact PySem.P.ne_int ⟨_, s.toks, rfl, rfl, h⟩
  · exact gen h
theorem lay_list {ds : List PyData} (h : Lay (.list ds)) : PyData.canLayAll0 ds = true ∧ PyData.depthAll ds ≤ 20 := by
  refine ⟨h.1, ?_⟩
  have := h.2
  unfold PyData.depth at this
  omega
theorem lay_tuple {ds : List PyData} (h : Lay (.tuple ds)) : PyData.canLayAll0 ds = true ∧ PyData.depthAll ds ≤ 20 := by
  refine ⟨h.1, ?_⟩
  have := h.2
  unfold PyData.depth at this
  omega
theorem in_ok {a b : V} {u v : Value} {Q : Bool → Prop} (X : Cx g sc r c A env s.heap σ ℓ) (ha : VR g s.heap a u) (hb : VR g s.heap b v) (h : inD a b σ Q) : wpAny (model g.prog g.w) A (compareOp .In u v) (Told s Q) E s := by
  have hu := X.room.cline
  unfold inD at h
  split at h
  · rename_i xs
    obtain ⟨ds, d, h1, h2, h3, h4, h5⟩ := h
    obtain ⟨bs, rb⟩ := reads_of (d := .tuple ds) X.rel (by unfold DataOf; exact ⟨xs, rfl, h1⟩) hb
    obtain ⟨as, ra⟩ := reads_of X.rel h2 ha
    obtain ⟨k1, k2⟩ := lay_tuple h3
    exact SeqAt.in_tuple_reads rb ra k1 h4.1 (by omega) ⟨_, s.toks, rfl, rfl, h5⟩
  · rename_i l
    split at h
    · rename_i xs e
      obtain ⟨ds, d, h1, h2, h3, h4, h5⟩ := h
      obtain ⟨bs, rb⟩ := reads_of (d := .list ds) X.rel (by unfold DataOf; exact ⟨l, xs, rfl, e, h1⟩) hb
      obtain ⟨as, ra⟩ := reads_of X.rel h2 ha
      obtain ⟨k1, k2⟩ := lay_list h3
      exact SeqAt.in_list_reads rb ra k1 h4.1 (by omega) ⟨_, s.toks, rfl, rfl, h5⟩
    · rename_i kvs ep e
      split at h
      · rename_i k
        rw [VR_int] at ha; obtain ⟨t, rfl⟩ := ha
        rw [VR_ref] at hb; subst hb
        obtain ⟨_, hf, us, hd, hk, hvs⟩ := X.rel.own l _ e
        exact wpAny_in_of (intKind_is _ _ k t) (sysMod_ne X.gok X.rel e) hd.dictOf.mapOf ⟨_, _, rfl, rfl, by rw [valueAt_isSome hk]; exact h⟩
      · exact h.elim
    · rename_i kvs ep e
      obtain ⟨ks, rfl, h⟩ := h
      obtain ⟨ka, rfl, _, hka⟩ := tupleKey_of ha
      rw [VR_ref] at hb; subst hb
      obtain ⟨_, hf, us, hd, hk, hvs⟩ := X.rel.own l _ e
      exact wpAny_in_heap (knd := tupleKind (intKind g.prog g.w)) (tupleKind_room_in1 (by omega)) hka (sysMod_ne X.gok X.rel e) hd.ofH ⟨_, _, rfl, rfl, by rw [atKey_isSome hk]; exact h⟩
    · exact h.elim
  · exact h.elim
theorem notIn_ok {a b : V} {u v : Value} {Q : Bool → Prop} (X : Cx g sc r c A env s.heap σ ℓ) (ha : VR g s.heap a u) (hb : VR g s.heap b v) (h : inD a b σ fun r => Q (!r)) : wpAny (model g.prog g.w) A (compareOp .NotIn u v) (Told s Q) E s := by
  have hu := X.room.cline
  unfold inD at h
  split at h
  · rename_i xs
    obtain ⟨ds, d, h1, h2, h3, h4, h5⟩ := h
    obtain ⟨bs, rb⟩ := reads_of (d := .tuple ds) X.rel (by unfold DataOf; exact ⟨xs, rfl, h1⟩) hb
    obtain ⟨as, ra⟩ := reads_of X.rel h2 ha
    obtain ⟨k1, k2⟩ := lay_tuple h3
    exact SeqAt.notIn_tuple_reads rb ra k1 h4.1 (by omega) ⟨_, s.toks, rfl, rfl, h5⟩
  · rename_i l
    split at h
    · rename_i xs e
      obtain ⟨ds, d, h1, h2, h3, h4, h5⟩ := h
      obtain ⟨bs, rb⟩ := reads_of (d := .list ds) X.rel (by unfold DataOf; exact ⟨l, xs, rfl, e, h1⟩) hb
      obtain ⟨as, ra⟩ := reads_of X.rel h2 ha
      obtain ⟨k1, k2⟩ := lay_list h3
      exact SeqAt.notIn_list_reads rb ra k1 h4.1 (by omega) ⟨_, s.toks, rfl, rfl, h5⟩
    · rename_i kvs ep e
      split at h
      · rename_i k
        rw [VR_int] at ha; obtain ⟨t, rfl⟩ := ha
        rw [VR_ref] at hb; subst hb
        obtain ⟨_, hf, us, hd, hk, hvs⟩ := X.rel.own l _ e
        refine wpAny_notIn_of (intKind_is _ _ k t) (sysMod_ne X.gok X.rel e) hd.dictOf.mapOf ⟨_, _, rfl, rfl, ?_⟩
        rw [valueAt_isSome hk]; exact h
      · exact h.elim
    · rename_i kvs ep e
      obtain ⟨ks, rfl, h⟩ := h
      obtain ⟨ka, rfl, _, hka⟩ := tupleKey_of ha
      rw [VR_ref] at hb; subst hb
      obtain ⟨_, hf, us, hd, hk, hvs⟩ := X.rel.own l _ e
      refine wpAny_notIn_heap (knd := tupleKind (intKind g.prog g.w)) (tupleKind_room_in1 (by omega)) hka (sysMod_ne X.gok X.rel e) hd.ofH ⟨_, _, rfl, rfl, ?_⟩
      rw [atKey_isSome hk]; exact h
    · exact h.elim
  · exact h.elim
theorem isSame_true (b : Bool) : isSame (.bool b) (.bool true) = pure b := by cases b <;> rfl
theorem cmp_ok {op : CmpOp} {a b : V} {u v : Value} {Q : Bool → Prop} (X : Cx g sc r c A env s.heap σ ℓ) (ha : VR g s.heap a u) (hb : VR g s.heap b v) (h : cmpV op a b σ Q) : wpAny (model g.prog g.w) A (compareOp op u v) (Told s Q) E s := by
  cases op with
  | Lt => simp only [cmpV] at h; split at h
          · rw [VR_int] at ha hb; obtain ⟨t, rfl⟩ := ha; obtain ⟨t', rfl⟩ := hb; exact PySem.P.lt_int ⟨_, s.toks, rfl, rfl, h⟩
          · exact h.elim
  | LtE => simp only [cmpV] at h; split at h
           · rw [VR_int] at ha hb; obtain ⟨t, rfl⟩ := ha; obtain ⟨t', rfl⟩ := hb; exact PySem.P.le_int ⟨_, s.toks, rfl, rfl, h⟩
           · exact h.elim
  | Gt => simp only [cmpV] at h; split at h
          · rw [VR_int] at ha hb; obtain ⟨t, rfl⟩ := ha; obtain ⟨t', rfl⟩ := hb; exact PySem.P.gt_int ⟨_, s.toks, rfl, rfl, h⟩
          · exact h.elim
  | GtE => simp only [cmpV] at h; split at h
           · rw [VR_int] at ha hb; obtain ⟨t, rfl⟩ := ha; obtain ⟨t', rfl⟩ := hb; exact PySem.P.ge_int ⟨_, s.toks, rfl, rfl, h⟩
           · exact h.elim
  | Eq => exact eq_ok X ha hb h
  | NotEq => exact ne_ok X ha hb h
  | Is =>
    simp only [cmpV] at h
    split at h
    · rw [VR_none] at hb; subst hb; exact is_none ⟨_, s.toks, rfl, rfl, by rw [isNone_of ha]; exact h⟩
    · rw [VR_bool] at hb; subst hb
      split at h
      · rw [VR_bool] at ha; subst ha
        show wpAny _ A (do return Value.bool (← isSame _ _)) _ E s
        rw [isSame_true]; exact wpAny_bind (wpAny_pure (wpAny_pure ⟨_, s.toks, rfl, rfl, h⟩))
      · exact h.elim
    · exact h.elim
  | IsNot =>
    simp only [cmpV] at h
    split at h
    · rw [VR_none] at hb; subst hb; exact isNot_none ⟨_, s.toks, rfl, rfl, by rw [isNone_of ha]; exact h⟩
    · exact h.elim
  | In => exact in_ok X ha hb h
  | NotIn => exact notIn_ok X ha hb h
end

def tCmp (op : CmpOp) (t₁ t₂ : TE) : TE := fun ℓ σ Q E => t₁ ℓ σ (fun a σ₁ => t₂ ℓ σ₁ (fun b σ₂ => cmpV op a b σ₂ fun r => Q (.bool r) σ₂) E) E
def tCmpB (op : CmpOp) (t₁ t₂ : TE) : TB := fun ℓ σ Q E => t₁ ℓ σ (fun a σ₁ => t₂ ℓ σ₁ (fun b σ₂ => cmpV op a b σ₂ fun r => Q r σ₂) E) E
def tCmp2B (op op' : CmpOp) (t₁ t₂ t₃ : TE) : TB := fun ℓ σ Q E => t₁ ℓ σ (fun a σ₁ => t₂ ℓ σ₁ (fun b σ₂ => cmpV op a b σ₂ fun r => match r with | true => t₃ ℓ σ₂ (fun d σ₃ => cmpV op' b d σ₃ fun q => Q q σ₃) E | false => Q false σ₂) E) E
theorem sndE_cmp {op : CmpOp} {e₁ e₂ : Expr} {t₁ t₂ : TE} {pos : Pos} (h1 : SndE g sc r c e₁ t₁) (h2 : SndE g sc r c e₂ t₂) (hm : behindInMarks op e₂ = false) : SndE g sc r c (.Compare e₁ [op] [e₂] pos) (tCmp op t₁ t₂) := .mk fun A env s ℓ σ Q E X h => by
  refine wpAny_Compare1 (wpAny_mono (h1.run A env s ℓ σ _ E X h) (fun u s₁ p => ?_) fun _ _ p => p) hm
  obtain ⟨a, σ₁, hu, hR, hx, hs, hq⟩ := p
  have X₁ := X.step hR hx
  refine wpAny_mono (h2.run A env s₁ ℓ σ₁ _ E X₁ hq) (fun v s₂ p => ?_) fun _ _ p => p.back hx hs
  obtain ⟨b, σ₂, hv, hR2, hx2, hs2, hq2⟩ := p
  refine wpAny_mono (cmp_ok (E := fun _ _ => False) (X₁.step hR2 hx2) (hx2.vr hR noSeq_no hu) hv hq2) (fun w s₃ p => ?_) fun _ _ p => p.elim
  obtain ⟨bb, tk, rfl, rfl, hq3⟩ := p
  exact ⟨.bool bb, σ₂, VR_bool.mpr rfl, hR2, hx.trans hx2, hs.trans (hs2.trans ⟨rfl, rfl, rfl⟩), hq3⟩
theorem sndB_cmp {op : CmpOp} {e₁ e₂ : Expr} {t₁ t₂ : TE} {pos : Pos} (h1 : SndE g sc r c e₁ t₁) (h2 : SndE g sc r c e₂ t₂) (hm : behindInMarks op e₂ = false) : SndB g sc r c (.Compare e₁ [op] [e₂] pos) (tCmpB op t₁ t₂) := .mk fun A env s ℓ σ Q E X h => by
  refine wpAny_isTrue_Compare1 (wpAny_mono (h1.run A env s ℓ σ _ E X h) (fun u s₁ p => ?_) fun _ _ p => p) hm
  obtain ⟨a, σ₁, hu, hR, hx, hs, hq⟩ := p
  have X₁ := X.step hR hx
  refine wpAny_mono (h2.run A env s₁ ℓ σ₁ _ E X₁ hq) (fun v s₂ p => ?_) fun _ _ p => p.back hx hs
  obtain ⟨b, σ₂, hv, hR2, hx2, hs2, hq2⟩ := p
  refine wpAny_mono (cmp_ok (E := fun _ _ => False) (X₁.step hR2 hx2) (hx2.vr hR noSeq_no hu) hv hq2) (fun w s₃ p => ?_) fun _ _ p => p.elim
  obtain ⟨bb, tk, rfl, rfl, hq3⟩ := p
  exact wpAny_truthy_bool ⟨bb, σ₂, rfl, hR2, hx.trans hx2, hs.trans (hs2.trans ⟨rfl, rfl, rfl⟩), hq3⟩
theorem sndB_cmp2 {op op' : CmpOp} {e₁ e₂ e₃ : Expr} {t₁ t₂ t₃ : TE} {pos : Pos} (h1 : SndE g sc r c e₁ t₁) (h2 : SndE g sc r c e₂ t₂) (h3 : SndE g sc r c e₃ t₃) (hm : lastMarks [op, op'] [e₂, e₃] = false) :
    SndB g sc r c (.Compare e₁ [op, op'] [e₂, e₃] pos) (tCmp2B op op' t₁ t₂ t₃) := .mk fun A env s ℓ σ Q E X h => by
  refine isTrue_chain (wpAny_mono (h1.run A env s ℓ σ _ E X h) (fun u s₁ p => ?_) fun _ _ p => p) hm
  obtain ⟨a, σ₁, hu, hR, hx, hs, hq⟩ := p
  have X₁ := X.step hR hx
  refine test_link (wpAny_mono (h2.run A env s₁ ℓ σ₁ _ E X₁ hq) (fun v s₂ p => ?_) fun _ _ p => p.back hx hs)
  obtain ⟨b, σ₂, hv, hR2, hx2, hs2, hq2⟩ := p
  have X₂ := X₁.step hR2 hx2
  refine wpAny_mono (cmp_ok (E := fun _ _ => False) X₂ (hx2.vr hR noSeq_no hu) hv hq2) (fun w s₃ p => ?_) fun _ _ p => p.elim
  obtain ⟨bb, tk, rfl, rfl, hq3⟩ := p
  have hs' : Same s { s₂ with toks := tk } := hs.trans (hs2.trans ⟨rfl, rfl, rfl⟩)
  refine wpAny_truthy_bool ?_
  cases bb with
  | false => exact ⟨false, σ₂, rfl, hR2, hx.trans hx2, hs', hq3⟩
  | true =>
    refine test_last (wpAny_mono (h3.run A env { s₂ with toks := tk } ℓ σ₂ _ E X₂ hq3) (fun y s₄ p => ?_) fun _ _ p => p.back (hx.trans hx2) hs')
    obtain ⟨d, σ₃, hy, hR3, hx3, hs3, hq4⟩ := p
    refine wpAny_mono (cmp_ok (E := fun _ _ => False) (X₂.step hR3 hx3) (hx3.vr hR2 noSeq_no hv) hy hq4) (fun w s₅ p => ?_) fun _ _ p => p.elim
    obtain ⟨bb, tk', rfl, rfl, hq5⟩ := p
    exact wpAny_truthy_bool ⟨bb, σ₃, rfl, hR3, (hx.trans hx2).trans hx3, hs'.trans (hs3.trans ⟨rfl, rfl, rfl⟩), hq5⟩
end Mine

open PySem PyProof.Rows
namespace Mine
variable {g : Gr} {sc : Scope} {r : Nat} {c : Bool}

/-! ## operators -/
def binV (op : Operator) (a b : V) (σ : AH) (Q : V → AH → Prop) : Prop := match op with
  | .Add => match a, b with
    | .int i, .int j => Q (.int (i + j)) σ
    | .str x, .str y => Fits (x.length + y.length) ∧ Q (.str (x ++ y)) σ
    | .tup xs, .tup ys => Fits (xs.length + ys.length) ∧ Q (.tup (xs ++ ys)) σ
    | .ref l, .ref m => ∃ xs ys, σ l = some (.list xs) ∧ σ m = some (.list ys) ∧ Fits (xs.length + ys.length) ∧ ∀ a, σ a = none → Q (.ref a) (σ.set a (.list (xs ++ ys)))
    | _, _ => False
  | .Sub => match a, b with | .int i, .int j => Q (.int (i - j)) σ | _, _ => False
  | .Mult => match a, b with
    | .int i, .int j => IntMulOk i j ∧ Q (.int (i * j)) σ
    | _, _ => False
  | .FloorDiv => match a, b with | .int i, .int j => j ≠ 0 ∧ Q (.int (i.fdiv j)) σ | _, _ => False
  | .Mod => match a, b with | .int i, .int j => j ≠ 0 ∧ Q (.int (i.fmod j)) σ | _, _ => False
  | .Pow => match a, b with | .int i, .int j => (0 ≤ j ∧ j ≤ 1000000 ∧ i.natAbs < 2 ^ 64) ∧ Q (.int (i ^ j.toNat)) σ | _, _ => False
  | _ => False

section
variable {A : Around} {env : Env} {E : Value → Shared → Prop} {s : Shared} {σ : AH} {ℓ : Loc} {Q : V → AH → Prop}
theorem post_tok {x : V} {v : Value} {tk : Nat} (R : Rel g s.heap σ) (hv : VR g s.heap x v) (h : Q x σ) : PostE g s σ Q v { s with toks := tk } :=
  .keeps (fun _ _ e => e) ⟨rfl, rfl, rfl⟩ hv R h
theorem pylong_ok (X : Cx g sc r c A env s.heap σ ℓ) : PylongRoom (model g.prog g.w) A s := by
  obtain ⟨e0, outer, hA, hf, ff, off, h1, h2, h3, h4⟩ := X.fr
  refine PylongRoom.of (X.gok.nolimit.keeps X.rel.base) ?_ (SeerAt.of (X.gok.seer.keeps X.rel.base) X.gok.tree hA h1 h2 h3 h4)
  have := X.room.depth
  show A.depth + 100 < _
  omega
theorem bin_ok {op : Operator} {a b : V} {u v : Value} (X : Cx g sc r c A env s.heap σ ℓ) (ha : VR g s.heap a u) (hb : VR g s.heap b v) (h : binV op a b σ Q) : wpAny (model g.prog g.w) A (binaryOp op u v) (PostE g s σ Q) E s := by
  cases op with
  | Add =>
    simp only [binV] at h
    split at h
    · rw [VR_int] at ha hb; obtain ⟨t, rfl⟩ := ha; obtain ⟨t', rfl⟩ := hb
      exact PySem.P.add_int (post_tok X.rel (VR_int.mpr ⟨_, rfl⟩) h)
    · rw [VR_str] at ha hb; obtain ⟨hfa, t, rfl⟩ := ha; obtain ⟨hfb, t', rfl⟩ := hb
      exact PyProof.Rows.add_str (fun t' tk => post_tok X.rel (VR_str.mpr ⟨by rw [Str.length_append]; exact h.1, _, rfl⟩) h.2) h.1.line
    · rename_i xs ys
      rw [VR_tup] at ha hb
      obtain ⟨hfa, l, ⟨cls, dd, data, sl⟩, vs, n, rfl, nh, ho, hc, hd, hvs⟩ := ha
      obtain ⟨hfb, m, ⟨cls2, dd2, data2, sl2⟩, ws, n2, rfl, nh2, ho2, hc2, hd2, hws⟩ := hb
      simp only at hc hd hc2 hd2
      subst hc hd hc2 hd2
      have hl := VRs_length hvs
      have hl2 := VRs_length hws
      simp only [Array.length_toList] at hl hl2
      by_cases e1 : vs.isEmpty = true
      · have : xs = [] := by have : vs.size = 0 := by simpa using e1
                             cases xs with | nil => rfl | cons _ _ => simp at hl; omega
        subst this
        exact concat_meets ⟨_, ho, rfl⟩ ⟨_, ho2, rfl⟩ noFill_tuple_add seq_tuple_add PySem.F.slot_tuple_add PySem.F.entry_tuple_add (PySem.F.args_tuple_add_2 _ _) (tuple_addW0 l m vs ws n n2 dd dd2 sl sl2 e1)
          ⟨ho, ho2, post_tok X.rel (VR_tup.mpr ⟨hfb, m, _, ws, n2, rfl, nh2, ho2, rfl, rfl, hws⟩) h.2⟩
      · by_cases e2 : ws.isEmpty = true
        · have : ys = [] := by have : ws.size = 0 := by simpa using e2
                               cases ys with | nil => rfl | cons _ _ => simp at hl2; omega
          subst this
          refine concat_meets ⟨_, ho, rfl⟩ ⟨_, ho2, rfl⟩ noFill_tuple_add seq_tuple_add PySem.F.slot_tuple_add PySem.F.entry_tuple_add (PySem.F.args_tuple_add_2 _ _) (tuple_addW1 l m vs ws n n2 dd dd2 sl sl2 e1 e2)
            ⟨ho, ho2, post_tok X.rel (VR_tup.mpr ⟨hfa, l, _, vs, n, rfl, nh, ho, rfl, rfl, hvs⟩) ?_⟩
          rw [List.append_nil] at h; exact h.2
        · refine concat_meets ⟨_, ho, rfl⟩ ⟨_, ho2, rfl⟩ noFill_tuple_add seq_tuple_add PySem.F.slot_tuple_add PySem.F.entry_tuple_add (PySem.F.args_tuple_add_2 _ _) (tuple_addW2 l m vs ws n n2 dd dd2 sl sl2 e1 e2 (by rw [← hl, ← hl2]; exact h.1.line))
            ⟨ho, ho2, ?_⟩
          have e : vs ++ ws = (vs.toList ++ ws.toList).toArray := by simp
          rw [e]
          exact post_newTuple .refl .refl X.rel (VRs_append hvs hws) (by rw [List.length_append]; exact h.1) h.2 rfl
    · rename_i l m
      obtain ⟨xs, ys, e1, e2, hf, hq⟩ := h
      rw [VR_ref] at ha hb; subst ha hb
      obtain ⟨_, hfa, vs, n, ho, hvs⟩ := X.rel.own l _ e1
      obtain ⟨_, hfb, ws, n2, ho2, hws⟩ := X.rel.own m _ e2
      have hl := VRs_length hvs
      have hl2 := VRs_length hws
      simp only [Array.length_toList] at hl hl2
      refine concat_meets ⟨_, ho, rfl⟩ ⟨_, ho2, rfl⟩ noFill_list_add seq_list_add PySem.F.slot_list_add PySem.F.entry_list_add (PySem.F.args_list_add_2 _ _) (list_addW l m vs ws n n2 none none #[] #[] (by rw [← hl, ← hl2]; exact hf.line)) ⟨ho, ho2, ?_⟩
      have e : vs ++ ws = (vs.toList ++ ws.toList).toArray := by simp
      rw [e]
      exact post_newList .refl .refl X.rel (VRs_append hvs hws) (by rw [List.length_append]; exact hf) hq rfl
    · exact h.elim
  | Sub =>
    simp only [binV] at h; split at h
    · rw [VR_int] at ha hb; obtain ⟨t, rfl⟩ := ha; obtain ⟨t', rfl⟩ := hb
      exact PySem.P.sub_int (post_tok X.rel (VR_int.mpr ⟨_, rfl⟩) h)
    · exact h.elim
  | Mult =>
    simp only [binV] at h; split at h
    · rw [VR_int] at ha hb; obtain ⟨t, rfl⟩ := ha; obtain ⟨t', rfl⟩ := hb
      exact PySem.P.mul_int (post_tok X.rel (VR_int.mpr ⟨_, rfl⟩) h.2) h.1
    · exact h.elim
  | FloorDiv =>
    simp only [binV] at h; split at h
    · rw [VR_int] at ha hb; obtain ⟨t, rfl⟩ := ha; obtain ⟨t', rfl⟩ := hb
      exact floordiv_int h.1 (post_tok X.rel (VR_int.mpr ⟨_, rfl⟩) h.2) (.inr (pylong_ok X))
    · exact h.elim
  | Mod =>
    simp only [binV] at h; split at h
    · rw [VR_int] at ha hb; obtain ⟨t, rfl⟩ := ha; obtain ⟨t', rfl⟩ := hb
      exact mod_int' h.1 (post_tok X.rel (VR_int.mpr ⟨_, rfl⟩) h.2)
    · exact h.elim
  | Pow =>
    simp only [binV] at h; split at h
    · rw [VR_int] at ha hb; obtain ⟨t, rfl⟩ := ha; obtain ⟨t', rfl⟩ := hb
      exact pow_int_small h.1.1 h.1.2.1 h.1.2.2 (post_tok X.rel (VR_int.mpr ⟨_, rfl⟩) h.2)
    · exact h.elim
  | _ => exact h.elim
end

def tBin (op : Operator) (t₁ t₂ : TE) : TE := fun ℓ σ Q E => t₁ ℓ σ (fun a σ₁ => t₂ ℓ σ₁ (fun b σ₂ => binV op a b σ₂ Q) E) E
theorem sndE_bin {op : Operator} {e₁ e₂ : Expr} {t₁ t₂ : TE} {pos : Pos} (h1 : SndE g sc r c e₁ t₁) (h2 : SndE g sc r c e₂ t₂) : SndE g sc r c (.BinOp e₁ op e₂ pos) (tBin op t₁ t₂) := .mk fun A env s ℓ σ Q E X h => by
  refine wpAny_BinOp (wpAny_mono (h1.run A env s ℓ σ _ E X h) (fun u s₁ p => ?_) fun _ _ p => p)
  obtain ⟨a, σ₁, hu, hR, hx, hs, hq⟩ := p
  have X₁ := X.step hR hx
  refine wpAny_mono (h2.run A env s₁ ℓ σ₁ _ E X₁ hq) (fun v s₂ p => ?_) fun _ _ p => p.back hx hs
  obtain ⟨b, σ₂, hv, hR2, hx2, hs2, hq2⟩ := p
  exact wp_back (hx.trans hx2) (hs.trans hs2) (bin_ok (X₁.step hR2 hx2) (hx2.vr hR noSeq_no hu) hv hq2)

/-- not, as a value -/
def tNot (t : TE) : TE := fun ℓ σ Q E => t ℓ σ (fun v σ₁ => match truthV v σ₁ with | some b => Q (.bool (!b)) σ₁ | none => False) E
theorem sndE_not {e : Expr} {t : TE} {pos : Pos} (h1 : SndE g sc r c e t) : SndE g sc r c (.UnaryOp .Not e pos) (tNot t) := .mk fun A env s ℓ σ Q E X h => by
  refine wpAny_UnaryOp (X.then (h1.run A env s ℓ σ _ E X h) fun v x s₁ σ₁ hv X₁ hx hq => ?_)
  split at hq
  · rename_i b hb; exact not_value (truth_ok X.gok X₁.rel hv hb fun tk => post_tok X₁.rel (VR_bool.mpr rfl) hq)
  · exact hq.elim
def tNeg (t : TE) : TE := fun ℓ σ Q E => t ℓ σ (fun v σ₁ => match v with | .int i => Q (.int (-i)) σ₁ | _ => False) E
theorem sndE_neg {e : Expr} {t : TE} {pos : Pos} (h1 : SndE g sc r c e t) : SndE g sc r c (.UnaryOp .USub e pos) (tNeg t) := .mk fun A env s ℓ σ Q E X h => by
  refine wpAny_UnaryOp (X.then (h1.run A env s ℓ σ _ E X h) fun v x s₁ σ₁ hv X₁ hx hq => ?_)
  split at hq
  · rw [VR_int] at hv; obtain ⟨t, rfl⟩ := hv; exact PySem.P.neg_int (post_tok X₁.rel (VR_int.mpr ⟨_, rfl⟩) hq)
  · exact hq.elim
/-- a if t else b -/
def tIf (t : TB) (a b : TE) : TE := fun ℓ σ Q E => t ℓ σ (fun x σ₁ => match x with | true => a ℓ σ₁ Q E | false => b ℓ σ₁ Q E) E
theorem sndE_if {e a b : Expr} {t : TB} {ta tb : TE} {pos : Pos} (h1 : SndB g sc r c e t) (h2 : SndE g sc r c a ta) (h3 : SndE g sc r c b tb) : SndE g sc r c (.IfExp e a b pos) (tIf t ta tb) := .mk fun A env s ℓ σ Q E X h => by
  refine wpAny_IfExp (wpAny_mono (h1.run A env s ℓ σ _ E X h) (fun u s₁ p => ?_) fun _ _ p => p)
  obtain ⟨x, σ₁, rfl, hR, hx, hs, hq⟩ := p
  cases x with
  | true => exact wp_back hx hs (h2.run A env s₁ ℓ σ₁ Q E (X.step hR hx) hq)
  | false => exact wp_back hx hs (h3.run A env s₁ ℓ σ₁ Q E (X.step hR hx) hq)

/-- and, or as values -/
structure SndV (g : Gr) (sc : Scope) (r : Nat) (c : Bool) (op : BoolOp) (es : List Expr) (t : TE) : Prop where
  run : ∀ A env pos s ℓ σ Q E, Cx g sc r c A env s.heap σ ℓ → t ℓ σ Q E → wpAny (model g.prog g.w) A (boolOp pos op (evalEach es env)) (PostE g s σ Q) (PostX g A s σ E) s
def tAnd (t ts : TE) : TE := fun ℓ σ Q E => t ℓ σ (fun v σ₁ => match truthV v σ₁ with | some true => ts ℓ σ₁ Q E | some false => Q v σ₁ | none => False) E
def tOr (t ts : TE) : TE := fun ℓ σ Q E => t ℓ σ (fun v σ₁ => match truthV v σ₁ with | some false => ts ℓ σ₁ Q E | some true => Q v σ₁ | none => False) E
theorem sndV_one {op : BoolOp} {e : Expr} {t : TE} (h1 : SndE g sc r c e t) : SndV g sc r c op [e] t := .mk fun A env pos s ℓ σ Q E X h => h1.run A env s ℓ σ Q E X h
theorem sndV_and {e e' : Expr} {es : List Expr} {t ts : TE} (h1 : SndE g sc r c e t) (h2 : SndV g sc r c .And (e' :: es) ts) : SndV g sc r c .And (e :: e' :: es) (tAnd t ts) := .mk fun A env pos s ℓ σ Q E X h => by
  show wpAny _ A (do let v ← eval e env; standAt pos; let t ← holding [v] (truthy v); match BoolOp.And, t with | .And, false | .Or, true => pure v | _, _ => boolOp pos .And (evalEach (e' :: es) env)) _ _ s
  refine wpAny_bind (X.then (h1.run A env s ℓ σ _ E X h) fun v x s₁ σ₁ hv X₁ hx hq => ?_)
  refine wpAny_bind (wpAny_standAt (wpAny_bind (wpAny_holding ?_)))
  split at hq
  · rename_i hb; exact truth_ok X.gok X₁.rel hv hb fun tk => wp_back (s := s₁) (s₁ := { s₁ with toks := tk }) .refl ⟨rfl, rfl, rfl⟩ (h2.run A env pos _ ℓ σ₁ Q E X₁ hq)
  · rename_i hb; exact truth_ok X.gok X₁.rel hv hb fun tk => wpAny_pure (post_tok X₁.rel hv hq)
  · exact hq.elim
theorem sndV_or {e e' : Expr} {es : List Expr} {t ts : TE} (h1 : SndE g sc r c e t) (h2 : SndV g sc r c .Or (e' :: es) ts) : SndV g sc r c .Or (e :: e' :: es) (tOr t ts) := .mk fun A env pos s ℓ σ Q E X h => by
  show wpAny _ A (do let v ← eval e env; standAt pos; let t ← holding [v] (truthy v); match BoolOp.Or, t with | .And, false | .Or, true => pure v | _, _ => boolOp pos .Or (evalEach (e' :: es) env)) _ _ s
  refine wpAny_bind (X.then (h1.run A env s ℓ σ _ E X h) fun v x s₁ σ₁ hv X₁ hx hq => ?_)
  refine wpAny_bind (wpAny_standAt (wpAny_bind (wpAny_holding ?_)))
  split at hq
  · rename_i hb; exact truth_ok X.gok X₁.rel hv hb fun tk => wp_back (s := s₁) (s₁ := { s₁ with toks := tk }) .refl ⟨rfl, rfl, rfl⟩ (h2.run A env pos _ ℓ σ₁ Q E X₁ hq)
  · rename_i hb; exact truth_ok X.gok X₁.rel hv hb fun tk => wpAny_pure (post_tok X₁.rel hv hq)
  · exact hq.elim
theorem sndE_boolop {op : BoolOp} {es : List Expr} {t : TE} {pos : Pos} (h1 : SndV g sc r c op es t) : SndE g sc r c (.BoolOp op es pos) t := .mk fun A env s ℓ σ Q E X h => h1.run A env pos s ℓ σ Q E X h
end Mine

open PySem PyProof.Rows
namespace Mine
variable {g : Gr} {sc : Scope} {r : Nat} {c : Bool}

/-! ## items -/
def atV (xs : List V) (k : Int) : Option V := (seqIndex? k xs.length).bind (xs[·]?)
def itemV (o i : V) (σ : AH) (Q : V → Prop) : Prop := match o with
  | .tup xs => match i with | .int k => (match atV xs k with | some x => Q x | none => False) | _ => False
  | .frz xs => match i with | .int k => (match atV xs k with | some x => Q x | none => False) | _ => False
  | .ref a => match σ a with
    | some (.list xs) => (match i with | .int k => (match atV xs k with | some x => Q x | none => False) | _ => False)
    | some (.dictI kvs _) => (match i with | .int k => (match kvs.lookup k with | some x => Q x | none => False) | _ => False)
    | some (.dictS kvs _) => (match i with | .str k => (match kvs.lookup k with | some x => Q x | none => False) | _ => False)
    | some (.dictT kvs _) => ∃ ks : List Int, i = .tup (ks.map V.int) ∧ (match kvs.lookup ks with | some x => Q x | none => False)
    | _ => False
  | _ => False

theorem seqIndex_some {k : Int} {n j : Nat} (h : seqIndex? k n = some j) : j < n ∧ ((0 ≤ k ∧ j = k.toNat) ∨ (k < 0 ∧ -(n : Int) ≤ k ∧ j = (k + n).toNat)) := by
  unfold seqIndex? at h
  dsimp only at h
  by_cases hk : k < 0
  · rw [if_pos hk] at h
    split at h
    · rename_i q
      simp only [Bool.and_eq_true, decide_eq_true_eq] at q
      cases h
      exact ⟨by omega, .inr ⟨hk, by omega, rfl⟩⟩
    · cases h
  · rw [if_neg hk] at h
    split at h
    · rename_i q
      simp only [Bool.and_eq_true, decide_eq_true_eq] at q
      cases h
      exact ⟨by omega, .inl ⟨by omega, rfl⟩⟩
    · cases h
theorem atV_some {xs : List V} {k : Int} {x : V} (h : atV xs k = some x) : ∃ j, seqIndex? k xs.length = some j ∧ xs[j]? = some x := by
  unfold atV at h
  exact Option.bind_eq_some_iff.mp h

theorem lookup_pairs {K : Type} [DecidableEq K] {g : Gr} {h : Heap} {kvs : List (K × V)} {us : List (K × Value)} (hk : us.map (·.1) = kvs.map (·.1)) (hv : VRs g h (kvs.map (·.2)) (us.map (·.2))) {k : K} {x : V} (e : kvs.lookup k = some x) :
    ∃ v, valueAt us k = some v ∧ VR g h x v := by
  induction kvs generalizing us with
  | nil => cases e
  | cons kv kvs ih =>
    cases us with
    | nil => simp at hk
    | cons u us =>
      simp only [List.map_cons, List.cons.injEq] at hk hv
      obtain ⟨v, r, e2, h1, h2⟩ := VRs_cons_inv hv
      cases e2
      rw [List.lookup_cons] at e
      unfold valueAt
      rw [List.find?_cons]
      by_cases q : k = kv.1
      · have : (k == kv.1) = true := by simpa using q
        rw [this] at e; cases e
        have : decide (u.1 = k) = true := by rw [hk.1, q]; simp
        rw [this]; exact ⟨_, rfl, h1⟩
      · have : (k == kv.1) = false := by simpa using q
        rw [this] at e
        have : decide (u.1 = k) = false := by rw [hk.1]; simpa using fun z => q z.symm
        rw [this]; exact ih hk.2 h2 e
theorem lookup_keys {g : Gr} {h : Heap} {kvs : List (List Int × V)} {us : List (List Int × Addr × Value)} (hk : us.map (·.1) = kvs.map (·.1)) (hv : VRs g h (kvs.map (·.2)) (us.map (·.2.2))) {k : List Int} {x : V} (e : kvs.lookup k = some x) :
    ∃ p, atKey us k = some p ∧ VR g h x p.2 := by
  induction kvs generalizing us with
  | nil => cases e
  | cons kv kvs ih =>
    cases us with
    | nil => simp at hk
    | cons u us =>
      simp only [List.map_cons, List.cons.injEq] at hk hv
      obtain ⟨v, r, e2, h1, h2⟩ := VRs_cons_inv hv
      cases e2
      rw [List.lookup_cons] at e
      unfold atKey
      rw [List.find?_cons]
      by_cases q : k = kv.1
      · have : (k == kv.1) = true := by simpa using q
        rw [this] at e; cases e
        have : decide (u.1 = k) = true := by rw [hk.1, q]; simp
        rw [this]; exact ⟨_, rfl, h1⟩
      · have : (k == kv.1) = false := by simpa using q
        rw [this] at e
        have : decide (u.1 = k) = false := by rw [hk.1]; simpa using fun z => q z.symm
        rw [this]; exact ih hk.2 h2 e

section
variable {A : Around} {env : Env} {E : Value → Shared → Prop} {s : Shared} {σ : AH} {ℓ : Loc}
theorem getList_ok {l : Addr} {o : Obj} {vs : Array Value} {n : Nat} {xs : List V} {k : Int} {t : Tok} {x : V} {P : Value → Shared → Prop} (ho : s.heap.get? l = some o) (hc : o.cls = .type "list") (hd : o.data = .seq vs n) (hf : Fits xs.length) (hvs : VRs g s.heap xs vs.toList)
    (e : atV xs k = some x) (hq : ∀ v, VR g s.heap x v → P v s) : wpAny (model g.prog g.w) A (getItem (.ref l) (.int k t)) P E s := by
  obtain ⟨j, e1, e2⟩ := atV_some e
  obtain ⟨v, e3, hv⟩ := VRs_get hvs e2
  have hl := VRs_length hvs
  simp only [Array.length_toList] at hl
  obtain ⟨hj, hk⟩ := seqIndex_some e1
  have := hf
  unfold Fits at this
  rcases hk with ⟨h0, rfl⟩ | ⟨h0, h1, rfl⟩
  · exact wpAny_getItem_list ⟨o, ho, hc, n, hd⟩ h0 (by omega) (by rw [← Array.getElem?_toList]; exact e3) (hq v hv)
  · refine wpAny_getItem_list_neg ⟨o, ho, hc, n, hd⟩ h0 (by rw [← hl]; exact h1) (by omega) ?_ (hq v hv)
    rw [← hl, ← Array.getElem?_toList]; exact e3
theorem typeIs_at {a : Addr} {o : Obj} {T : String} (ho : s.heap.get? a = some o) (hc : o.cls = .type T) : s.TypeIs (.ref a) T := ⟨o, ho, hc⟩
theorem item_ok {value slice : Expr} {o i : V} {u v : Value} {Q : V → Prop} {P : Value → Shared → Prop} (X : Cx g sc r c A env s.heap σ ℓ) (ho : VR g s.heap o u) (hi : VR g s.heap i v) (h : itemV o i σ Q)
    (hs : ∀ a b, subscripted slice false a b = operate [a, b] (getItem a b)) (hq : ∀ x w tk, Q x → VR g s.heap x w → P w { s with toks := tk }) : wpAny (model g.prog g.w) A (subscriptTail value slice u v) P E s := by
  have hu := X.room.cline
  unfold itemV at h
  split at h
  · rename_i xs
    split at h
    · rename_i k
      split at h
      · rename_i x e
        rw [VR_int] at hi; obtain ⟨t, rfl⟩ := hi
        rw [VR_tup] at ho; obtain ⟨hf, a, ob, vs, n, rfl, nh, hob, hc, hd, hvs⟩ := ho
        obtain ⟨j, e1, e2⟩ := atV_some e
        obtain ⟨w, e3, hw⟩ := VRs_get hvs e2
        have hl := VRs_length hvs
        simp only [Array.length_toList] at hl
        obtain ⟨hj, hk⟩ := seqIndex_some e1
        have := hf
        unfold Fits at this
        exact tail_any (typeIs_at hob hc) slot_tuple_getitem.lookup (getItem_tuple ⟨ob, hob, hc, n, hd⟩ (by omega) (by omega) (by rw [← hl]; exact e1) (by rw [← Array.getElem?_toList]; exact e3) (hq x w s.toks h hw)) (hs _ _)
      · exact h.elim
    · exact h.elim
  · rename_i xs
    split at h
    · rename_i k
      split at h
      · rename_i x e
        rw [VR_int] at hi; obtain ⟨t, rfl⟩ := hi
        rw [VR_frz] at ho; obtain ⟨hf, a, ob, vs, n, rfl, hob, hc, hd, hvs⟩ := ho
        exact tail_any (typeIs_at (X.rel.base _ _ hob) hc) slot_list_getitem.lookup (getList_ok (X.rel.base _ _ hob) hc hd hf hvs e fun w hw => hq x w s.toks h hw) (hs _ _)
      · exact h.elim
    · exact h.elim
  · rename_i a
    rw [VR_ref] at ho; subst ho
    split at h
    · rename_i xs ea
      obtain ⟨_, hf, vs, n, hob, hvs⟩ := X.rel.own a _ ea
      split at h
      · rename_i k
        split at h
        · rename_i x e
          rw [VR_int] at hi; obtain ⟨t, rfl⟩ := hi
          exact tail_any (typeIs_at hob rfl) slot_list_getitem.lookup (getList_ok hob rfl rfl hf hvs e fun w hw => hq x w s.toks h hw) (hs _ _)
        · exact h.elim
      · exact h.elim
    · rename_i kvs ep ea
      obtain ⟨_, hf, us, hd, hk, hvs⟩ := X.rel.own a _ ea
      split at h
      · rename_i k
        split at h
        · rename_i x e
          rw [VR_int] at hi; obtain ⟨t, rfl⟩ := hi
          obtain ⟨w, e2, hw⟩ := lookup_pairs hk hvs e
          exact tail_any hd.dictOf.typeIs slot_dict_getitem.lookup (wpAny_getItem_of (intKind_is _ _ k t) hd.dictOf.mapOf e2 (hq x w _ h hw)) (hs _ _)
        · exact h.elim
      · exact h.elim
    · rename_i kvs ep ea
      obtain ⟨_, hf, us, hd, hk, hvs⟩ := X.rel.own a _ ea
      split at h
      · rename_i k
        split at h
        · rename_i x e
          rw [VR_str] at hi; obtain ⟨_, t, rfl⟩ := hi
          obtain ⟨w, e2, hw⟩ := lookup_pairs hk hvs e
          exact tail_any hd.dictOf.typeIs slot_dict_getitem.lookup (wpAny_getItem_of (strKind_is _ _ k t) hd.dictOf.mapOf e2 (hq x w _ h hw)) (hs _ _)
        · exact h.elim
      · exact h.elim
    · rename_i kvs ep ea
      obtain ⟨_, hf, us, hd, hk, hvs⟩ := X.rel.own a _ ea
      obtain ⟨ks, rfl, h⟩ := h
      split at h
      · rename_i x e
        obtain ⟨ka, rfl, _, hka⟩ := tupleKey_of hi
        obtain ⟨p, e2, hw⟩ := lookup_keys hk hvs e
        exact tail_any hd.ofH.typeIs slot_dict_getitem.lookup (wpAny_getItem_heap (knd := tupleKind (intKind g.prog g.w)) (tupleKind_room_in1 (by omega)) hka hd.ofH e2 (hq x p.2 _ h hw)) (hs _ _)
      · exact h.elim
    · exact h.elim
  · exact h.elim
end
def tItem (t₁ t₂ : TE) : TE := fun ℓ σ Q E => t₁ ℓ σ (fun a σ₁ => t₂ ℓ σ₁ (fun b σ₂ => itemV a b σ₂ fun x => Q x σ₂) E) E
theorem sndE_item {e₁ e₂ : Expr} {t₁ t₂ : TE} {pos : Pos} (h1 : SndE g sc r c e₁ t₁) (h2 : SndE g sc r c e₂ t₂) (hs : ∀ a b, subscripted e₂ false a b = operate [a, b] (getItem a b)) : SndE g sc r c (.Subscript e₁ e₂ pos) (tItem t₁ t₂) := .mk fun A env s ℓ σ Q E X h => by
  refine Subscript_ (wpAny_mono (h1.run A env s ℓ σ _ E X h) (fun u s₁ p => ?_) fun _ _ p => p)
  obtain ⟨a, σ₁, hu, hR, hx, hs1, hq⟩ := p
  have X₁ := X.step hR hx
  refine wpAny_mono (h2.run A env s₁ ℓ σ₁ _ E X₁ hq) (fun v s₂ p => ?_) fun _ _ p => p.back hx hs1
  obtain ⟨b, σ₂, hv, hR2, hx2, hs2, hq2⟩ := p
  exact wp_back (hx.trans hx2) (hs1.trans hs2) (item_ok (X₁.step hR2 hx2) (hx2.vr hR noSeq_no hu) hv hq2 hs fun x w tk hx hw => post_tok hR2 hw hx)

/-! ## slices by bounds that are not negative -/
def loN : Option Int → Nat
  | some a => a.toNat
  | none => 0
def hiN (n : Nat) : Option Int → Nat
  | some b => min b.toNat n
  | none => n
def takeV {α : Type} (xs : List α) : Option Int → List α
  | some b => xs.take b.toNat
  | none => xs
def cutV {α : Type} (lo hi : Option Int) (xs : List α) : List α := (takeV xs hi).drop (loN lo)
def Nonneg : Option Int → Prop
  | some a => 0 ≤ a
  | none => True
theorem cutV_length {α : Type} (lo hi : Option Int) (xs : List α) : (cutV lo hi xs).length ≤ xs.length := by
  unfold cutV
  rw [List.length_drop]
  cases hi with
  | none => exact Nat.sub_le _ _
  | some b => unfold takeV; rw [List.length_take]; omega
theorem VRs_cut {g : Gr} {h : Heap} {xs : List V} {vs : List Value} (lo hi : Option Int) (a : VRs g h xs vs) : VRs g h (cutV lo hi xs) (cutV lo hi vs) := by
  unfold cutV
  cases hi with
  | none => exact VRs_drop _ a
  | some b => exact VRs_drop _ (VRs_take _ a)
theorem run_eq_cut {α : Type} (xs : List α) (a b : Nat) : (xs.drop (min a xs.length)).take (min b xs.length - min a xs.length) = (xs.take b).drop a := by
  apply List.ext_getElem?
  intro i
  rw [List.getElem?_drop, List.getElem?_take, List.getElem?_take, List.getElem?_drop]
  by_cases h1 : a + i < b
  · rw [if_pos h1]
    by_cases h2 : a + i < xs.length
    · rw [if_pos (by omega)]; congr 1; omega
    · have e : xs[a + i]? = none := List.getElem?_eq_none (by omega)
      rw [e]
      split
      · exact List.getElem?_eq_none (by omega)
      · rfl
  · rw [if_neg h1]
    split
    · exact absurd ‹_› (by omega)
    · rfl
theorem hiN_take {α : Type} (xs : List α) (hi : Option Int) : takeV xs hi = xs.take (hiN xs.length hi) := by
  cases hi with
  | none => unfold takeV hiN; rw [List.take_length]
  | some b => unfold takeV hiN; rw [← List.take_take, List.take_length]
theorem hiN_le (n : Nat) (hi : Option Int) : hiN n hi ≤ n := by cases hi <;> simp only [hiN] <;> omega
theorem slicePick_cut (items : Array Value) {lo hi : Option Int} (h1 : Nonneg lo) (h2 : Nonneg hi) : (slicePick items lo hi none).toList = cutV lo hi items.toList := by
  have hn : items.toList.length = items.size := by simp
  have e : sliceBounds lo hi none items.size = (((min (loN lo) items.size : Nat) : Int), ((hiN items.size hi : Nat) : Int), 1) := by
    simp only [sliceBounds, Option.getD_none, show (1 : Int) > 0 by decide, if_true]
    congr 1
    · cases lo with
      | none => simp [loN]
      | some a => have : 0 ≤ a := h1
                  unfold loN; dsimp only; rw [if_neg (by omega)]; omega
    · congr 1
      cases hi with
      | none => rfl
      | some b => have : 0 ≤ b := h2
                  unfold hiN; dsimp only; rw [if_neg (by omega)]; omega
  unfold slicePick
  rw [e]
  simp only [sliceRange_one, pick_run]
  unfold cutV
  rw [hiN_take]
  have := run_eq_cut items.toList (loN lo) (hiN items.toList.length hi)
  rw [Nat.min_eq_left (hiN_le _ hi), hn] at this
  rw [hn]
  exact this
end Mine

open PySem PyProof.Rows
namespace Mine
variable {g : Gr} {sc : Scope} {r : Nat} {c : Bool}

section
variable {prog : Program} {w : World} {A : Around} {E : Value → Shared → Prop} {s : Shared}
theorem slicePart_part {v : Value} {k : Option Int} {Q : Option Int → Shared → Prop} (p : IsPart v k) (h : Q k s) : wpAny (model prog w) A (Builtin.Slice.slicePartIndex v) Q E s := by
  cases p with
  | none => exact slicePart_none h
  | int i t => exact slicePart_int h
theorem adjust_cut {lo hi : Option Int} (h1 : Nonneg lo) (h2 : Nonneg hi) (n : Nat) : Builtin.Slice.sliceAdjust lo hi 1 (n : Int) = (((min (loN lo) n : Nat) : Int), ((hiN n hi : Nat) : Int)) := by
  unfold Builtin.Slice.sliceAdjust
  have e : ¬ ((1 : Int) < 0) := by omega
  simp only [e, if_false]
  congr 1
  · cases lo with
    | none => simp [loN]
    | some a => have : 0 ≤ a := h1
                simp only [loN]; rw [if_neg (by omega)]; omega
  · cases hi with
    | none => rfl
    | some b => have : 0 ≤ b := h2
                simp only [hiN]; rw [if_neg (by omega)]; omega
theorem places_cut (a b : Nat) : Builtin.Slice.slicePlaces (a : Int) (b : Int) 1 = b - a := by
  unfold Builtin.Slice.slicePlaces
  have h1 : (1 : Int) > 0 := by omega
  simp only [h1, if_true, Int.ediv_one]
  split <;> omega
theorem sliceApplied_cut {sl : Addr} {vl vu : Value} {lo hi : Option Int} {n : Nat} {Q : Int × Int × Nat → Shared → Prop} (hs : s.heap.IsSliceOf sl vl vu .none) (p1 : IsPart vl lo) (p2 : IsPart vu hi) (h1 : Nonneg lo) (h2 : Nonneg hi)
    (h : Q (((min (loN lo) n : Nat) : Int), 1, hiN n hi - min (loN lo) n) s) : wpAny (model prog w) A (Builtin.Slice.sliceApplied (.ref sl) (pure (n : Int))) Q E s := by
  obtain ⟨os, hos, hcs, hds⟩ := id hs
  unfold Builtin.Slice.sliceApplied Builtin.Slice.sliceFields
  refine wpAny_bind (wpAny_bind (wpAny_field hos hds (x := vl) rfl (wpAny_bind (wpAny_field hos hds (x := vu) rfl (wpAny_bind (wpAny_field hos hds (x := .none) rfl (wpAny_pure ?_)))))))
  refine wpAny_bind (slicePart_none ?_)
  show wpAny _ _ (if ((1 : Int) == 0) = true then _ else _) _ _ s
  rw [if_neg (by decide)]
  refine wpAny_bind (slicePart_part p1 (wpAny_bind (slicePart_part p2 (wpAny_bind (wpAny_pure ?_)))))
  show wpAny _ _ (match Builtin.Slice.sliceAdjust lo hi 1 (n : Int) with | (lo, hi) => pure (lo, (1 : Int), Builtin.Slice.slicePlaces lo hi 1)) _ _ s
  rw [adjust_cut h1 h2]
  show wpAny _ _ (pure (((min (loN lo) n : Nat) : Int), (1 : Int), Builtin.Slice.slicePlaces ((min (loN lo) n : Nat) : Int) ((hiN n hi : Nat) : Int) 1)) _ _ s
  rw [places_cut]
  exact wpAny_pure h
theorem pick_cut (xs : Array Value) (lo hi : Option Int) : ((List.range (hiN xs.size hi - min (loN lo) xs.size)).filterMap fun (k : Nat) => xs[(((min (loN lo) xs.size : Nat) : Int) + (k : Int) * 1).toNat]?) = cutV lo hi xs.toList := by
  have hn : xs.toList.length = xs.size := by simp
  have e : (fun (k : Nat) => xs[(((min (loN lo) xs.size : Nat) : Int) + (k : Int) * 1).toNat]?) = fun k => xs[min (loN lo) xs.size + k]? := by
    funext k
    have : (((min (loN lo) xs.size : Nat) : Int) + (k : Int) * 1).toNat = min (loN lo) xs.size + k := by omega
    rw [this]
  rw [e]
  have := pick_run xs (min (loN lo) xs.size) (hiN xs.size hi - min (loN lo) xs.size)
  rw [List.filterMap_map] at this
  have e2 : ((fun x => xs[x]?) ∘ fun x => min (loN lo) xs.size + x) = fun k => xs[min (loN lo) xs.size + k]? := rfl
  rw [e2] at this
  rw [this]
  unfold cutV
  rw [hiN_take]
  have q := run_eq_cut xs.toList (loN lo) (hiN xs.toList.length hi)
  rw [Nat.min_eq_left (hiN_le _ hi), hn] at q
  rw [hn]; exact q
/-- a tuple is cut: the tuple itself, or a new one -/
theorem getItem_tuple_cut {t sl : Addr} {items : Array Value} {vl vu : Value} {lo hi : Option Int} {Q : Value → Shared → Prop} (ht : IsTup s.heap t items) (hs : s.heap.IsSliceOf sl vl vu .none) (p1 : IsPart vl lo) (p2 : IsPart vu hi) (h1 : Nonneg lo) (h2 : Nonneg hi)
    (hq1 : cutV lo hi items.toList = items.toList → Q (.ref t) s) (hq2 : Q (.ref s.heap.objs.size) { s with heap := s.heap.push { cls := .type "tuple", data := .seq (cutV lo hi items.toList).toArray } })
    (hsz : items.size ≤ sizeLine) : wpAny (model prog w) A (getItem (.ref t) (.ref sl)) Q E s := by
  have hdrop : sizeOk (.seq (cutV lo hi items.toList).toArray) := by
    show (cutV lo hi items.toList).toArray.size ≤ sizeLine
    have h3 := cutV_length lo hi items.toList
    have h4 : items.toList.length = items.size := by simp
    have h5 : (cutV lo hi items.toList).toArray.size = (cutV lo hi items.toList).length := List.size_toArray
    omega
  obtain ⟨os, hos, hcs, hds⟩ := id hs
  have hTs : s.TypeIs (.ref sl) "slice" := ⟨os, hos, hcs⟩
  unfold getItem
  try with_reducible refine wpAny_holding ?_
  refine wpAny_bind (wpAny_sequenceKey ht.typeIs (by decide) ?_)
  refine wpAny_bind (wpAny_callSpecial?_slot (name := Str.ofString "__getitem__") ht.typeIs slot_tuple_getitem
    (wpAny_call_entry slot_tuple_getitem ht.typeIs entry_tuple_getitem ?_ (args_tuple_getitem _ _)))
  show wpAny _ _ (Builtin.Tuple.tupleItemsOf (.ref t) >>= _) _ _ s
  refine wpAny_bind (tupleItemsOf_ ht ?_)
  refine wpAny_bind (wpAny_typeOf hTs ?_)
  rw [if_pos (by decide)]
  refine wpAny_bind (sliceApplied_cut hs p1 p2 h1 h2 ?_)
  show wpAny _ _ (if (((min (loN lo) items.size : Nat) : Int) == 0 && (1 : Int) == 1 && (hiN items.size hi - min (loN lo) items.size) == items.size) = true then _ else _) _ _ s
  split
  · rename_i q
    simp only [Bool.and_eq_true, beq_iff_eq] at q
    have e : cutV lo hi items.toList = items.toList := by
      rw [← pick_cut, q.2]
      have : min (loN lo) items.size = 0 := by omega
      rw [this]
      have e2 := pick_run items 0 items.size
      rw [List.filterMap_map] at e2
      have e3 : ((fun x => items[x]?) ∘ fun x => 0 + x) = fun (k : Nat) => items[(((0 : Nat) : Int) + (k : Int) * 1).toNat]? := by
        funext k
        show items[0 + k]? = _
        congr 1; omega
      rw [e3] at e2
      rw [e2, List.drop_zero]
      exact List.take_of_length_le (by simp)
    refine wpAny_bind (m := Builtin.Tuple.tupleIsExact (.ref t)) ?_
    unfold Builtin.Tuple.tupleIsExact
    refine wpAny_bind (wpAny_typeOf ht.typeIs (wpAny_pure ?_))
    rw [if_pos (by decide)]
    exact wpAny_bind (wpAny_rule (wpAny_pure ⟨_, rfl, wpAny_pure (hq1 e)⟩))
  · rw [pick_cut]
    exact wpAny_bind (m := Builtin.Tuple.tupleExact _) (wpAny_newObj_type (wpAny_pure ⟨_, rfl, wpAny_pure hq2⟩) hdrop)
end

/-- a bound that is left out, or given -/
structure SndO (g : Gr) (sc : Scope) (r : Nat) (c : Bool) (e : Option Expr) (t : TE) : Prop where
  run : ∀ A env s ℓ σ Q E, Cx g sc r c A env s.heap σ ℓ → t ℓ σ Q E → wpAny (model g.prog g.w) A (evalPart e env) (PostE g s σ Q) (PostX g A s σ E) s
theorem sndO_none : SndO g sc r c none (tConst .none) := .mk fun A env s ℓ σ Q E X h => wpAny_pure (.here (VR_none.mpr rfl) X.rel h)
theorem sndO_some {e : Expr} {t : TE} (h1 : SndE g sc r c e t) : SndO g sc r c (some e) t := .mk h1.run

def boundV : V → Option (Option Int)
  | .none => some none
  | .int i => some (some i)
  | _ => none
theorem isPart_of {g : Gr} {h : Heap} {x : V} {v : Value} {k : Option Int} (hv : VR g h x v) (e : boundV x = some k) : IsPart v k := by
  cases x with
  | none => rw [VR_none] at hv; subst hv; cases e; exact .none
  | int i => rw [VR_int] at hv; obtain ⟨t, rfl⟩ := hv; cases e; exact .int i t
  | _ => cases e
def sliceV (o : V) (lo hi : V) (σ : AH) (Q : V → AH → Prop) : Prop := match boundV lo, boundV hi with
  | some l, some h => Nonneg l ∧ Nonneg h ∧ (match o with
    | .tup xs => Q (.tup (cutV l h xs)) σ
    | .frz xs => ∀ a, σ a = none → Q (.ref a) (σ.set a (.list (cutV l h xs)))
    | .ref a => (match σ a with
      | some (.list xs) => ∀ a, σ a = none → Q (.ref a) (σ.set a (.list (cutV l h xs)))
      | _ => False)
    | _ => False)
  | _, _ => False
def tSlice (t t₁ t₂ : TE) : TE := fun ℓ σ Q E => t ℓ σ (fun o σ₁ => t₁ ℓ σ₁ (fun lo σ₂ => t₂ ℓ σ₂ (fun hi σ₃ => sliceV o lo hi σ₃ Q) E) E) E
theorem sndE_slice {e : Expr} {lo hi : Option Expr} {t t₁ t₂ : TE} {p pos : Pos} (h0 : SndE g sc r c e t) (h1 : SndO g sc r c lo t₁) (h2 : SndO g sc r c hi t₂) : SndE g sc r c (.Subscript e (.Slice lo hi none p) pos) (tSlice t t₁ t₂) := .mk fun A env s ℓ σ Q E X h => by
  refine Subscript_ (wpAny_mono (h0.run A env s ℓ σ _ E X h) (fun u s₁ q => ?_) fun _ _ q => q)
  obtain ⟨o, σ₁, hu, hR, hx, hs1, hq⟩ := q
  have X₁ := X.step hR hx
  refine wpAny_Slice (wpAny_mono (h1.run A env s₁ ℓ σ₁ _ E X₁ hq) (fun vl s₂ q => ?_) fun _ _ q => q.back hx hs1)
  obtain ⟨lo', σ₂, hl, hR2, hx2, hs2, hq2⟩ := q
  have X₂ := X₁.step hR2 hx2
  have hx02 := hx.trans hx2
  have hs02 := hs1.trans hs2
  refine wpAny_mono (h2.run A env s₂ ℓ σ₂ _ E X₂ hq2) (fun vu s₃ q => ?_) fun _ _ q => q.back hx02 hs02
  obtain ⟨hi', σ₃, hh, hR3, hx3, hs3, hq3⟩ := q
  have X₃ := X₂.step hR3 hx3
  have hx03 := hx02.trans hx3
  have hs03 := hs02.trans hs3
  rw [evalPart_none]
  refine wpAny_pure ?_
  have hu3 : VR g s₃.heap o u := hx3.vr hR2 noSeq_no (hx2.vr hR noSeq_no hu)
  have hl3 := hx3.vr hR2 noSeq_no hl
  unfold sliceV at hq3
  split at hq3
  · rename_i l hb e1 e2
    obtain ⟨n1, n2, hq3⟩ := hq3
    have p1 := isPart_of hl3 e1
    have p2 := isPart_of hh e2
    have hk := push_keeps s₃.heap { cls := .type "slice", data := .fields #[vl, vu, .none] }
    have sub : ∀ a b, subscripted (.Slice lo hi none p) false a b = operate [b, a] (getItem a b) := fun _ _ => rfl
    have hR4 := hR3.keeps hk
    have hx04 : Ext No s.heap σ (s₃.heap.push { cls := .type "slice", data := .fields #[vl, vu, .none] }) σ₃ := hx03.trans (.keeps hk)
    have hs04 : Same s { s₃ with heap := s₃.heap.push { cls := .type "slice", data := .fields #[vl, vu, .none] } } := hs03.trans ⟨rfl, rfl, rfl⟩
    have cutL : ∀ (a : Addr) (ob : Obj) (vs : Array Value) (n : Nat) (xs : List V), s₃.heap.get? a = some ob → ob.cls = .type "list" → ob.data = .seq vs n → Fits xs.length → VRs g s₃.heap xs vs.toList →
        (∀ a, σ₃ a = none → Q (.ref a) (σ₃.set a (.list (cutV l hb xs)))) →
        wpAny (model g.prog g.w) A (subscriptTail e (.Slice lo hi none p) (.ref a) (.ref s₃.heap.objs.size)) (PostE g s σ Q) (PostX g A s σ E) { s₃ with heap := s₃.heap.push { cls := .type "slice", data := .fields #[vl, vu, .none] } } := by
      intro a ob vs n xs hob hc hd hf hvs hQ
      have hlen := VRs_length hvs
      simp only [Array.length_toList] at hlen
      refine tail_any (typeIs_at (s := { s₃ with heap := s₃.heap.push { cls := .type "slice", data := .fields #[vl, vu, .none] } }) (hk _ _ hob) hc) slot_list_getitem.lookup ?_ (sub _ _)
      refine wpAny_getItem_list_slice (s := { s₃ with heap := s₃.heap.push { cls := .type "slice", data := .fields #[vl, vu, .none] } }) ⟨ob, hk _ _ hob, hc, n, hd⟩ (Heap.IsSliceOf.new ..) p1 p2 .none (by simp) ?_ (by rw [← hlen]; exact hf.line)
      refine post_newList (vs := (slicePick vs l hb none).toList) (n := 0) (s₁ := { s₃ with heap := s₃.heap.push { cls := .type "slice", data := .fields #[vl, vu, .none] } }) hx04 hs04 hR4 ?_ (hf.le (cutV_length ..)) hQ rfl
      rw [slicePick_cut vs n1 n2]
      exact VRs_cut _ _ (VRs.mono (fun a o _ _ _ e _ _ => .of (hk a o e)) hvs)
    split at hq3
    · rename_i xs
      rw [VR_tup] at hu3; obtain ⟨hf, a, ob, vs, n, rfl, nh, hob, hc, hd, hvs⟩ := hu3
      have hlen := VRs_length hvs
      simp only [Array.length_toList] at hlen
      have ht : IsTup (s₃.heap.push { cls := .type "slice", data := .fields #[vl, vu, .none] }) a vs := ⟨ob, hk _ _ hob, hc, n, hd⟩
      have hvs4 := VRs.mono (g := g) (h' := s₃.heap.push { cls := .type "slice", data := .fields #[vl, vu, .none] }) (fun a o _ _ _ e _ _ => .of (hk a o e)) hvs
      refine tail_any (typeIs_at (s := { s₃ with heap := s₃.heap.push { cls := .type "slice", data := .fields #[vl, vu, .none] } }) (hk _ _ hob) hc) slot_tuple_getitem.lookup ?_ (sub _ _)
      refine getItem_tuple_cut (s := { s₃ with heap := s₃.heap.push { cls := .type "slice", data := .fields #[vl, vu, .none] } }) ht (Heap.IsSliceOf.new ..) p1 p2 n1 n2 (fun ec => ?_) ?_ (by rw [← hlen]; exact hf.line)
      · have : cutV l hb xs = xs := by
          apply List.ext_getElem?
          have h1 := VRs_length (VRs_cut l hb hvs)
          rw [ec] at h1
          have h2 : (cutV l hb xs).length = xs.length := by rw [h1]; simp [hlen]
          intro i
          unfold cutV at h2 ⊢
          rw [List.length_drop] at h2
          have h4 : (takeV xs hb).length ≤ xs.length := by
            cases hb with
            | none => exact Nat.le_refl _
            | some b => simp only [takeV]; rw [List.length_take]; omega
          by_cases h5 : xs.length = 0
          · have : xs = [] := List.length_eq_zero_iff.mp h5
            subst this
            cases hb <;> simp [takeV]
          · have h6 : loN l = 0 := by omega
            rw [h6, List.drop_zero]
            cases hb with
            | none => rfl
            | some b =>
              simp only [takeV] at h2 h4 ⊢
              rw [h6, List.length_take] at h2
              rw [List.take_of_length_le (by omega)]
        rw [this] at hq3
        exact ⟨.tup xs, σ₃, VR_tup.mpr ⟨hf, a, ob, vs, n, rfl, nh, hk _ _ hob, hc, hd, hvs4⟩, hR4, hx04, hs04, hq3⟩
      · exact post_newTuple (s₁ := { s₃ with heap := s₃.heap.push { cls := .type "slice", data := .fields #[vl, vu, .none] } }) (n := 0) hx04 hs04 hR4 (VRs_cut l hb hvs4) (hf.le (cutV_length ..)) hq3 rfl
    · rename_i xs
      rw [VR_frz] at hu3; obtain ⟨hf, a, ob, vs, n, rfl, hob, hc, hd, hvs⟩ := hu3
      exact cutL a ob vs n xs (hR3.base _ _ hob) hc hd hf hvs hq3
    · rename_i a
      rw [VR_ref] at hu3; subst hu3
      split at hq3
      · rename_i xs ea
        obtain ⟨_, hf, vs, n, hob, hvs⟩ := hR3.own a _ ea
        exact cutL a _ vs n xs hob rfl rfl hf hvs hq3
      · exact hq3.elim
    · exact hq3.elim
  · exact hq3.elim
end Mine

open PySem PyProof.Rows
namespace Mine
variable {g : Gr} {sc : Scope} {r : Nat} {c : Bool}

theorem ofString_inj {a b : String} (h : Str.ofString a = Str.ofString b) : a = b := by
  rw [Str.ofString_eq_toList, Str.ofString_eq_toList] at h
  have h1 : (a.toList.map Char.toNat).toArray = (b.toList.map Char.toNat).toArray := Str.mk.inj h
  have h2 : a.toList.map Char.toNat = b.toList.map Char.toNat := by simpa using h1
  have h3 : a.toList = b.toList := by
    have inj : ∀ (x y : List Char), x.map Char.toNat = y.map Char.toNat → x = y := by
      intro x
      induction x with
      | nil => intro y e; cases y with | nil => rfl | cons _ _ => simp at e
      | cons c x ih =>
        intro y e
        cases y with
        | nil => simp at e
        | cons d y =>
          simp only [List.map_cons, List.cons.injEq] at e
          have : c = d := Char.toNat_inj.mp e.1
          rw [this, ih y e.2]
    exact inj _ _ h2
  exact String.toList_inj.mp h3

/-! ## statements -/
inductive Fl where
  | next
  | brk
  | cont
  | ret (v : V)
def FRel (g : Gr) (h : Heap) : Fl → Flow → Prop
  | .next, f => f = .next
  | .brk, f => f = .brk
  | .cont, f => f = .cont
  | .ret v, f => ∃ u, f = .ret u ∧ VR g h v u
abbrev TS := Loc → AH → (Fl → Loc → AH → Prop) → (Addr → Loc → AH → Prop) → Prop
/-- what a block may write: its own names -/
def Own (env : Env) : Addr → Prop := fun a => a = env.locals ∨ ∃ x, env.cells.lookup x = some a
def PostS (g : Gr) (env : Env) (s : Shared) (σ : AH) (Q : Fl → Loc → AH → Prop) (f : Flow) (s' : Shared) : Prop :=
  ∃ f' ℓ' σ', FRel g s'.heap f' f ∧ LR g s'.heap σ' env ℓ' ∧ Rel g s'.heap σ' ∧ Ext (Own env) s.heap σ s'.heap σ' ∧ Same s s' ∧ Q f' ℓ' σ'
def PostXS (g : Gr) (A : Around) (env : Env) (s : Shared) (σ : AH) (E : Addr → Loc → AH → Prop) (e : Value) (s' : Shared) : Prop :=
  ∃ C ℓ' σ', XAt g A s'.heap e C σ' ∧ LR g s'.heap σ' env ℓ' ∧ Rel g s'.heap σ' ∧ Ext (Own env) s.heap σ s'.heap σ' ∧ Same s s' ∧ E C ℓ' σ'
section
variable (g : Gr) (sc : Scope) (r : Nat) (c : Bool)
structure SndS (st : Stmt) (t : TS) : Prop where
  run : ∀ A env s ℓ σ Q E, Cx g sc r c A env s.heap σ ℓ → t ℓ σ Q E → wpAny (model g.prog g.w) A (exec st env) (PostS g env s σ Q) (PostXS g A env s σ E) s
structure SndSs (st : List Stmt) (t : TS) : Prop where
  run : ∀ A env s ℓ σ Q E, Cx g sc r c A env s.heap σ ℓ → t ℓ σ Q E → wpAny (model g.prog g.w) A (execs st env) (PostS g env s σ Q) (PostXS g A env s σ E) s
end

section
variable {A : Around} {env : Env} {s s₁ : Shared} {σ σ₁ : AH} {ℓ ℓ₁ : Loc}
theorem LR.noSeq {h : Heap} (L : LR g h σ env ℓ) : NoSeq (Own env) h := by
  rintro a o (rfl | ⟨x, e⟩) ho vs n hd
  · obtain ⟨m, ⟨o', es, ep, ho', hd', _⟩, _⟩ := L.ns
    rw [ho] at ho'; cases ho'; rw [hd] at hd'; cases hd'
  · obtain ⟨o', u, ho', hd'⟩ := L.cell x a e
    rw [ho] at ho'; cases ho'; rw [hd] at hd'; cases hd'
theorem LR.noFields {h : Heap} (L : LR g h σ env ℓ) {a : Addr} (w : Own env a) : ∃ o, h.get? a = some o ∧ ∀ vs, o.data ≠ .fields vs := by
  rcases w with rfl | ⟨x, e⟩
  · obtain ⟨m, ⟨o', es, ep, ho', hd', _⟩, _⟩ := L.ns
    exact ⟨o', ho', fun vs q => by rw [q] at hd'; cases hd'⟩
  · obtain ⟨o', u, ho', hd'⟩ := L.cell x a e
    exact ⟨o', ho', fun vs q => by rw [q] at hd'; cases hd'⟩
/-- the block goes on behind a statement -/
theorem Cx.stepS (X : Cx g sc r c A env s.heap σ ℓ) (L : LR g s₁.heap σ₁ env ℓ₁) (R : Rel g s₁.heap σ₁) (x : Ext (Own env) s.heap σ s₁.heap σ₁) : Cx g sc r c A env s₁.heap σ₁ ℓ₁ :=
  ⟨X.gok, X.ok, L, X.fr.step x (fun a o w _ _ => L.noFields w), X.room, R⟩
theorem PostS.back {Q : Fl → Loc → AH → Prop} (x : Ext (Own env) s.heap σ s₁.heap σ₁) (y : Same s s₁) {f : Flow} {s' : Shared} (p : PostS g env s₁ σ₁ Q f s') : PostS g env s σ Q f s' :=
  let ⟨a, b, d, h1, h2, h3, h4, h5, h6⟩ := p; ⟨a, b, d, h1, h2, h3, x.trans h4, y.trans h5, h6⟩
theorem PostXS.back {E : Addr → Loc → AH → Prop} (x : Ext (Own env) s.heap σ s₁.heap σ₁) (y : Same s s₁) {f : Value} {s' : Shared} (p : PostXS g A env s₁ σ₁ E f s') : PostXS g A env s σ E f s' :=
  let ⟨a, b, d, h1, h2, h3, h4, h5, h6⟩ := p; ⟨a, b, d, h1, h2, h3, x.trans h4, y.trans h5, h6⟩
theorem ws_back {M : Model} {t : Sem Flow} {Q : Fl → Loc → AH → Prop} {E : Addr → Loc → AH → Prop} (x : Ext (Own env) s.heap σ s₁.heap σ₁) (y : Same s s₁) (h : wpAny M A t (PostS g env s₁ σ₁ Q) (PostXS g A env s₁ σ₁ E) s₁) : wpAny M A t (PostS g env s σ Q) (PostXS g A env s σ E) s₁ :=
  wpAny_mono h (fun _ _ p => p.back x y) fun _ _ p => p.back x y
theorem Ext.own {h h' : Heap} (x : Ext No h σ h' σ₁) : Ext (Own env) h σ h' σ₁ := x.weaken fun _ n => n.elim
/-- an exception of an expression is one of the statement -/
theorem PostX.toS {E : Addr → Loc → AH → Prop} (X : Cx g sc r c A env s.heap σ ℓ) {e : Value} {s' : Shared} (p : PostX g A s σ (fun C σ' => E C ℓ σ') e s') : PostXS g A env s σ E e s' :=
  let ⟨C, σ', h1, h2, h3, h4, h5⟩ := p; ⟨C, ℓ, σ', h1, X.loc.step X.rel h3, h2, h3.own, h4, h5⟩

/-- a name is bound -/
theorem store_ok {n : String} {k : NameKind} {x : V} {u : Value} {P : Unit → Shared → Prop} {E : Value → Shared → Prop} (X : Cx g sc r c A env s.heap σ ℓ) (hm : (Str.ofString n, k) ∈ sc.names) (hk : (k == .local || k == .cell) = true) (hv : VR g s.heap x u)
    (h : ∀ s' a, (k = .local → a = env.locals) → (k = .cell → env.cells.lookup (Str.ofString n) = some a) → Own env a → LR g s'.heap σ env (ℓ.set n x) → Rel g s'.heap σ → Ext (· = a) s.heap σ s'.heap σ → Same s s' → P () s') : wpAny (model g.prog g.w) A (storeName env (Str.ofString n) u) P E s := by
  have hcls : (env.scope.kind == .class || (env.scope.kind == .module && env.locals != env.globals)) = false := by rw [X.ok.kind]; rfl
  have kd : env.kindOf (Str.ofString n) = some k := by
    rcases X.ok.kinds _ _ hm with q | ⟨q, _⟩
    · exact q
    · subst q; cases hk
  have relOf : ∀ (a : Addr) (h' : Heap), Own env a → Heap.SameBut a s.heap h' → (∃ o, h'.get? a = some o) → Rel g h' σ := fun a h' w hs hp => by
    have hoff : σ a = none ∧ g.b0.get? a = none := by
      rcases w with rfl | ⟨y, e⟩
      · exact X.loc.off
      · exact ⟨(X.loc.offc y a e).1, (X.loc.offc y a e).2.2⟩
    have hne : ∀ b, b = a → σ b = none := fun b q => by rw [q]; exact hoff.1
    refine ⟨fun b hb => ?_, fun b o q => (hs.2 b fun z => ?_).trans (X.rel.base b o q), fun b bo q => ⟨(X.rel.own b bo q).1, OR_mono (fun d o vs m _ y t dd => .of ((hs.2 d fun z => ?_).trans y)) (fun o y => (hs.2 b fun z => ?_).trans y) (X.rel.own b bo q).2⟩⟩
    · by_cases z : b = a
      · rw [z]; exact hp
      · obtain ⟨o, q⟩ := X.rel.hid b hb; exact ⟨o, (hs.2 b z).trans q⟩
    · rw [z, hoff.2] at q; cases q
    · exact X.loc.noSeq d o (by rw [z]; exact w) y vs m dd
    · rw [z, hoff.1] at q; cases q
  have extOf : ∀ (a : Addr) (h' : Heap), Own env a → Heap.SameBut a s.heap h' → (∃ o, h'.get? a = some o) → Ext (· = a) s.heap σ h' σ := fun a h' w hs hp =>
    ⟨fun b o q _ nw => .of ((hs.2 b fun z => nw z).trans q), fun b o q => by
      by_cases z : b = a
      · rw [z]; exact hp
      · exact ⟨o, (hs.2 b z).trans q⟩, fun b q => .inl q⟩
  cases k with
  | «local» =>
    obtain ⟨m, hn, hmm⟩ := X.loc.ns
    refine wpAny_storeName_local kd hn (fun h' hn' hs' => ?_) hcls
    have w : Own env env.locals := .inl rfl
    have pr : ∃ o, h'.get? env.locals = some o := let ⟨o, _, _, e, _⟩ := hn'; ⟨o, e⟩
    have R' := relOf _ h' w hs' pr
    have x' := extOf _ h' w hs' pr
    have kv : ∀ {v : V} {u : Value}, VR g s.heap v u → VR g h' v u := x'.vr X.rel fun b o z => X.loc.noSeq b o (z ▸ w)
    refine h { s with heap := h', toks := s.toks + 1 } env.locals (fun _ => rfl) (fun z => nomatch z) w ⟨⟨_, hn', fun y v e kk => ?_⟩, fun y cc e => ?_, fun y v e kk => ?_, X.loc.off, X.loc.offc, X.loc.apart, X.loc.has⟩ R' x' ⟨rfl, rfl, rfl⟩
    · unfold Loc.set at e
      split at e
      · rename_i z; subst z; cases e; exact ⟨u, by simp, kv hv⟩
      · rename_i z
        obtain ⟨u', e1, e2⟩ := hmm y v e kk
        exact ⟨u', by rw [if_neg fun q => z (ofString_inj q)]; exact e1, kv e2⟩
    · obtain ⟨o, u', ho, hd⟩ := X.loc.cell y cc e
      exact ⟨o, u', (hs'.2 cc (X.loc.offc y cc e).2.1).trans ho, hd⟩
    · unfold Loc.set at e
      split at e
      · rename_i z; subst z; rw [kd] at kk; rcases kk with kk | kk <;> cases kk
      · obtain ⟨cc, u', e1, ho, hu⟩ := X.loc.cells y v e kk
        obtain ⟨o, e2, e3⟩ := ho
        exact ⟨cc, u', e1, ⟨o, (hs'.2 cc (X.loc.offc _ cc e1).2.1).trans e2, e3⟩, kv hu⟩
  | cell =>
    have : ∃ cc, env.cells.lookup (Str.ofString n) = some cc := X.loc.has _ (.inl kd)
    obtain ⟨cc, ec⟩ := this
    obtain ⟨o, v0, ho, hd⟩ := X.loc.cell _ cc ec
    refine wpAny_storeName_cell X.ok.kind kd ec ⟨o, ho, hd⟩ fun h' hc' hs' => ?_
    have w : Own env cc := .inr ⟨_, ec⟩
    have pr : ∃ o, h'.get? cc = some o := let ⟨o, e, _⟩ := hc'; ⟨o, e⟩
    have R' := relOf _ h' w hs' pr
    have x' := extOf _ h' w hs' pr
    have kv : ∀ {v : V} {u : Value}, VR g s.heap v u → VR g h' v u := x'.vr X.rel fun b o z => X.loc.noSeq b o (z ▸ w)
    have hnl : env.locals ≠ cc := fun q => (X.loc.offc _ cc ec).2.1 q.symm
    obtain ⟨m, hn, hmm⟩ := X.loc.ns
    refine h { s with heap := h' } cc (fun z => nomatch z) (fun _ => ec) w ⟨⟨m, hn.sameBut hs' hnl, fun y v e kk => ?_⟩, fun y cc' e => ?_, fun y v e kk => ?_, X.loc.off, X.loc.offc, X.loc.apart, X.loc.has⟩ R' x' ⟨rfl, rfl, rfl⟩
    · unfold Loc.set at e
      split at e
      · rename_i z; subst z; rw [kd] at kk; cases kk
      · obtain ⟨u', e1, e2⟩ := hmm y v e kk
        exact ⟨u', e1, kv e2⟩
    · by_cases z : cc' = cc
      · obtain ⟨o', e1, e2⟩ := hc'; exact ⟨o', _, by rw [z]; exact e1, e2⟩
      · obtain ⟨o', u', ho', hd'⟩ := X.loc.cell y cc' e
        exact ⟨o', u', (hs'.2 cc' z).trans ho', hd'⟩
    · unfold Loc.set at e
      split at e
      · rename_i z; subst z; cases e; exact ⟨cc, u, ec, hc', kv hv⟩
      · rename_i z
        obtain ⟨c2, u', e1, ho', hu⟩ := X.loc.cells y v e kk
        obtain ⟨o2, e2, e3⟩ := ho'
        have ne : c2 ≠ cc := fun q => z (ofString_inj (X.loc.apart _ _ cc (q ▸ e1) ec))
        exact ⟨c2, u', e1, ⟨o2, (hs'.2 c2 ne).trans e2, e3⟩, kv hu⟩
  | _ => cases hk
end
end Mine

open PySem PyProof.Rows
namespace Mine
variable {g : Gr} {sc : Scope} {r : Nat} {c : Bool}

section
variable {A : Around} {env : Env} {s s₁ : Shared} {σ σ₁ : AH} {ℓ ℓ₁ : Loc} {Q : Fl → Loc → AH → Prop} {E : Addr → Loc → AH → Prop}
/-- an exception goes on: it is noted at the frame -/
theorem PostXS.noted {e : Value} {s' : Shared} (p : PostXS g A env s σ E e s') {P : Value → Shared → Prop} (k : ∀ e s', PostXS g A env s σ E e s' → P e s') : notedBy (model g.prog g.w) A env P e s' :=
  let ⟨_, _, _, h1, _⟩ := p; h1.elim
theorem PostXS.came {e : Value} {s' : Shared} (p : PostXS g A env s σ E e s') {P : Value → Shared → Prop} (k : ∀ e s', PostXS g A env s σ E e s' → P e s') : cameBackBy (model g.prog g.w) A env P e s' :=
  let ⟨_, _, _, h1, _⟩ := p; h1.elim
/-- nothing is done -/
theorem PostS.here {f : Fl} {u : Flow} (X : Cx g sc r c A env s.heap σ ℓ) (hf : FRel g s.heap f u) (h : Q f ℓ σ) : PostS g env s σ Q u s := ⟨f, ℓ, σ, hf, X.loc, X.rel, .refl, .refl, h⟩
/-- an expression, then what hangs on its value -/
theorem Cx.thenS {m : Sem Value} {f : Value → Sem Flow} {Q' : V → AH → Prop} (X : Cx g sc r c A env s.heap σ ℓ) (h : wpAny (model g.prog g.w) A m (PostE g s σ Q') (PostX g A s σ fun C σ' => E C ℓ σ') s)
    (k : ∀ v x s₁ σ₁, VR g s₁.heap x v → Cx g sc r c A env s₁.heap σ₁ ℓ → Q' x σ₁ → wpAny (model g.prog g.w) A (f v) (PostS g env s₁ σ₁ Q) (PostXS g A env s₁ σ₁ E) s₁) :
    wpAny (model g.prog g.w) A m (fun v s₁ => wpAny (model g.prog g.w) A (f v) (PostS g env s σ Q) (PostXS g A env s σ E) s₁) (PostXS g A env s σ E) s :=
  wpAny_mono h (fun v s₁ p => let ⟨x, σ₁, h1, h2, h3, h4, h5⟩ := p; ws_back h3.own h4 (k v x s₁ σ₁ h1 (X.step h2 h3) h5)) fun _ _ p => p.toS X
end

/-! ## blocks -/
def tNop : TS := fun ℓ σ Q _ => Q .next ℓ σ
def tSeq (t ts : TS) : TS := fun ℓ σ Q E => t ℓ σ (fun f ℓ' σ' => match f with | .next => ts ℓ' σ' Q E | f => Q f ℓ' σ') E
theorem sndSs_nil : SndSs g sc r c [] tNop := .mk fun A env s ℓ σ Q E X h => wpAny_execs_nil (.here (f := .next) X rfl h)
theorem sndSs_cons {st : Stmt} {rest : List Stmt} {t ts : TS} (h1 : SndS g sc r c st t) (h2 : SndSs g sc r c rest ts) : SndSs g sc r c (st :: rest) (tSeq t ts) := .mk fun A env s ℓ σ Q E X h => by
  refine wpAny_execs_cons (wpAny_mono (h1.run A env s ℓ σ _ E X h) (fun f s₁ p => ?_) fun _ _ p => p)
  obtain ⟨f', ℓ', σ', hf, hL, hR, hx, hs, hq⟩ := p
  cases f' with
  | next => cases hf; exact ws_back hx hs (h2.run A env s₁ ℓ' σ' Q E (X.stepS hL hR hx) hq)
  | brk => cases hf; exact ⟨.brk, ℓ', σ', rfl, hL, hR, hx, hs, hq⟩
  | cont => cases hf; exact ⟨.cont, ℓ', σ', rfl, hL, hR, hx, hs, hq⟩
  | ret v => obtain ⟨u, rfl, hv⟩ := hf; exact ⟨.ret v, ℓ', σ', ⟨u, rfl, hv⟩, hL, hR, hx, hs, hq⟩

theorem sndS_pass {pos : Pos} : SndS g sc r c (.Pass pos) tNop := .mk fun A env s ℓ σ Q E X h => wpAny_Pass (.here (f := .next) X rfl h)
def tFlow (f : Fl) : TS := fun ℓ σ Q _ => Q f ℓ σ
theorem sndS_break {pos : Pos} : SndS g sc r c (.Break pos) (tFlow .brk) := .mk fun A env s ℓ σ Q E X h => wpAny_Break (.here (f := .brk) X rfl h)
theorem sndS_continue {pos : Pos} : SndS g sc r c (.Continue pos) (tFlow .cont) := .mk fun A env s ℓ σ Q E X h => wpAny_Continue (.here (f := .cont) X rfl h)
def tRet (t : TE) : TS := fun ℓ σ Q E => t ℓ σ (fun v σ' => Q (.ret v) ℓ σ') fun C σ' => E C ℓ σ'
theorem sndS_return {e : Expr} {t : TE} {pos : Pos} (h1 : SndE g sc r c e t) : SndS g sc r c (.Return (some e) pos) (tRet t) := .mk fun A env s ℓ σ Q E X h => by
  refine wpAny_Return_some (wpAny_mono (h1.run A env s ℓ σ _ _ X h) (fun v s₁ p => ?_) fun _ _ p => p.toS X)
  obtain ⟨x, σ₁, hv, hR, hx, hs, hq⟩ := p
  exact ⟨.ret x, ℓ, σ₁, ⟨v, rfl, hv⟩, X.loc.step X.rel hx, hR, hx.own, hs, hq⟩
theorem sndS_return_none {pos : Pos} : SndS g sc r c (.Return none pos) (tFlow (.ret .none)) := .mk fun A env s ℓ σ Q E X h => wpAny_Return_none (.here (f := .ret .none) X ⟨.none, rfl, VR_none.mpr rfl⟩ h)
def tDo (t : TE) : TS := fun ℓ σ Q E => t ℓ σ (fun _ σ' => Q .next ℓ σ') fun C σ' => E C ℓ σ'
theorem EnvOk.notInteractive {env : Env} (k : EnvOk sc env) : interactive env = false := by
  unfold interactive; simp [k.kind]
theorem sndS_expr {e : Expr} {t : TE} {pos : Pos} (h1 : SndE g sc r c e t) (hs : ∀ env, swapsWith e none pos.line env = pure false) : SndS g sc r c (.Expr e pos) (tDo t) := .mk fun A env s ℓ σ Q E X h => by
  refine wpAny_Expr_any (wpAny_mono (h1.run A env s ℓ σ _ _ X h) (fun v s₁ p => ?_) fun _ _ p => p.toS X) X.ok.notInteractive (hs env)
  obtain ⟨x, σ₁, hv, hR, hx, hs, hq⟩ := p
  exact ⟨.next, ℓ, σ₁, rfl, X.loc.step X.rel hx, hR, hx.own, hs, hq⟩
def tIfS (t : TB) (a b : TS) : TS := fun ℓ σ Q E => t ℓ σ (fun x σ' => match x with | true => a ℓ σ' Q E | false => b ℓ σ' Q E) fun C σ' => E C ℓ σ'
theorem sndS_if {e : Expr} {t : TB} {body orelse : List Stmt} {a b : TS} {pos : Pos} (h1 : SndB g sc r c e t) (h2 : SndSs g sc r c body a) (h3 : SndSs g sc r c orelse b) : SndS g sc r c (.If e body orelse pos) (tIfS t a b) := .mk fun A env s ℓ σ Q E X h => by
  refine wpAny_If (wpAny_mono (h1.run A env s ℓ σ _ _ X h) (fun v s₁ p => ?_) fun _ _ p => p.toS X)
  obtain ⟨x, σ₁, rfl, hR, hx, hs, hq⟩ := p
  cases x with
  | true => exact ws_back hx.own hs (h2.run A env s₁ ℓ σ₁ Q E (X.step hR hx) hq)
  | false => exact ws_back hx.own hs (h3.run A env s₁ ℓ σ₁ Q E (X.step hR hx) hq)

/-! ## binding -/
def tAssign (n : String) (t : TE) : TS := fun ℓ σ Q E => t ℓ σ (fun v σ' => Q .next (ℓ.set n v) σ') fun C σ' => E C ℓ σ'
theorem sndS_assign {n : String} {k : NameKind} {p' pos : Pos} {e : Expr} {t : TE} (hm : (Str.ofString n, k) ∈ sc.names) (hk : (k == .local || k == .cell) = true) (h1 : SndE g sc r c e t)
    (hs : ∀ env, swapsWith e (some (.Name (Str.ofString n) p')) pos.line env = pure false) : SndS g sc r c (.Assign [.Name (Str.ofString n) p'] e pos) (tAssign n t) := .mk fun A env s ℓ σ Q E X h => by
  refine wpAny_Assign_Name (wpAny_mono (h1.run A env s ℓ σ _ _ X h) (fun v s₁ p => ?_) fun _ _ p => p.toS X) (hs env)
  obtain ⟨x, σ₁, hv, hR, hx, hs, hq⟩ := p
  exact store_ok (X.step hR hx) hm hk hv fun s' a _ _ w hL hR' hx' hs' => ⟨.next, _, σ₁, rfl, hL, hR', hx.own.trans (hx'.weaken fun b z => z ▸ w), hs.trans hs', hq⟩

/-! ## targets -/
inductive Tgt where
  | name (n : String)
  | tup (ns : List String)
def Loc.setAll (ℓ : Loc) : List String → List V → Loc
  | n :: ns, v :: vs => (ℓ.set n v).setAll ns vs
  | _, _ => ℓ
/-- what a target takes apart -/
def partsV (v : V) (σ : AH) : Option (List V) := match v with
  | .tup vs => some vs
  | .frz vs => some vs
  | .ref a => match σ a with | some (.list vs) => some vs | _ => none
  | _ => none
def bindV (t : Tgt) (v : V) (ℓ : Loc) (σ : AH) (P : Loc → Prop) : Prop := match t with
  | .name n => P (ℓ.set n v)
  | .tup ns => match partsV v σ with | some vs => vs.length = ns.length ∧ P (ℓ.setAll ns vs) | none => False
/-- the names of a tuple target -/
inductive NamesAre (sc : Scope) : List Expr → List String → Prop
  | nil : NamesAre sc [] []
  | cons {n : String} {k : NameKind} {pos : Pos} {es : List Expr} {ns : List String} (hm : (Str.ofString n, k) ∈ sc.names) (hk : (k == .local || k == .cell) = true) (h : NamesAre sc es ns) : NamesAre sc (.Name (Str.ofString n) pos :: es) (n :: ns)
/-- the target's form in the program -/
inductive TgtIs (sc : Scope) : Expr → Tgt → Prop
  | name {n : String} {k : NameKind} {pos : Pos} (hm : (Str.ofString n, k) ∈ sc.names) (hk : (k == .local || k == .cell) = true) : TgtIs sc (.Name (Str.ofString n) pos) (.name n)
  | tup {es : List Expr} {ns : List String} {k : Nat} {pos : Pos} (h : NamesAre sc es ns) : TgtIs sc (.Tuple es k pos) (.tup ns)

section
variable {A : Around} {env : Env} {s : Shared} {σ : AH} {ℓ : Loc} {E : Value → Shared → Prop}
/-- names were bound -/
def Bound (g : Gr) (W : Addr → Prop) (env : Env) (s : Shared) (σ : AH) (P : Loc → Prop) (s' : Shared) : Prop := ∃ ℓ', LR g s'.heap σ env ℓ' ∧ Rel g s'.heap σ ∧ Ext W s.heap σ s'.heap σ ∧ Same s s' ∧ P ℓ'
/-- where the names of a scope are kept -/
def Writes (W : Addr → Prop) (sc : Scope) (env : Env) : Prop := (∀ a, W a → Own env a) ∧ ∀ n k a, (Str.ofString n, k) ∈ sc.names → (k = .local → a = env.locals) → (k = .cell → env.cells.lookup (Str.ofString n) = some a) → (k == .local || k == .cell) = true → W a
theorem writes_own {env : Env} : Writes (Own env) sc env := ⟨fun _ w => w, fun n k a hm h1 h2 hk => by
  cases k <;> first | exact .inl (h1 rfl) | exact .inr ⟨_, h2 rfl⟩ | cases hk⟩

theorem NamesAre.length {es : List Expr} {ns : List String} (h : NamesAre sc es ns) (env : Env) : (assignEach es env).length = ns.length := by
  induction h with
  | nil => rfl
  | cons hm hk h ih => show (_ :: assignEach _ env).length = _; simp [ih]
theorem NamesAre.noStar {es : List Expr} {ns : List String} (h : NamesAre sc es ns) (env : Env) : (assignEach es env).findIdx? (·.1) = none := by
  induction h with
  | nil => rfl
  | @cons n k pos es ns hm hk h ih => show ((false, assign (.Name (Str.ofString n) pos) env) :: assignEach es env).findIdx? (·.1) = none; simp [List.findIdx?_cons, ih]
theorem inOrder_ok {W : Addr → Prop} (hW : Writes W sc env) {P : Loc → Prop} {es : List Expr} {ns : List String} (hn : NamesAre sc es ns) : ∀ {s : Shared} {ℓ : Loc} {xs : List V} {us : List Value}, Cx g sc r c A env s.heap σ ℓ → VRs g s.heap xs us → xs.length = ns.length → P (ℓ.setAll ns xs) →
    wpAny (model g.prog g.w) A (assignInOrder ((assignEach es env).map (·.2)) us) (fun _ s' => Bound g W env s σ P s') E s := by
  induction hn with
  | nil =>
    intro s ℓ xs us X hv hl h
    have : xs = [] := List.length_eq_zero_iff.mp hl
    subst this
    rw [VRs_nil_inv hv]
    exact wpAny_pure ⟨ℓ, X.loc, X.rel, .refl, .refl, h⟩
  | @cons n k pos es ns hm hk hn ih =>
    intro s ℓ xs us X hv hl h
    cases xs with
    | nil => simp at hl
    | cons x xs =>
      obtain ⟨u, us, rfl, hx, hxs⟩ := VRs_cons_inv hv
      show wpAny _ A (do holding us (assign (.Name (Str.ofString n) pos) env u); assignInOrder ((assignEach es env).map (·.2)) us) _ E s
      refine wpAny_bind (wpAny_holding (wpAny_assign_Name (store_ok X hm hk hx fun s' a q1 q2 w hL hR hx' hs' => ?_)))
      replace hx' := hx'.weaken (W' := W) fun b z => z ▸ hW.2 n k a hm q1 q2 hk
      have hx'' := hx'.weaken (W' := Own env) hW.1
      refine wpAny_mono (ih (X.stepS hL hR hx'') (hx''.vrs X.rel X.loc.noSeq hxs) (by simpa using hl) h) (fun _ s'' p => ?_) fun _ _ p => p
      obtain ⟨ℓ', h1, h2, h3, h4, h5⟩ := p
      exact ⟨ℓ', h1, h2, hx'.trans h3, hs'.trans h4, h5⟩

theorem draw_list {it l : Addr} {items : Array Value} (hne : l ≠ it) : ∀ (n i : Nat) (s : Shared) (Q : List Value → Shared → Prop), s.heap.IsListIter it l i → s.heap.IsList l items → i + n ≤ items.size →
    (∀ h', h'.IsListIter it l (i + n) → Heap.SameBut it s.heap h' → Q ((items.toList.drop i).take n) { s with heap := h' }) → wpAny (model g.prog g.w) A (draw (.ref it) n) Q E s
  | 0, i, s, Q, hit, _, _, hQ => by
    show wpAny _ _ (pure []) Q E s
    exact wpAny_pure (by simpa using hQ s.heap hit (Heap.SameBut.refl ..))
  | n + 1, i, s, Q, hit, ht, hle, hQ => by
    have hlt : i < items.size := by omega
    show wpAny _ _ (pyNext (.ref it) >>= _) Q E s
    refine wpAny_bind (wpAny_pyNext_list_item hit ht (x := items[i]) (by simp [hlt]) fun h₁ hit₁ hs₁ => ?_)
    refine wpAny_bind (wpAny_holding (draw_list hne n (i + 1) _ _ hit₁ (ht.extBut hs₁.extBut hne) (by omega) fun h₂ hit₂ hs₂ => wpAny_pure ?_))
    have hd : items.toList.drop i = items[i] :: items.toList.drop (i + 1) := by simp [List.drop_eq_getElem_cons, hlt]
    have := hQ h₂ (by rw [show i + (n + 1) = i + 1 + n by omega]; exact hit₂) (hs₁.trans hs₂)
    rw [hd, List.take_succ_cons] at this
    exact this
theorem unpackItems_list {t : Addr} {items : Array Value} {Q : List Value → Shared → Prop} (hh : A.handled = none) (ht : s.heap.IsList t items)
    (hQ : ∀ h', Heap.ExtBut s.heap.objs.size s.heap h' → Q items.toList { s with heap := h' }) : wpAny (model g.prog g.w) A (unpackItems (.ref t) items.size none) Q E s := by
  have hlt : t ≠ s.heap.objs.size := by obtain ⟨o, ho, _⟩ := ht; exact Nat.ne_of_lt (Heap.lt_size ho)
  unfold unpackItems
  refine wpAny_bind ?_
  · unfold notIterableAtAll
    refine wpAny_bind (wpAny_specialOf ht.typeIs slot_list_iter.lookup ?_)
    refine wpAny_pure ?_
    simp only [Bool.false_eq_true, if_false]
    refine wpAny_bind (wpAny_holding (wpAny_pyIter_list ht ?_))
    refine wpAny_bind (wpAny_holding (draw_list hlt items.size 0 _ _ ⟨_, Heap.get?_push_size _ rfl, rfl, rfl⟩ (ht.push _) (by omega) fun h₁ hit₁ hs₁ => ?_))
    have hall : List.take items.size (List.drop 0 items.toList) = items.toList := by
      rw [List.drop_zero]; exact List.take_of_length_le (by simp)
    rw [hall]
    rw [if_neg (by simp)]
    have ht₁ : h₁.IsList t items := (ht.push _).extBut hs₁.extBut hlt
    refine wpAny_bind (wpAny_holding (wpAny_pyNext_list_end hh hit₁ ht₁ (by simp) fun h₂ he₂ => ?_))
    simp only [Option.isSome_none, Bool.false_eq_true, if_false]
    refine wpAny_pure (hQ h₂ fun b o hb e => he₂ b o hb (hs₁.extBut b o hb (Heap.get?_push_of_some _ e)))

theorem extBut_keeps {h h' : Heap} (k : Heap.ExtBut h.objs.size h h') : ∀ a o, h.get? a = some o → h'.get? a = some o := fun a o e => k a o (Nat.ne_of_lt (Heap.lt_size e)) e

/-- the parts of a value -/
theorem parts_ok {v : V} {u : Value} {xs : List V} {n : Nat} {Q : List Value → Shared → Prop} (X : Cx g sc r c A env s.heap σ ℓ) (hh : A.handled = none) (hv : VR g s.heap v u) (hp : partsV v σ = some xs) (hn : xs.length = n)
    (h : ∀ us h', (∀ a o, s.heap.get? a = some o → h'.get? a = some o) → VRs g h' xs us → Q us { s with heap := h' }) : wpAny (model g.prog g.w) A (unpackItems u n none) Q E s := by
  have key : ∀ (a : Addr) (o : Obj) (vs : Array Value) (m : Nat), s.heap.get? a = some o → (o.cls = .type "tuple" ∨ o.cls = .type "list") → o.data = .seq vs m → VRs g s.heap xs vs.toList → wpAny (model g.prog g.w) A (unpackItems (.ref a) n none) Q E s := fun a o vs m ho hc hd hvs => by
    have hz : n = vs.size := by rw [← hn, VRs_length hvs]; simp
    subst hz
    have fin : ∀ h', Heap.ExtBut s.heap.objs.size s.heap h' → Q vs.toList { s with heap := h' } := fun h' k => h _ h' (extBut_keeps k) (VRs.mono (fun b o _ _ _ e _ _ => .of (extBut_keeps k b o e)) hvs)
    rcases hc with hc | hc
    · exact wpAny_unpackItems_tuple hh ⟨o, ho, hc, m, hd⟩ fin
    · exact unpackItems_list hh ⟨o, ho, hc, m, hd⟩ fin
  cases v with
  | tup vs =>
    obtain ⟨_, a, o, us, m, rfl, _, ho, hc, hd, hvs⟩ := VR_tup.mp hv
    cases hp; exact key a o us m ho (.inl hc) hd hvs
  | frz vs =>
    obtain ⟨_, a, o, us, m, rfl, ho, hc, hd, hvs⟩ := VR_frz.mp hv
    cases hp; exact key a o us m (X.rel.base a o ho) (.inr hc) hd hvs
  | ref a =>
    rw [VR_ref.mp hv]
    simp only [partsV] at hp
    split at hp
    · rename_i vs e
      cases hp
      obtain ⟨_, us, m, ho, hvs⟩ := (X.rel.own a _ e).2
      exact key a _ us m ho (.inr rfl) rfl hvs
    · cases hp
  | _ => cases hp

theorem assign_ok {W : Addr → Prop} (hW : Writes W sc env) {e : Expr} {t : Tgt} {x : V} {u : Value} {P : Loc → Prop} (X : Cx g sc r true A env s.heap σ ℓ) (ht : TgtIs sc e t) (hv : VR g s.heap x u) (hb : bindV t x ℓ σ P) :
    wpAny (model g.prog g.w) A (assign e env u) (fun _ s' => Bound g W env s σ P s') E s := by
  cases ht with
  | name hm hk => exact wpAny_assign_Name (store_ok X hm hk hv fun s' a q1 q2 _ h1 h2 h3 h4 => ⟨_, h1, h2, h3.weaken fun b z => z ▸ hW.2 _ _ a hm q1 q2 hk, h4, hb⟩)
  | @tup es ns k pos hn =>
    simp only [bindV] at hb
    split at hb
    · rename_i xs hp
      rw [arm_assign_Tuple]
      refine wpAny_bind (wpAny_standAt ?_)
      unfold unpack
      rw [hn.length env, hn.noStar env]
      refine wpAny_bind (wpAny_holding (parts_ok X (X.room.calm rfl) hv hp hb.1 fun us h' hk hvs => ?_))
      have X' : Cx g sc r true A env h' σ ℓ := X.step (X.rel.keeps hk) (.keeps hk)
      refine wpAny_mono (inOrder_ok hW (s := { s with heap := h' }) hn X' hvs hb.1 hb.2) (fun _ s' p => ?_) fun _ _ p => p
      obtain ⟨ℓ', h1, h2, h3, h4, h5⟩ := p
      exact ⟨ℓ', h1, h2, Ext.trans (.keeps hk) h3, Same.trans ⟨rfl, rfl, rfl⟩ h4, h5⟩
    · exact hb.elim
end

def tAssignT (t : Tgt) (te : TE) : TS := fun ℓ σ Q E => te ℓ σ (fun v σ' => bindV t v ℓ σ' fun ℓ' => Q .next ℓ' σ') fun C σ' => E C ℓ σ'
theorem sndS_assignT {es : List Expr} {k : Nat} {ns : List String} {p' pos : Pos} {e : Expr} {t : TE} (ht : NamesAre sc es ns) (h1 : SndE g sc r true e t)
    (hs : ∀ env, swapsWithSole [.Tuple es k p'] e pos.line env = pure false) (hw : ∀ env, swappedStores [.Tuple es k p'] e env = pure none) : SndS g sc r true (.Assign [.Tuple es k p'] e pos) (tAssignT (.tup ns) t) := .mk fun A env s ℓ σ Q E X h => by
  refine Assign_Tuple (wpAny_mono (h1.run A env s ℓ σ _ _ X h) (fun v s₁ p => ?_) fun _ _ p => p.toS X) (hs env) (hw env)
  obtain ⟨x, σ₁, hv, hR, hx, hs, hq⟩ := p
  refine wpAny_mono (assign_ok writes_own (X.step hR hx) (.tup ht) hv hq) (fun _ s' p => ?_) fun _ _ p => p
  obtain ⟨ℓ', h1, h2, h3, h4, h5⟩ := p
  exact ⟨.next, ℓ', σ₁, rfl, h1, h2, hx.own.trans h3, hs.trans h4, h5⟩
end Mine

open PySem PyProof.Rows
namespace Mine
variable {g : Gr} {sc : Scope} {r : Nat} {c : Bool}

/-- what a step of an iterator keeps: all but its own objects -/
def KeptBut (fp : Addr → Prop) (h h' : Heap) : Prop := ∀ b o, ¬ fp b → h.get? b = some o → h'.get? b = some o
/-- the iterator I, made of the objects fp, walks through items while inv holds -/
structure Iters (g : Gr) (items : List V) (inv : AH → Prop) (I : Addr) (fp : Addr → Prop) (St : Nat → Heap → Prop) (tup : Bool) : Prop where
  stab : ∀ k h h', St k h → TupsKept g h h' → (∀ a o, fp a → h.get? a = some o → h'.get? a = some o) → St k h'
  flds : ∀ k h a, St k h → fp a → ∃ o, h.get? a = some o ∧ (g.hid a ∨ ∃ vs, o.data = .fields vs)
  self : ∀ k A E s (Q : Value → Shared → Prop), St k s.heap → Q (.ref I) s → wpAny (model g.prog g.w) A (pyIter (.ref I)) Q E s
  item : ∀ k x A E s σ target (Q : Value → Shared → Prop), items[k]? = some x → St k s.heap → Rel g s.heap σ → inv σ → (∀ a, fp a → σ a = none) → (tup = true → ∃ es m p, target = .Tuple es m p) →
    (∀ v s', KeptBut fp s.heap s'.heap → Same s s' → St (k + 1) s'.heap → VR g s'.heap x v → Q v s') →
    wpAny (model g.prog g.w) A (pyNext (.ref I)) (fun r s₁ => match r with | none => False | some v => wpAny (model g.prog g.w) A (letOwnedTupleGo target (.ref I) v) (fun _ => Q v) E s₁) E s
  last : ∀ k A E s σ (Q : Option Value → Shared → Prop), items.length ≤ k → A.handled = none → St k s.heap → Rel g s.heap σ → inv σ → (∀ a, fp a → σ a = none) →
    (∀ s', KeptBut fp s.heap s'.heap → Same s s' → Q none s') → wpAny (model g.prog g.w) A (pyNext (.ref I)) Q E s

/-- an iterator has been made -/
def PostI (g : Gr) (s : Shared) (σ : AH) (Q : List V → (AH → Prop) → Bool → AH → Prop) (it : Value) (s' : Shared) : Prop :=
  ∃ items inv I fp St tup σ', it = .ref I ∧ Iters g items inv I fp St tup ∧ St 0 s'.heap ∧ Rel g s'.heap σ' ∧ Ext No s.heap σ s'.heap σ' ∧ Same s s' ∧ (∀ a, fp a → s.heap.get? a = none ∧ σ' a = none) ∧ Fits items.length ∧ Q items inv tup σ'
abbrev TI := Loc → AH → (List V → (AH → Prop) → Bool → AH → Prop) → (Addr → AH → Prop) → Prop
structure SndI (g : Gr) (sc : Scope) (r : Nat) (c : Bool) (e : Expr) (t : TI) : Prop where
  run : ∀ A env s ℓ σ Q E, Cx g sc r c A env s.heap σ ℓ → t ℓ σ Q E →
  wpAny (model g.prog g.w) A (eval e env) (fun x s₁ => wpAny (model g.prog g.w) A (pyIter x) (PostI g s σ Q) (PostX g A s σ E) s₁) (PostX g A s σ E) s

theorem letGo_plain {A : Around} {E : Value → Shared → Prop} {s : Shared} {target : Expr} {I : Addr} {o : Obj} {T : String} {vs : Array Value} {v : Value} {Q : Unit → Shared → Prop} (ho : s.heap.get? I = some o) (hc : o.cls = .type T) (hd : o.data = .fields vs)
    (hT : (["enumerate", "zip", "dict_itemiterator", "dict_reverseitemiterator", "odict_iterator", "itertools.zip_longest", "itertools.pairwise"].contains T) = false) (h : Q () s) :
    wpAny (model g.prog g.w) A (letOwnedTupleGo target (.ref I) v) Q E s := by
  have key : ∀ (a : Addr), wpAny (model g.prog g.w) A (load I >>= fun o => (match o.cls, o.data with
      | .type n, .fields vs =>
        if ["enumerate", "zip", "dict_itemiterator", "dict_reverseitemiterator", "odict_iterator", "itertools.zip_longest", "itertools.pairwise"].contains n && vs[0]? == some (rawInt a) then (do
          rule "for.unpacks-the-owned-tuple"
          updateField I 0 .none) else pure ()
      | _, _ => pure ())) Q E s := fun a => by
    refine wpAny_bind (wpAny_load ho ?_)
    rw [hc, hd]
    show wpAny _ A (if (_ && _) = true then _ else _) Q E s
    rw [if_neg (by rw [hT, Bool.false_and]; exact Bool.false_ne_true)]
    exact wpAny_pure h
  unfold letOwnedTupleGo
  split
  · cases v <;> first | exact key _ | exact wpAny_pure h
  · cases v <;> first | exact key _ | exact wpAny_pure h
  · exact wpAny_pure h


theorem VRs_getA {g : Gr} {h : Heap} {xs : List V} {vs : Array Value} (a : VRs g h xs vs.toList) {i : Nat} {x : V} (e : xs[i]? = some x) : ∃ v, vs[i]? = some v ∧ VR g h x v := by
  obtain ⟨v, h1, h2⟩ := VRs_get a e; exact ⟨v, by simpa using h1, h2⟩
theorem VRs_noneA {g : Gr} {h : Heap} {xs : List V} {vs : Array Value} (a : VRs g h xs vs.toList) {i : Nat} (e : xs.length ≤ i) : vs[i]? = none := by
  have := VRs_length a; simp at this ⊢; omega
theorem tupsKept_one {I : Addr} {h h' : Heap} {o : Obj} {vs : Array Value} (ho : h.get? I = some o) (hd : o.data = .fields vs) (k : ∀ b o, b ≠ I → h.get? b = some o → h'.get? b = some o) : TupsKept g h h' := fun a o' xs n _ e _ d => by
  refine .of (k a o' (fun z => ?_) e)
  subst z; rw [ho] at e; cases e; rw [hd] at d; cases d

/-- a list is walked through; it must stand at each turn -/
theorem iters_list (a I : Addr) (xs : List V) : Iters g xs (fun σ => σ a = some (.list xs)) I (· = I) (fun k h => h.IsListIter I a k) false where
  stab := fun k h h' st _ kp => st.at fun o e => kp I o rfl e
  flds := fun k h b st e => by subst e; obtain ⟨o, ho, _, hd⟩ := st; exact ⟨o, ho, .inr ⟨_, hd⟩⟩
  self := fun k A E s Q st h => wpAny_pyIter_listiter st h
  item := fun k x A E s σ target Q hx st R iv off _ h => by
    obtain ⟨hf, vs, n, ho, hv⟩ := (R.own a _ iv).2
    obtain ⟨v, e, hxv⟩ := VRs_getA hv hx
    obtain ⟨oI, hoI, hcI, hdI⟩ := id st
    refine wpAny_pyNext_list_item st ⟨_, ho, rfl, n, rfl⟩ e fun h' st' sb => ?_
    obtain ⟨o', ho', hc', hd'⟩ := id st'
    refine letGo_plain ho' hc' hd' (by decide) (h v _ (fun b o nb e => sb.extBut b o nb e) ⟨rfl, rfl, rfl⟩ st' (VR.mono (tupsKept_one hoI hdI sb.extBut) hxv))
  last := fun k A E s σ Q hk hh st R iv off h => by
    obtain ⟨hf, vs, n, ho, hv⟩ := (R.own a _ iv).2
    exact wpAny_pyNext_list_end hh st ⟨_, ho, rfl, n, rfl⟩ (VRs_noneA hv hk) fun h' eb => h { s with heap := h' } (fun b o nb e => eb b o nb e) ⟨rfl, rfl, rfl⟩

/-- a tuple is walked through -/
theorem iters_tuple (t I : Addr) (xs : List V) : Iters g xs (fun _ => True) I (· = I) (fun k h => h.IsTupleIter I t k ∧ VR g h (.tup xs) (.ref t)) false where
  stab := fun k h h' st tk kp => ⟨st.1.at fun o e => kp I o rfl e, VR.mono tk st.2⟩
  flds := fun k h b st e => by subst e; obtain ⟨⟨o, ho, _, hd⟩, _⟩ := st; exact ⟨o, ho, .inr ⟨_, hd⟩⟩
  self := fun k A E s Q st h => wpAny_pyIter_tupleiter st.1 h
  item := fun k x A E s σ target Q hx st R iv off _ h => by
    obtain ⟨hf, t', o, vs, n, et, _, ho, hc, hd, hv⟩ := VR_tup.mp st.2
    cases et
    obtain ⟨v, e, hxv⟩ := VRs_getA hv hx
    obtain ⟨oI, hoI, hcI, hdI⟩ := id st.1
    refine wpAny_pyNext_tuple_item st.1 ⟨_, ho, hc, n, hd⟩ e fun h' st' sb => ?_
    obtain ⟨o', ho', hc', hd'⟩ := id st'
    have tk : TupsKept g s.heap h' := tupsKept_one hoI hdI sb.extBut
    exact letGo_plain ho' hc' hd' (by decide) (h v _ (fun b o nb e => sb.extBut b o nb e) ⟨rfl, rfl, rfl⟩ ⟨st', VR.mono tk st.2⟩ (VR.mono tk hxv))
  last := fun k A E s σ Q hk hh st R iv off h => by
    obtain ⟨hf, t', o, vs, n, et, _, ho, hc, hd, hv⟩ := VR_tup.mp st.2
    cases et
    exact wpAny_pyNext_tuple_end hh st.1 ⟨_, ho, hc, n, hd⟩ (VRs_noneA hv hk) fun h' eb => h { s with heap := h' } (fun b o nb e => eb b o nb e) ⟨rfl, rfl, rfl⟩

/-- the items of a range -/
def rangeV (lo : Int) (n : Nat) : List V := (List.range n).map fun (i : Nat) => .int (lo + (i : Int))
theorem iters_range (I : Addr) (lo : Int) (n : Nat) : Iters g (rangeV lo n) (fun _ => True) I (· = I) (fun k h => IsRangeIter h I (lo + (k : Int)) ((n : Int) - k) 1) false where
  stab := fun k h h' st _ kp => kp I _ rfl st
  flds := fun k h b st e => by subst e; exact ⟨_, st, .inr ⟨_, rfl⟩⟩
  self := fun k A E s Q st h => wpAny_pyIter_rangeiter st h
  item := fun k x A E s σ target Q hx st R iv off _ h => by
    have hk : k < n := by
      rcases Nat.lt_or_ge k n with q | q
      · exact q
      · rw [List.getElem?_eq_none (by simp [rangeV]; exact q)] at hx; cases hx
    have hx' : x = .int (lo + (k : Int)) := by simp [rangeV, hk] at hx; exact hx.symm
    subst hx'
    refine wpAny_pyNext_range_item st (by omega) fun h' st' sb => ?_
    have st'' : IsRangeIter h' I (lo + ((k + 1 : Nat) : Int)) ((n : Int) - ((k + 1 : Nat) : Int)) 1 := by
      have e1 : lo + ((k + 1 : Nat) : Int) = lo + (k : Int) + 1 := by push_cast; omega
      have e2 : (n : Int) - ((k + 1 : Nat) : Int) = (n : Int) - k - 1 := by push_cast; omega
      rw [e1, e2]; exact st'
    exact letGo_plain st' rfl rfl (by decide) (h _ _ (fun b o nb e => sb.extBut b o nb e) ⟨rfl, rfl, rfl⟩ st'' (VR_int.mpr ⟨_, rfl⟩))
  last := fun k A E s σ Q hk hh st R iv off h => by
    have : n ≤ k := by simpa [rangeV] using hk
    exact wpAny_pyNext_range_end hh st (by omega) fun h' eb => h { s with heap := h' } (fun b o nb e => eb b o nb e) ⟨rfl, rfl, rfl⟩

/-- the items of an enumeration -/
def enumV (i : Nat) : List V → List V
  | [] => []
  | x :: xs => .tup [.int (i : Int), x] :: enumV (i + 1) xs
theorem enumV_length (xs : List V) : ∀ i, (enumV i xs).length = xs.length := by
  induction xs with
  | nil => intro i; rfl
  | cons x xs ih => intro i; simp [enumV, ih]
theorem enumV_get {xs : List V} : ∀ {i k : Nat} {y : V}, (enumV i xs)[k]? = some y → ∃ x, xs[k]? = some x ∧ y = .tup [.int ((i + k : Nat) : Int), x] := by
  induction xs with
  | nil => intro i k y e; simp [enumV] at e
  | cons x xs ih =>
    intro i k y e
    cases k with
    | zero => simp [enumV] at e; exact ⟨x, by simp, by simp [e]⟩
    | succ k =>
      simp only [enumV, List.getElem?_cons_succ] at e
      obtain ⟨z, h1, h2⟩ := ih e
      exact ⟨z, by simpa using h1, by rw [h2]; congr 3; simp; omega⟩
theorem iters_enum (a I it : Addr) (xs : List V) (hne : I ≠ it) : Iters g (enumV 0 xs) (fun σ => σ a = some (.list xs)) I (fun b => b = I ∨ b = it) (fun k h => (∃ old, IsEnum h I it (k : Int) old) ∧ h.IsListIter it a k) true where
  stab := fun k h h' st _ kp => ⟨let ⟨old, e⟩ := st.1; ⟨old, kp I _ (.inl rfl) e⟩, st.2.at fun o e => kp it o (.inr rfl) e⟩
  flds := fun k h b st e => by
    rcases e with rfl | rfl
    · obtain ⟨old, e⟩ := st.1; exact ⟨_, e, .inr ⟨_, rfl⟩⟩
    · obtain ⟨o, ho, _, hd⟩ := st.2; exact ⟨o, ho, .inr ⟨_, hd⟩⟩
  self := fun k A E s Q st h => by obtain ⟨old, e⟩ := st.1; exact wpAny_pyIter_enum e h
  item := fun k y A E s σ target Q hy st R iv off tp h => by
    obtain ⟨es, m, p, rfl⟩ := tp rfl
    obtain ⟨x, hx, rfl⟩ := enumV_get hy
    obtain ⟨hf, vs, n, ho, hv⟩ := (R.own a _ iv).2
    obtain ⟨v, e, hxv⟩ := VRs_getA hv hx
    obtain ⟨old, he⟩ := st.1
    obtain ⟨oI, hoI, hcI, hdI⟩ := id st.2
    refine wpAny_pyNext_enum_item he st.2 ⟨_, ho, rfl, n, rfl⟩ e hne fun h' he' st' ht' hz kp => ?_
    refine wpAny_letOwnedTupleGo_enum he' fun h'' he'' sb => ?_
    have kb : KeptBut (fun b => b = I ∨ b = it) s.heap h'' := fun b o nb eb => sb.extBut b o (fun z => nb (.inl z)) (kp b o (fun z => nb (.inl z)) (fun z => nb (.inr z)) eb)
    have tk : TupsKept g s.heap h'' := fun b o xs' n' _ eb _ d => by
      refine .of (kb b o ?_ eb)
      rintro (rfl | rfl)
      · rw [he] at eb; cases eb; cases d
      · rw [hoI] at eb; cases eb; rw [hdI] at d; cases d
    have eI : I ≠ s.heap.objs.size := Nat.ne_of_lt (Heap.lt_size he)
    refine h _ _ kb ⟨rfl, rfl, rfl⟩ ⟨⟨v, ?_⟩, st'.extBut sb.extBut (Ne.symm hne)⟩ ?_
    · have : ((k + 1 : Nat) : Int) = (k : Int) + 1 := by push_cast; rfl
      rw [this]; exact he''
    · refine VR_tup.mpr ⟨by simp [Fits], _, _, _, _, rfl, fun nh => ?_, sb.extBut _ _ (Ne.symm eI) ht', rfl, rfl, ?_⟩
      · obtain ⟨o', eo⟩ := R.hid _ nh; rw [size_fresh] at eo; cases eo
      · exact VRs_cons (VR_int.mpr ⟨s.toks, by rw [Nat.zero_add]⟩) (VRs_cons (VR.mono tk hxv) VRs_nil)
  last := fun k A E s σ Q hk hh st R iv off h => by
    obtain ⟨hf, vs, n, ho, hv⟩ := (R.own a _ iv).2
    obtain ⟨old, he⟩ := st.1
    rw [enumV_length] at hk
    exact wpAny_pyNext_enum_end hh he st.2 ⟨_, ho, rfl, n, rfl⟩ (VRs_noneA hv hk) fun h' eb => h { s with heap := h' } (fun b o nb e => eb b o (fun z => nb (.inr z)) e) ⟨rfl, rfl, rfl⟩
end Mine

open PySem PyProof.Rows
namespace Mine
variable {g : Gr} {sc : Scope} {r : Nat} {c : Bool}

/-- a loop over items, each bound to the target -/
def loopT (t : Tgt) (inv : AH → Prop) (tb : TS) : List V → TS
  | [], ℓ, σ, Q, _ => inv σ ∧ Q .next ℓ σ
  | x :: xs, ℓ, σ, Q, E => inv σ ∧ bindV t x ℓ σ fun ℓ₁ => tb ℓ₁ σ (fun f ℓ₂ σ₂ => match f with
    | .next => loopT t inv tb xs ℓ₂ σ₂ Q E
    | .cont => loopT t inv tb xs ℓ₂ σ₂ Q E
    | .brk => Q .next ℓ₂ σ₂
    | .ret v => Q (.ret v) ℓ₂ σ₂) E
def Tgt.isTup : Tgt → Bool
  | .name _ => false
  | .tup _ => true
def tFor (t : Tgt) (ti : TI) (tb : TS) : TS := fun ℓ σ Q E => ti ℓ σ (fun items inv tup σ₁ => (tup = true → t.isTup = true) ∧ loopT t inv tb items ℓ σ₁ Q E) fun C σ' => E C ℓ σ'

section
variable {A : Around} {env : Env} {s s₁ : Shared} {σ σ₁ : AH} {ℓ ℓ₁ : Loc} {h h' : Heap}
/-- what the loop's iterator did -/
structure Walked (g : Gr) (fp : Addr → Prop) (h : Heap) (σ : AH) : Prop where
  off : ∀ a, fp a → σ a = none
  flds : ∀ a, fp a → ∃ o, h.get? a = some o ∧ (g.hid a ∨ ∃ vs, o.data = .fields vs)
  base : ∀ a, fp a → g.b0.get? a = none
theorem Walked.tups {fp : Addr → Prop} (w : Walked g fp h σ) (k : KeptBut fp h h') : TupsKept g h h' := fun a o vs n nh e _ d => by
  refine .of (k a o (fun q => ?_) e)
  obtain ⟨o', e', z⟩ := w.flds a q
  rw [e] at e'; cases e'
  rcases z with z | ⟨us, z⟩
  · exact nh z
  · rw [d] at z; cases z
theorem Walked.rel {fp : Addr → Prop} (w : Walked g fp h σ) (R : Rel g h σ) (k : KeptBut fp h h') (hh : ∀ a, g.hid a → fp a → ∃ o, h'.get? a = some o) : Rel g h' σ := by
  refine ⟨fun a ha => ?_, fun a o e => k a o (fun q => ?_) (R.base a o e), fun a ao e => ⟨(R.own a ao e).1, OR_mono (w.tups k) (fun o e' => k a o (fun q => ?_) e') (R.own a ao e).2⟩⟩
  · by_cases q : fp a
    · exact hh a ha q
    · obtain ⟨o, e⟩ := R.hid a ha; exact ⟨o, k a o q e⟩
  · rw [w.base a q] at e; cases e
  · rw [w.off a q] at e; cases e
theorem Walked.loc {fp : Addr → Prop} (w : Walked g fp h σ) (L : LR g h σ env ℓ) (k : KeptBut fp h h') (ho : ∀ a, fp a → ¬ Own env a) : LR g h' σ env ℓ := by
  have kv : ∀ {v : V} {u : Value}, VR g h v u → VR g h' v u := VR.mono (w.tups k)
  obtain ⟨m, hn, hm⟩ := L.ns
  refine ⟨⟨m, ns_upTo hn fun o e => .of (k _ o (fun q => ho _ q (.inl rfl)) e), fun y v a b => let ⟨u, e, f⟩ := hm y v a b; ⟨u, e, kv f⟩⟩, fun y c e => ?_, fun y v a kk => ?_, L.off, L.offc, L.apart, L.has⟩
  · obtain ⟨o, u, e1, e2⟩ := L.cell y c e
    exact ⟨o, u, k c o (fun q => ho _ q (.inr ⟨y, e⟩)) e1, e2⟩
  · obtain ⟨c, u, e, hc, hv⟩ := L.cells y v a kk
    exact ⟨c, u, e, cell_upTo hc fun o z => .of (k _ o (fun q => ho _ q (.inr ⟨_, e⟩)) z), kv hv⟩
theorem Own.present {a : Addr} (L : LR g h σ env ℓ) (w : Own env a) : ∃ o, h.get? a = some o := let ⟨o, e, _⟩ := L.noFields w; ⟨o, e⟩
/-- the iterator's objects stand behind a step of the block -/
theorem Walked.stand {fp : Addr → Prop} (w : Walked g fp h σ) (x : Ext (Own env) h σ h' σ₁) (ho : ∀ a, fp a → ¬ Own env a) (hh : ∀ a, fp a → g.hid a → ∀ o, h.get? a = some o → ∀ es n, o.data ≠ .dict es n) : ∀ a o, fp a → h.get? a = some o → h'.get? a = some o := fun a o q e => by
  refine (x.keep a o e (w.off a q) (ho a q)).exact fun es n d => ?_
  obtain ⟨o', e', z⟩ := w.flds a q
  rw [e] at e'; cases e'
  rcases z with z | ⟨us, z⟩
  · exact hh a q z o e es n d
  · rw [d] at z; cases z
end

theorem sndS_for {target iter : Expr} {body : List Stmt} {pos : Pos} {t : Tgt} {ti : TI} {tb : TS} (hi : SndI g sc r true iter ti) (ht : TgtIs sc target t) (hb : SndSs g sc r true body tb)
    (hf : ∀ env x, foldedSetIterable iter env x = pure x) : SndS g sc r true (.For target iter body [] pos) (tFor t ti tb) := .mk fun A env s ℓ σ Q E X h => by
  refine wpAny_For (wpAny_mono (hi.run A env s ℓ σ _ _ X h) (fun x s₁ p => wpAny_mono p (fun it s₂ p => ?_) fun _ _ p => p.toS X) fun _ _ p => p.toS X) (hf env)
  obtain ⟨items, inv, I, fp, St, tup, σ₁, rfl, IT, hst, hR, hx, hsm, hfp, hft, htt, hl⟩ := p
  have hb0 : ∀ a, fp a → g.b0.get? a = none := fun a q => by
    cases e : g.b0.get? a with
    | none => rfl
    | some o => exact absurd (hfp a q).1 (by rw [X.rel.base a o e]; simp)
  have hown : ∀ a, fp a → ¬ Own env a := fun a q w => by
    obtain ⟨o, e⟩ := Own.present X.loc w
    rw [(hfp a q).1] at e; cases e
  have hhid : ∀ a, fp a → ¬ g.hid a := fun a q w => by
    obtain ⟨o, e⟩ := X.rel.hid a w
    rw [(hfp a q).1] at e; cases e
  have target_tup : tup = true → ∃ es m p, target = .Tuple es m p := fun q => by
    have := htt q
    cases ht with
    | name _ _ => cases this
    | tup _ => exact ⟨_, _, _, rfl⟩
  refine codeAny_forLoop_any (fun n s' => ∃ k ℓ' σ', k ≤ items.length ∧ n = items.length - k ∧ St k s'.heap ∧ LR g s'.heap σ' env ℓ' ∧ Rel g s'.heap σ' ∧ Ext (Own env) s.heap σ s'.heap σ' ∧ Same s s' ∧ (∀ a, fp a → σ' a = none) ∧
    loopT t inv tb (items.drop k) ℓ' σ' Q E) ?_ items.length ⟨0, ℓ, σ₁, Nat.zero_le _, rfl, hst, X.loc.step X.rel hx, hR, hx.own, hsm, fun a q => (hfp a q).2, by simpa using hl⟩
  rintro n s' ⟨k, ℓ', σ', hk, rfl, hst, hL, hR, hx, hsm, hoff, hl⟩
  have W : Walked g fp s'.heap σ' := ⟨hoff, fun a q => IT.flds k _ a hst q, hb0⟩
  have X' : Cx g sc r true A env s'.heap σ' ℓ' := X.stepS hL hR hx
  -- behind a step of the iterator
  have behind : ∀ {s'' : Shared}, KeptBut fp s'.heap s''.heap → LR g s''.heap σ' env ℓ' ∧ Rel g s''.heap σ' ∧ Ext (Own env) s.heap σ s''.heap σ' := fun {s''} kb => by
    refine ⟨W.loc hL kb hown, W.rel hR kb fun a q w => absurd q (hhid a w), ⟨fun a o e n nw => ?_, fun a o e => ?_, hx.dom⟩⟩
    · refine (hx.keep a o e n nw).then fun o' e' => .of (kb a o' (fun q => ?_) e')
      rw [(hfp a q).1] at e; cases e
    · obtain ⟨o', e'⟩ := hx.pres a o e
      refine ⟨o', kb a o' (fun q => ?_) e'⟩
      rw [(hfp a q).1] at e; cases e
  rcases Nat.lt_or_ge k items.length with hlt | hge
  · have hd : items.drop k = items[k] :: items.drop (k + 1) := List.drop_eq_getElem_cons hlt
    rw [hd] at hl
    obtain ⟨hinv, hbind⟩ := hl
    refine wpAny_mono (IT.item k items[k] A (fun e s' => False) s' σ' target (fun v s₁ => ∃ (kb : KeptBut fp s'.heap s₁.heap), Same s' s₁ ∧ St (k + 1) s₁.heap ∧ VR g s₁.heap items[k] v) (by simp [hlt]) hst hR hinv hoff target_tup
      fun v s₁ a b d e => ⟨a, b, d, e⟩) (fun rr s₁ p => ?_) fun _ _ p => p.elim
    cases rr with
    | none => exact p.elim
    | some v =>
      refine wpAny_mono p (fun _ s₂ p => ?_) fun _ _ p => p.elim
      obtain ⟨kb, hs2, hst2, hv⟩ := p
      obtain ⟨hL2, hR2, hx2⟩ := behind kb
      have X2 : Cx g sc r true A env s₂.heap σ' ℓ' := X.stepS hL2 hR2 hx2
      have W2 : Walked g fp s₂.heap σ' := ⟨hoff, fun a q => IT.flds _ _ a hst2 q, hb0⟩
      refine wpAny_mono (assign_ok writes_own (E := fun _ _ => False) X2 ht hv hbind) (fun _ s₃ p => ?_) fun _ _ p => p.elim
      obtain ⟨ℓ₃, hL3, hR3, hx3, hs3, hbody⟩ := p
      have hst3 : St (k + 1) s₃.heap := IT.stab _ _ _ hst2 (hx3.tuples hR2 hL2.noSeq) (W2.stand hx3 hown fun a q w => absurd w (hhid a q))
      have X3 : Cx g sc r true A env s₃.heap σ' ℓ₃ := X2.stepS hL3 hR3 hx3
      have W3 : Walked g fp s₃.heap σ' := ⟨hoff, fun a q => IT.flds _ _ a hst3 q, hb0⟩
      have hx03 : Ext (Own env) s.heap σ s₃.heap σ' := hx2.trans hx3
      have hs03 : Same s s₃ := (hsm.trans hs2).trans hs3
      refine wpAny_mono (hb.run A env s₃ ℓ₃ σ' _ E X3 hbody) (fun f s₄ p => ?_) fun e s₄ p => (p.back hx03 hs03).noted fun e s' p => p.came fun e s' p => p
      obtain ⟨f', ℓ₄, σ₄, hf', hL4, hR4, hx4, hs4, hq⟩ := p
      have again : loopT t inv tb (items.drop (k + 1)) ℓ₄ σ₄ Q E → ∃ m, m < items.length - k ∧ ∃ k' ℓ' σ', k' ≤ items.length ∧ m = items.length - k' ∧ St k' s₄.heap ∧ LR g s₄.heap σ' env ℓ' ∧ Rel g s₄.heap σ' ∧ Ext (Own env) s.heap σ s₄.heap σ' ∧ Same s s₄ ∧ (∀ a, fp a → σ' a = none) ∧
          loopT t inv tb (items.drop k') ℓ' σ' Q E := fun hl => by
        refine ⟨items.length - (k + 1), by omega, k + 1, ℓ₄, σ₄, hlt, rfl, ?_, hL4, hR4, hx03.trans hx4, hs03.trans hs4, fun a q => ?_, hl⟩
        · exact IT.stab _ _ _ hst3 (hx4.tuples hR3 hL3.noSeq) (W3.stand hx4 hown fun a q w => absurd w (hhid a q))
        · obtain ⟨o, e, _⟩ := W3.flds a q
          exact hx4.off e (hoff a q)
      cases f' with
      | next => cases hf'; exact again hq
      | cont => cases hf'; exact again hq
      | brk => cases hf'; exact ⟨.next, ℓ₄, σ₄, rfl, hL4, hR4, hx03.trans hx4, hs03.trans hs4, hq⟩
      | ret v => obtain ⟨u, rfl, hu⟩ := hf'; exact ⟨.ret v, ℓ₄, σ₄, ⟨u, rfl, hu⟩, hL4, hR4, hx03.trans hx4, hs03.trans hs4, hq⟩
  · have hd : items.drop k = [] := List.drop_eq_nil_of_le hge
    rw [hd] at hl
    refine IT.last k A _ s' σ' _ hge (X.room.calm rfl) hst hR hl.1 hoff fun s'' kb hs'' => wpAny_execs_nil ?_
    obtain ⟨hL2, hR2, hx2⟩ := behind kb
    exact ⟨.next, ℓ', σ', rfl, hL2, hR2, hx2, hsm.trans hs'', hl.2⟩
end Mine

open PySem PyProof.Rows
namespace Mine
variable {g : Gr} {sc csc : Scope} {r : Nat} {c : Bool}

/-! ## the block of a comprehension -/
def Loc.bare (ℓ : Loc) : Loc := fun n => if n = ".0" then none else ℓ n

/-- what is asked of a comprehension's scope; checked by computation -/
def namesApart : List (Str × NameKind) → Bool
  | [] => true
  | (x, _) :: rest => (rest.all fun y => y.1 != x) && namesApart rest
def scopeOk (sc csc : Scope) : Bool :=
  csc.kind == .function && namesApart csc.names && (csc.names.all fun x => x.2 != .cell && x.1 != ("__debug__" : Str) && x.1 != ("__classdict__" : Str)) &&
  (csc.names.all fun x => x.2 != .free || sc.names.any fun y => y.1 == x.1 && (y.2 == .cell || y.2 == .free))

theorem lookup_of_apart : ∀ {names : List (Str × NameKind)} {x : Str} {k : NameKind}, namesApart names = true → (x, k) ∈ names → names.lookup x = some k
  | (y, j) :: rest, x, k, h, hm => by
    simp only [namesApart, Bool.and_eq_true] at h
    cases hm with
    | head => simp [List.lookup_cons]
    | tail _ hm =>
      have hne : (x == y) = false := by
        have := List.all_eq_true.mp h.1 _ hm
        simpa using this
      rw [List.lookup_cons, hne]
      exact lookup_of_apart h.2 hm
theorem mem_of_lookup : ∀ {names : List (Str × NameKind)} {x : Str} {k : NameKind}, names.lookup x = some k → (x, k) ∈ names
  | [], x, k, h => by simp at h
  | (y, j) :: rest, x, k, h => by
    rw [List.lookup_cons] at h
    split at h
    · rename_i e; cases h; rw [eq_of_beq e]; exact .head _
    · exact .tail _ (mem_of_lookup h)

theorem closureFor_ok {scope : Scope} {env : Env} (h : ∀ x ∈ scope.names, x.2 = .free → ∃ a, env.cells.lookup x.1 = some a) :
    ∃ cl, closureFor scope env = pure cl ∧ (∀ n a, cl.lookup n = some a → env.cells.lookup n = some a) ∧ ∀ n, (n, NameKind.free) ∈ scope.names → cl.lookup n = env.cells.lookup n := by
  have key : ∀ (names : List (Str × NameKind)) (cs : List (Str × Addr)), (∀ x ∈ names, x.2 = .free → ∃ a, env.cells.lookup x.1 = some a) → (∀ n a, cs.lookup n = some a → env.cells.lookup n = some a) →
      ∃ cl, (forIn names cs fun x cs => if (x.2 == NameKind.free) = true then (do let a ← cellOf env x.1; pure (ForInStep.yield ((x.1, a) :: cs))) else pure (ForInStep.yield cs) : Sem (List (Str × Addr))) = pure cl ∧
        (∀ n a, cl.lookup n = some a → env.cells.lookup n = some a) ∧ (∀ n, (n, NameKind.free) ∈ names ∨ cs.lookup n ≠ none → cl.lookup n = env.cells.lookup n) := by
    intro names
    induction names with
    | nil =>
      intro cs _ hcs
      refine ⟨cs, rfl, hcs, fun n q => ?_⟩
      rcases q with q | q
      · cases q
      · cases e : cs.lookup n with
        | none => exact absurd e q
        | some a => rw [hcs n a e]
    | cons x names ih =>
      intro cs hx hcs
      obtain ⟨n, k⟩ := x
      cases hk : k == NameKind.free with
      | true =>
        obtain ⟨a, ha⟩ := hx (n, k) (.head _) (eq_of_beq hk)
        have hcs' : ∀ m b, ((n, a) :: cs).lookup m = some b → env.cells.lookup m = some b := fun m b q => by
          rw [List.lookup_cons] at q
          split at q
          · rename_i e; cases q; rw [eq_of_beq e]; exact ha
          · exact hcs m b q
        obtain ⟨cl, h1, h2, h3⟩ := ih ((n, a) :: cs) (fun y hy => hx y (.tail _ hy)) hcs'
        refine ⟨cl, ?_, h2, fun m q => h3 m ?_⟩
        · rw [List.forIn_cons]
          simp only [hk, if_true]
          unfold cellOf
          rw [ha]
          exact h1
        · rcases q with q | q
          · cases q with
            | head => right; simp [List.lookup_cons]
            | tail _ q => exact .inl q
          · right
            rw [List.lookup_cons]
            split
            · simp
            · exact q
      | false =>
        obtain ⟨cl, h1, h2, h3⟩ := ih cs (fun y hy => hx y (.tail _ hy)) hcs
        refine ⟨cl, ?_, h2, fun m q => h3 m ?_⟩
        · rw [List.forIn_cons]
          simp only [hk, Bool.false_eq_true, if_false]
          exact h1
        · rcases q with q | q
          · cases q with
            | head => cases hk
            | tail _ q => exact .inl q
          · exact .inr q
  obtain ⟨cl, h1, h2, h3⟩ := key scope.names [] h (fun n a q => by simp at q)
  refine ⟨cl, ?_, h2, fun n q => h3 n (.inl q)⟩
  unfold closureFor
  have : (pure cl : Sem (List (Str × Addr))) = (pure cl >>= fun cs => pure cs) := rfl
  rw [this, ← h1]

theorem LR.forget {h : Heap} {σ : AH} {env : Env} {ℓ ℓ' : Loc} (L : LR g h σ env ℓ) (k : ∀ n v, ℓ' n = some v → ℓ n = some v) : LR g h σ env ℓ' := by
  obtain ⟨m, h1, h2⟩ := L.ns
  exact ⟨⟨m, h1, fun n v e kd => h2 n v (k n v e) kd⟩, L.cell, fun n v e kd => L.cells n v (k n v e) kd, L.off, L.offc, L.apart, L.has⟩
theorem Rel.claim {h : Heap} {σ : AH} {a : Addr} {ao : AO} (R : Rel g h σ) (hb : g.b0.get? a = none) (x : OR g h a ao) : Rel g h (σ.set a ao) := by
  refine ⟨R.hid, R.base, fun b bo e => ?_⟩
  unfold AH.set at e
  split at e
  · rename_i q; subst q; cases e; exact ⟨hb, x⟩
  · exact R.own b bo e

section
variable {A : Around} {env : Env} {s : Shared} {σ : AH} {ℓ : Loc} {h : Heap} {cl : List (Str × Addr)} {C : Addr}
theorem kindOf_comp (cl : List (Str × Addr)) (C : Addr) (env : Env) (x : Str) : (compEnvC csc cl C env).kindOf x = (csc.names.lookup x).map fun k => if (k == .free && env.scope.kind == .function && env.kindOf x == some .cell) then .cell else k := by
  show ((relabel csc env).names).lookup x = _
  unfold relabel
  simp only
  generalize csc.names = names
  induction names with
  | nil => rfl
  | cons y rest ih =>
    obtain ⟨n, k⟩ := y
    rw [List.map_cons, List.lookup_cons]
    by_cases hx : x = n
    · subst hx
      by_cases hc : (k == NameKind.free && env.scope.kind == .function && env.kindOf x == some .cell) = true
      · simp only [hc, if_true, List.lookup_cons, beq_self_eq_true, Option.map_some]
      · simp only [hc, if_false, List.lookup_cons, beq_self_eq_true, Option.map_some]
        simp
    · have hb : (x == n) = false := by simpa using hx
      by_cases hc : (k == NameKind.free && env.scope.kind == .function && env.kindOf n == some .cell) = true
      · simp only [hc, if_true, List.lookup_cons, hb]; exact ih
      · simp only [hc, if_false, List.lookup_cons, hb]; simp only [Bool.false_eq_true, if_false, List.lookup_cons, hb]; exact ih

theorem comp_env (X : Cx g sc r c A env h σ ℓ) (ok : scopeOk sc csc = true) : EnvOk csc (compEnvC csc cl C env) := by
  simp only [scopeOk, Bool.and_eq_true] at ok
  obtain ⟨⟨⟨ok1, ok2⟩, ok3⟩, ok4⟩ := ok
  refine ⟨fun x k hm => ?_, fun x k hm => ?_, by show (relabel csc env).kind = _; exact eq_of_beq ok1, X.ok.globals, X.ok.builtins⟩
  · rw [kindOf_comp, lookup_of_apart ok2 hm]
    simp only [Option.map_some]
    split
    · rename_i hc
      simp only [Bool.and_eq_true] at hc
      exact .inr ⟨eq_of_beq hc.1.1, rfl⟩
    · exact .inl rfl
  · have := List.all_eq_true.mp ok3 _ hm
    simp only [Bool.and_eq_true] at this
    exact ⟨by simpa using this.1.2, by simpa using this.2⟩

theorem comp_loc (X : Cx g sc r c A env h σ ℓ) (ok : scopeOk sc csc = true) (hcl : ∀ n a, cl.lookup n = some a → env.cells.lookup n = some a) (hcl' : ∀ n, (n, NameKind.free) ∈ csc.names → cl.lookup n = env.cells.lookup n)
    {m : Str → Option Value} (hn : h.Ns C m) (hC : σ C = none) (hCb : g.b0.get? C = none) (hCn : ∀ x a, env.cells.lookup x = some a → a ≠ C)
    {ℓ' : Loc} (hl : ∀ n v, ℓ' n = some v → csc.names.lookup (Str.ofString n) = some .local → ∃ u, m (Str.ofString n) = some u ∧ VR g h v u)
    (hf : ∀ n v, ℓ' n = some v → csc.names.lookup (Str.ofString n) = some .free → ℓ n = some v) : LR g h σ (compEnvC csc cl C env) ℓ' := by
  simp only [scopeOk, Bool.and_eq_true] at ok
  obtain ⟨⟨⟨ok1, ok2⟩, ok3⟩, ok4⟩ := ok
  -- the kind of a name in the comprehension's scope
  have kd : ∀ x k, (compEnvC csc cl C env).kindOf x = some k → (k = .local → csc.names.lookup x = some .local) ∧ (k = .cell ∨ k = .free → csc.names.lookup x = some .free) := fun x k e => by
    rw [kindOf_comp] at e
    cases q : csc.names.lookup x with
    | none => rw [q] at e; cases e
    | some j =>
      rw [q] at e
      simp only [Option.map_some, Option.some.injEq] at e
      have hj : j ≠ .cell := fun z => by
        subst z
        have := List.all_eq_true.mp ok3 _ (mem_of_lookup q)
        simp at this
      split at e
      · rename_i hc
        simp only [Bool.and_eq_true] at hc
        have : j = .free := eq_of_beq hc.1.1
        subst this; subst e
        exact ⟨fun z => (nomatch z), fun _ => rfl⟩
      · subst e
        exact ⟨fun z => by rw [z], fun z => by rcases z with z | z <;> first | exact absurd z hj | rw [z]⟩
  -- free names have cells outside
  have out : ∀ x, csc.names.lookup x = some .free → env.kindOf x = some .cell ∨ env.kindOf x = some .free := fun x e => by
    have := List.all_eq_true.mp ok4 _ (mem_of_lookup e)
    simp only [bne_self_eq_false, Bool.false_or, List.any_eq_true, Bool.and_eq_true] at this
    obtain ⟨⟨y, j⟩, hy, h1, h2⟩ := this
    have hyx : y = x := eq_of_beq h1
    subst hyx
    rcases X.ok.kinds _ _ hy with q | ⟨_, q⟩
    · rw [q]
      cases j <;> simp at h2 <;> simp
    · exact .inl q
  refine ⟨⟨m, hn, fun n v e k => hl n v e ((kd _ _ k).1 rfl)⟩, fun x a e => X.loc.cell x a (hcl x a e), fun n v e k => ?_, ⟨hC, hCb⟩, fun x a e => ?_, fun x y a e1 e2 => X.loc.apart x y a (hcl x a e1) (hcl y a e2), fun x k => ?_⟩
  · have hfree : csc.names.lookup (Str.ofString n) = some .free := by
      rcases k with k | k
      · exact (kd _ _ k).2 (.inl rfl)
      · exact (kd _ _ k).2 (.inr rfl)
    obtain ⟨a, u, h1, h2, h3⟩ := X.loc.cells n v (hf n v e hfree) (out _ hfree)
    exact ⟨a, u, (hcl' _ (mem_of_lookup hfree)).trans h1, h2, h3⟩
  · obtain ⟨h1, h2, h3⟩ := X.loc.offc x a (hcl x a e)
    exact ⟨h1, hCn x a (hcl x a e), h3⟩
  · have hfree : csc.names.lookup x = some .free := by
      rcases k with k | k
      · exact (kd _ _ k).2 (.inl rfl)
      · exact (kd _ _ k).2 (.inr rfl)
    obtain ⟨a, ha⟩ := X.loc.has x (out x hfree)
    exact ⟨a, (hcl' _ (mem_of_lookup hfree)).trans ha⟩
theorem comp_cells (X : Cx g sc r c A env h σ ℓ) (ok : scopeOk sc csc = true) : ∀ x ∈ csc.names, x.2 = .free → ∃ a, env.cells.lookup x.1 = some a := fun x hx e => by
  simp only [scopeOk, Bool.and_eq_true] at ok
  have := List.all_eq_true.mp ok.2 _ hx
  rw [e] at this
  simp only [bne_self_eq_false, Bool.false_or, List.any_eq_true, Bool.and_eq_true] at this
  obtain ⟨⟨y, j⟩, hy, h1, h2⟩ := this
  have hyx : y = x.1 := eq_of_beq h1
  subst hyx
  refine X.loc.has _ ?_
  rcases X.ok.kinds _ _ hy with q | ⟨_, q⟩
  · rw [q]
    cases j <;> simp at h2 <;> simp
  · exact .inl q
end
end Mine

open PySem PyProof.Rows
namespace Mine
variable {g : Gr} {sc csc : Scope} {r : Nat} {c : Bool}

def compT (t : Tgt) (inv : AH → Prop) (tifs : TB) (telt : TE) (ℓ : Loc) : List V → List V → AH → (List V → AH → Prop) → (Addr → AH → Prop) → Prop
  | [], acc, σ, Q, _ => inv σ ∧ Q acc σ
  | x :: xs, acc, σ, Q, E => inv σ ∧ bindV t x ℓ.bare σ fun ℓ₁ => tifs ℓ₁ σ (fun b σ₁ => match b with
      | true => telt ℓ₁ σ₁ (fun v σ₂ => compT t inv tifs telt ℓ xs (acc ++ [v]) σ₂ Q E) E
      | false => compT t inv tifs telt ℓ xs acc σ₁ Q E) E
/-- the list that a comprehension makes, before anybody holds it -/
def tComp (t : Tgt) (ti : TI) (tifs : TB) (telt : TE) : Loc → AH → (List V → AH → Prop) → (Addr → AH → Prop) → Prop := fun ℓ σ Q E =>
  ti ℓ σ (fun items inv tup σ₁ => (tup = true → t.isTup = true) ∧ compT t inv tifs telt ℓ items [] σ₁ Q E) E

/-- the tests of a clause -/
structure SndT (g : Gr) (sc : Scope) (r : Nat) (c : Bool) (ifs : List Expr) (t : TB) : Prop where
  run : ∀ A env s ℓ σ Q E, Cx g sc r c A env s.heap σ ℓ → t ℓ σ Q E →
  wpAny (model g.prog g.w) A (forIn ifs true fun c r => if r = true then do let ok ← isTrue c env (eval c env); pure (ForInStep.yield ok) else pure (ForInStep.yield r)) (PostB g s σ Q) (PostX g A s σ E) s
theorem sndT_nil : SndT g sc r c [] (tConstB true) := .mk fun A env s ℓ σ Q E X h => wpAny_tests_nil (.here rfl X.rel h)
theorem sndT_one {e : Expr} {t : TB} (h1 : SndB g sc r c e t) : SndT g sc r c [e] t := .mk fun A env s ℓ σ Q E X h => wpAny_tests_one (h1.run A env s ℓ σ Q E X h)

theorem compLoop_own {prog : Program} {w : World} {A : Around} {R : Result → Shared → Prop} {s : Shared} {elt target iter : Expr} {ifs : List Expr} {scope : Scope} {pos : Pos} {it acc : Value} {env : Env} (I : Nat → Shared → Prop)
    (turn : ∀ n s, I n s → wpAny (model prog w) A (pyNext it) (fun r s₁ => match r with
      | none => R (.ok .next) s₁
      | some v => wpAny (model prog w) A (letOwnedTupleGo target it v) (fun _ s₁ => wpAny (model prog w) A (assign target env v) (fun _ s₂ =>
          wpAny (model prog w) A (forIn ifs true fun c r => if r = true then do let ok ← isTrue c env (eval c env); pure (ForInStep.yield ok) else pure (ForInStep.yield r)) (fun ok s₃ =>
            if ok = true then wpAny (model prog w) A (eval elt env) (fun x s₄ =>
              wpAny (model prog w) A (call (.builtin "list.append") [acc, x]) (fun _ s₅ => ∃ m, m < n ∧ I m s₅) (notedBy (model prog w) A env fun e s' => R (.error e) s') s₄) (notedBy (model prog w) A env fun e s' => R (.error e) s') s₃
            else ∃ m, m < n ∧ I m s₃) (notedBy (model prog w) A env fun e s' => R (.error e) s') s₂) (notedBy (model prog w) A env fun e s' => R (.error e) s') s₁) (notedBy (model prog w) A env fun e s' => R (.error e) s') s₁) (notedBy (model prog w) A env fun e s' => R (.error e) s') s)
    (n : Nat) (h : I n s) :
    codeAny (model prog w) A (.compLoop (.ListComp elt [⟨target, iter, ifs, 0⟩] scope pos) 0 it acc env) R s := by
  refine codeAny_loop rfl I (fun n s hI => ?_) n h
  show wpAny _ A ((compTurn (.ListComp elt [⟨target, iter, ifs, 0⟩] scope pos) 0 it acc env).onRaise (fun x => do noteFrame x env; theTreesLotGoes x)) _ _ s
  refine wpAny_noted ?_
  rw [compTurn_list]
  refine wpAny_bind (wpAny_standAt (wpAny_bind (wpAny_mono (turn n s hI) (fun r s₁ h₁ => ?_) fun _ _ h' => h')))
  cases r with
  | none => exact wpAny_pure h₁
  | some v =>
    refine wpAny_bind (wpAny_mono h₁ (fun _ s₁ h₁ => ?_) fun _ _ h' => h')
    refine wpAny_bind (wpAny_mono h₁ (fun _ s₂ h₂ => wpAny_bind (wpAny_mono h₂ (fun ok s₃ h₃ => ?_) fun _ _ h' => h')) fun _ _ h' => h')
    cases ok with
    | false => exact wpAny_pure ⟨rfl, h₃⟩
    | true =>
      exact wpAny_bind (wpAny_bind (wpAny_mono h₃ (fun x s₄ h₄ => wpAny_bind (wpAny_mono h₄ (fun _ s₅ h₅ => wpAny_pure (wpAny_pure ⟨rfl, h₅⟩)) fun _ _ h' => h')) fun _ _ h' => h'))

def Tgt.names : Tgt → List String
  | .name n => [n]
  | .tup ns => ns
/-- the block's own names are the target's; checked by computation -/
def locOk (csc : Scope) (t : Tgt) : Bool := csc.names.all fun x => x.2 != .local || x.1 == Str.ofString ".0" || t.names.any fun n => x.1 == Str.ofString n
/-- what the block sees of the names outside -/
def Loc.outer (csc : Scope) (ℓ : Loc) : Loc := fun n => if csc.names.lookup (Str.ofString n) = some .local then none else ℓ n
theorem setAll_sub : ∀ {ns : List String} {vs : List V} {ℓa ℓb : Loc}, vs.length = ns.length → (∀ n v, n ∉ ns → ℓa n = some v → ℓb n = some v) → ∀ n v, ℓa.setAll ns vs n = some v → ℓb.setAll ns vs n = some v
  | [], vs, ℓa, ℓb, hl, h, n, v, e => by
    cases vs with
    | nil => exact h n v (by simp) e
    | cons _ _ => simp at hl
  | m :: ns, [], ℓa, ℓb, hl, h, n, v, e => by simp at hl
  | m :: ns, x :: vs, ℓa, ℓb, hl, h, n, v, e => by
    refine setAll_sub (ns := ns) (vs := vs) (ℓa := ℓa.set m x) (ℓb := ℓb.set m x) (by simpa using hl) (fun k u hk q => ?_) n v e
    unfold Loc.set at q ⊢
    split
    · rename_i z; rw [if_pos z] at q; exact q
    · rename_i z; rw [if_neg z] at q; exact h k u (by simp [z, hk]) q
theorem bind_outer {csc : Scope} {t : Tgt} (lk : locOk csc t = true) {x : V} {ℓ : Loc} {σ : AH} {P : Loc → Prop} (h : bindV t x ℓ.bare σ P) : bindV t x (ℓ.outer csc) σ fun ℓ' => ∃ ℓ'', (∀ n v, ℓ'' n = some v → ℓ' n = some v) ∧ P ℓ'' := by
  have sub : ∀ n v, n ∉ t.names → ℓ.bare n = some v → ℓ.outer csc n = some v := fun n v hn e => by
    unfold Loc.bare at e
    split at e
    · cases e
    · rename_i z
      unfold Loc.outer
      rw [if_neg ?_]; exact e
      intro q
      have := List.all_eq_true.mp lk _ (mem_of_lookup q)
      simp only [bne_self_eq_false, Bool.false_or, Bool.or_eq_true, List.any_eq_true] at this
      rcases this with w | ⟨m, hm, w⟩
      · exact z (ofString_inj (eq_of_beq w))
      · exact hn (ofString_inj (eq_of_beq w) ▸ hm)
  cases t with
  | name m =>
    refine ⟨_, fun n v e => ?_, h⟩
    unfold Loc.set at e ⊢
    split
    · rename_i z; rw [if_pos z] at e; exact e
    · rename_i z; rw [if_neg z] at e; exact sub n v (by simp [Tgt.names, z]) e
  | tup ns =>
    simp only [bindV] at h ⊢
    split at h
    · rename_i vs e
      exact ⟨h.1, _, setAll_sub h.1 sub, h.2⟩
    · exact h.elim

theorem Ext.absorb {W : Addr → Prop} {h0 h h' : Heap} {σ0 σ σ' : AH} (x : Ext No h0 σ0 h σ) (y : Ext W h σ h' σ') (hw : ∀ a, W a → h0.get? a = none) : Ext No h0 σ0 h' σ' := by
  refine ⟨fun a o e n nw => ?_, fun a o e => ?_, fun a q => ?_⟩
  · exact (x.keep a o e n nw).then fun o' e' => y.keep a o' e' (x.off e n) fun w => by rw [hw a w] at e; cases e
  · obtain ⟨o', e'⟩ := x.pres a o e; exact y.pres a o' e'
  · rcases y.dom a q with z | z
    · exact x.dom a z
    · cases e : h0.get? a with
      | none => exact .inr rfl
      | some o => obtain ⟨o', e'⟩ := x.pres a o e; rw [e'] at z; cases z

/-- what stands in the block of a comprehension -/
structure Blk (g : Gr) (csc : Scope) (cl : List (Str × Addr)) (env : Env) (s : Shared) (σ : AH) (fp : Addr → Prop) (St : Nat → Heap → Prop) (D C : Addr) (k : Nat) (acc : List V) (ℓ' : Loc) (s' : Shared) (σ' : AH) : Prop where
  st : St k s'.heap
  dl : ∃ vs n, s'.heap.get? D = some { cls := .type "list", data := .seq vs n } ∧ VRs g s'.heap acc vs.toList
  loc : LR g s'.heap σ' (compEnvC csc cl C env) ℓ'
  rel : Rel g s'.heap σ'
  ext : Ext No s.heap σ s'.heap σ'
  same : Same s s'
  off : ∀ a, fp a → σ' a = none
  offD : σ' D = none

section
variable {A : Around} {env : Env} {s : Shared} {σ : AH} {ℓ : Loc} {cl : List (Str × Addr)} {items : List V} {inv : AH → Prop} {I : Addr} {fp : Addr → Prop} {St : Nat → Heap → Prop} {tup : Bool} {D C : Addr}

theorem comp_core {s₂ : Shared} {σ₁ : AH} {elt target iter : Expr} {ifs : List Expr} {pos : Pos} {t : Tgt} {tifs : TB} {telt : TE} {Q : List V → AH → Prop} {E : Addr → AH → Prop} {EE : Value → Shared → Prop} {RR : Value → Addr → Result → Shared → Prop}
    (X : Cx g sc r true A env s.heap σ ℓ) (ok : scopeOk sc csc = true) (IT : Iters g items inv I fp St tup) (hst : St 0 s₂.heap) (hR : Rel g s₂.heap σ₁) (hx : Ext No s.heap σ s₂.heap σ₁) (hsm : Same s s₂) (hfp : ∀ a, fp a → s.heap.get? a = none ∧ σ₁ a = none)
    (hft : Fits items.length) (htt : tup = true → t.isTup = true) (ht : TgtIs csc target t) (lk : locOk csc t = true) (h1 : SndT g csc r true ifs tifs) (h2 : SndE g csc r true elt telt)
    (hcl : ∀ n a, cl.lookup n = some a → env.cells.lookup n = some a) (hcl' : ∀ n, (n, NameKind.free) ∈ csc.names → cl.lookup n = env.cells.lookup n)
    (h : compT t inv tifs telt ℓ items [] σ₁ Q E)
    (hRR : ∀ D C s' σ' xs, s.heap.get? D = none → s.heap.get? C = none → D ≠ C → (∃ m, s'.heap.Ns C m) → OR g s'.heap D (.list xs) → Rel g s'.heap σ' → Ext No s.heap σ s'.heap σ' → Same s s' → σ' D = none → σ' C = none → Q xs σ' → RR (.ref D) C (.ok .next) s')
    (hEE : ∀ D C e s', PostX g A s σ E e s' → notedBy (model g.prog g.w) A (compEnvC csc cl C env) (fun e s' => RR (.ref D) C (.error e) s') e s') :
    wpAny (model g.prog g.w) A (newList []) (fun acc s₃ => wpAny (model g.prog g.w) A (newFunctionEnv csc env.globals cl [] env.qual none .none (some env)) (fun cenv s₄ =>
      codeAny (model g.prog g.w) A (.compStart (.ListComp elt [⟨target, iter, ifs, 0⟩] csc pos) 0 (.ref I) acc { cenv with scope := relabel csc env }) (RR acc cenv.locals) s₄) EE s₃) EE s₂ := by
  have ok' := ok
  simp only [scopeOk, Bool.and_eq_true] at ok'
  obtain ⟨⟨⟨ok1, ok2⟩, ok3⟩, ok4⟩ := ok'
  have hcell : ∀ y ∈ csc.names, y.2 ≠ .cell := fun y hy e => by
    have := List.all_eq_true.mp ok3 _ hy
    rw [e] at this; simp at this
  refine wpAny_newObj_type (wpAny_newFunctionEnv hcell (by intro y hy; simp at hy) (fun h₁ hns₁ hsb₁ => ?_) (eq_of_beq ok1))
  dsimp only at hns₁ hsb₁ ⊢
  generalize hH2 : s₂.heap.push { cls := .type "list", dict := none, data := .seq ([] : List Value).toArray } = H2 at hns₁ hsb₁ ⊢
  generalize hDd : s₂.heap.objs.size = D at *
  generalize hCd : H2.objs.size = C at *
  have hCD : C = D + 1 := by rw [← hCd, ← hH2, Heap.size_push, hDd]
  have hDC : D ≠ C := by omega
  have lt2 : ∀ b o, s₂.heap.get? b = some o → b < D := fun b o e => by rw [← hDd]; exact Heap.lt_size e
  have old : ∀ b o, s₂.heap.get? b = some o → h₁.get? b = some o := fun b o e => hsb₁.extBut b o (by rw [hCD]; exact Nat.ne_of_lt (Nat.lt_succ_of_lt (lt2 b o e))) (Heap.get?_push_of_some _ (hH2 ▸ Heap.get?_push_of_some _ e))
  have hacc : h₁.get? D = some { cls := .type "list", data := .seq #[] } := hsb₁.extBut _ _ hDC (Heap.get?_push_of_some _ (hH2 ▸ (hDd ▸ Heap.get?_push_size _ rfl)))
  have fresh2 : ∀ a, D ≤ a → s₂.heap.get? a = none := fun a ha => by
    cases e : s₂.heap.get? a with
    | none => rfl
    | some o' => exact absurd (lt2 a o' e) (Nat.not_lt.mpr ha)
  have fresh : ∀ a, D ≤ a → s.heap.get? a = none := fun a ha => by
    cases e : s.heap.get? a with
    | none => rfl
    | some o => obtain ⟨o', e'⟩ := hx.pres a o e; rw [fresh2 a ha] at e'; cases e'
  have hDs := fresh D (Nat.le_refl _)
  have hCs := fresh C (by omega)
  have b0 : ∀ a, s.heap.get? a = none → g.b0.get? a = none := fun a e => by
    cases q : g.b0.get? a with
    | none => rfl
    | some o => rw [X.rel.base a o q] at e; cases e
  have hhid : ∀ a, s.heap.get? a = none → ¬ g.hid a := fun a e w => by
    obtain ⟨o, e'⟩ := X.rel.hid a w; rw [e] at e'; cases e'
  have fpD : ∀ a, fp a → a < D := fun a q => by obtain ⟨o, e, _⟩ := IT.flds 0 _ a hst q; exact lt2 a o e
  have cellsIn : ∀ x a, env.cells.lookup x = some a → ∃ o, s.heap.get? a = some o := fun x a e => let ⟨o, u, h1, _⟩ := X.loc.cell x a e; ⟨o, h1⟩
  have ownC : ∀ a, Own (compEnvC csc cl C env) a → a = C ∨ ∃ o, s.heap.get? a = some o := fun a w => by
    rcases w with w | ⟨x, e⟩
    · exact .inl w
    · exact .inr (cellsIn x a (hcl x a e))
  have fpOwn : ∀ a, fp a → ¬ Own (compEnvC csc cl C env) a := fun a q w => by
    rcases ownC a w with z | ⟨o, z⟩
    · have q' := fpD a q; rw [z, hCD] at q'; exact absurd q' (Nat.not_lt.mpr (Nat.le_succ D))
    · rw [(hfp a q).1] at z; cases z
  have DOwn : ¬ Own (compEnvC csc cl C env) D := fun w => by
    rcases ownC D w with z | ⟨o, z⟩
    · exact hDC z
    · rw [hDs] at z; cases z
  have writes : Writes (· = C) csc (compEnvC csc cl C env) := ⟨fun a q => .inl q, fun n k a hm q1 q2 hk => by
    cases k with
    | «local» => exact q1 rfl
    | cell => exact absurd rfl (hcell _ hm)
    | _ => cases hk⟩
  have target_tup : tup = true → ∃ es m p, target = .Tuple es m p := fun q => by
    have := htt q
    cases ht with
    | name _ _ => cases this
    | tup _ => exact ⟨_, _, _, rfl⟩
  have XC : ∀ {k acc ℓ' s' σ'}, Blk g csc cl env s σ fp St D C k acc ℓ' s' σ' → Cx g csc r true A (compEnvC csc cl C env) s'.heap σ' ℓ' := fun {k acc ℓ' s' σ'} b =>
    ⟨X.gok, comp_env X ok, b.loc, X.fr.step b.ext (fun _ _ n => n.elim), X.room, b.rel⟩
  -- a step that keeps what is not owned
  have stepE : ∀ {k acc ℓ' s' σ' s'' σ''}, Blk g csc cl env s σ fp St D C k acc ℓ' s' σ' → Ext No s'.heap σ' s''.heap σ'' → Rel g s''.heap σ'' → Same s' s'' → Blk g csc cl env s σ fp St D C k acc ℓ' s'' σ'' := fun {k acc ℓ' s' σ' s'' σ''} b x R hs => by
    have tk : TupsKept g s'.heap s''.heap := x.tuples b.rel noSeq_no
    obtain ⟨vs, n, e, hv⟩ := b.dl
    refine ⟨IT.stab _ _ _ b.st tk fun a o q e => ?_, ⟨vs, n, (x.keep D _ e b.offD id).exact (fun _ _ => Data.noConfusion), VRs.mono tk hv⟩, b.loc.step b.rel x, R, b.ext.trans x, b.same.trans hs, fun a q => ?_, x.off e b.offD⟩
    · refine (x.keep a o e (b.off a q) id).exact fun es m d => ?_
      obtain ⟨o', e', z⟩ := IT.flds _ _ a b.st q
      rw [e] at e'; cases e'
      rcases z with z | ⟨us, z⟩
      · exact hhid a (hfp a q).1 z
      · rw [d] at z; cases z
    · obtain ⟨o', e', z⟩ := IT.flds _ _ a b.st q
      exact x.off e' (b.off a q)
  have loop : ∀ s₃ : Shared, s₃ = { s₂ with heap := h₁, toks := s₂.toks + ([] : List (Str × Value)).length } →
      codeAny (model g.prog g.w) A (.compLoop (.ListComp elt [⟨target, iter, ifs, 0⟩] csc pos) 0 (.ref I) (.ref D) (compEnvC csc cl C env)) (RR (.ref D) C) s₃ := by
    rintro s₃ rfl
    have B0 : Blk g csc cl env s σ fp St D C 0 [] (ℓ.outer csc) { s₂ with heap := h₁, toks := s₂.toks + ([] : List (Str × Value)).length } σ₁ := by
      have k1 : ∀ a o, s₂.heap.get? a = some o → h₁.get? a = some o := old
      have X1 : Cx g sc r true A env h₁ σ₁ ℓ := X.step (hR.keeps k1) (hx.trans (.keeps k1))
      refine ⟨IT.stab _ _ _ hst (fun a o _ _ _ e _ _ => .of (k1 a o e)) fun a o _ e => k1 a o e, ⟨#[], 0, hacc, VRs_nil⟩, ?_, hR.keeps k1, hx.trans (.keeps k1), hsm.trans ⟨rfl, rfl, rfl⟩, fun a q => (hfp a q).2, hR.fresh (fresh2 D (Nat.le_refl _))⟩
      refine comp_loc X1 ok hcl hcl' hns₁ (hR.fresh (fresh2 C (by omega))) (b0 C hCs) (fun x a e z => ?_) (fun n v e q => ?_) (fun n v e q => ?_)
      · obtain ⟨o, e'⟩ := cellsIn x a e; rw [z, hCs] at e'; cases e'
      · unfold Loc.outer at e; rw [if_pos q] at e; cases e
      · unfold Loc.outer at e; split at e
        · cases e
        · exact e
    refine compLoop_own (fun n s' => ∃ k acc σ', k ≤ items.length ∧ n = items.length - k ∧ Blk g csc cl env s σ fp St D C k acc (ℓ.outer csc) s' σ' ∧ acc.length ≤ k ∧ compT t inv tifs telt ℓ (items.drop k) acc σ' Q E) ?_ items.length
      ⟨0, [], σ₁, Nat.zero_le _, rfl, B0, Nat.le_refl _, by simpa using h⟩
    rintro n s' ⟨k, acc, σ', hk, rfl, B, hal, hl⟩
    have W : Walked g fp s'.heap σ' := ⟨B.off, fun a q => IT.flds k _ a B.st q, fun a q => b0 a (hfp a q).1⟩
    have hne : ∀ a, fp a → a ≠ D := fun a q => Nat.ne_of_lt (fpD a q)
    have extK : ∀ {s'' : Shared}, KeptBut fp s'.heap s''.heap → Ext No s.heap σ s''.heap σ' := fun {s''} kb => by
      refine ⟨fun a o e n nw => ?_, fun a o e => ?_, B.ext.dom⟩
      · refine (B.ext.keep a o e n nw).then fun o' e' => .of (kb a o' (fun q => ?_) e')
        rw [(hfp a q).1] at e; cases e
      · obtain ⟨o', e'⟩ := B.ext.pres a o e
        refine ⟨o', kb a o' (fun q => ?_) e'⟩
        rw [(hfp a q).1] at e; cases e
    obtain ⟨vs, nn, eD, hvs⟩ := B.dl
    rcases Nat.lt_or_ge k items.length with hlt | hge
    · have hd : items.drop k = items[k] :: items.drop (k + 1) := List.drop_eq_getElem_cons hlt
      rw [hd] at hl
      obtain ⟨hinv, hbind⟩ := hl
      refine wpAny_mono (IT.item k items[k] A (fun e s' => False) s' σ' target (fun v s₁ => ∃ (kb : KeptBut fp s'.heap s₁.heap), Same s' s₁ ∧ St (k + 1) s₁.heap ∧ VR g s₁.heap items[k] v) (by simp [hlt]) B.st B.rel hinv B.off target_tup
        fun v s₁ a b d e => ⟨a, b, d, e⟩) (fun rr s₁ p => ?_) fun _ _ p => p.elim
      cases rr with
      | none => exact p.elim
      | some v =>
        refine wpAny_mono p (fun _ s₂ p => ?_) fun _ _ p => p.elim
        obtain ⟨kb, hs2, hst2, hv⟩ := p
        have B2 : Blk g csc cl env s σ fp St D C (k + 1) acc (ℓ.outer csc) s₂ σ' :=
          ⟨hst2, ⟨vs, nn, kb D _ (fun q => hne D q rfl) eD, VRs.mono (W.tups kb) hvs⟩, W.loc B.loc kb fpOwn, W.rel B.rel kb fun a q w => absurd q (hhid a (hfp a w).1), extK kb, B.same.trans hs2, B.off, B.offD⟩
        refine wpAny_mono (assign_ok writes (E := fun _ _ => False) (XC B2) ht hv (bind_outer lk hbind)) (fun _ s₃ p => ?_) fun _ _ p => p.elim
        obtain ⟨ℓ₃, hL3, hR3, hx3, hs3, ℓ₄, hsub, hbody⟩ := p
        have noseq : NoSeq (· = C) s₂.heap := fun a o w => B2.loc.noSeq a o (.inl w)
        have tk3 : TupsKept g s₂.heap s₃.heap := hx3.tuples B2.rel noseq
        have B3 : Blk g csc cl env s σ fp St D C (k + 1) acc ℓ₄ s₃ σ' := by
          obtain ⟨vs2, nn2, eD2, hvs2⟩ := B2.dl
          refine ⟨IT.stab _ _ _ hst2 tk3 fun a o q e => ?_, ⟨vs2, nn2, (hx3.keep D _ eD2 B2.offD hDC).exact (fun _ _ => Data.noConfusion), VRs.mono tk3 hvs2⟩, hL3.forget hsub, hR3, B2.ext.absorb hx3 (fun a w => w ▸ hCs), B2.same.trans hs3, B2.off, B2.offD⟩
          refine (hx3.keep a o e (B2.off a q) fun w => fpOwn a q (.inl w)).exact fun es m d => ?_
          obtain ⟨o', e', z⟩ := IT.flds _ _ a hst2 q
          rw [e] at e'; cases e'
          rcases z with z | ⟨us, z⟩
          · exact hhid a (hfp a q).1 z
          · rw [d] at z; cases z
        -- what is left of a turn
        have again : ∀ {s₅ : Shared} {σ₅ : AH} {acc' : List V}, Blk g csc cl env s σ fp St D C (k + 1) acc' ℓ₄ s₅ σ₅ → acc'.length ≤ k + 1 → compT t inv tifs telt ℓ (items.drop (k + 1)) acc' σ₅ Q E →
            ∃ m, m < items.length - k ∧ ∃ k' acc σ', k' ≤ items.length ∧ m = items.length - k' ∧ Blk g csc cl env s σ fp St D C k' acc (ℓ.outer csc) s₅ σ' ∧ acc.length ≤ k' ∧ compT t inv tifs telt ℓ (items.drop k') acc σ' Q E := fun {s₅ σ₅ acc'} b hle hc => by
          refine ⟨items.length - (k + 1), by omega, k + 1, acc', σ₅, hlt, rfl, ⟨b.st, b.dl, ?_, b.rel, b.ext, b.same, b.off, b.offD⟩, hle, hc⟩
          have X5 : Cx g sc r true A env s₅.heap σ₅ ℓ := X.step b.rel b.ext
          obtain ⟨m, hn5, _⟩ := b.loc.ns
          refine comp_loc X5 ok hcl hcl' hn5 b.loc.off.1 (b0 C hCs) (fun x a e z => ?_) (fun n v e q => ?_) (fun n v e q => ?_)
          · obtain ⟨o, e'⟩ := cellsIn x a e; have z' : a = C := z; rw [z', hCs] at e'; cases e'
          · unfold Loc.outer at e; rw [if_pos q] at e; cases e
          · unfold Loc.outer at e; split at e
            · cases e
            · exact e
        refine wpAny_mono (h1.run A _ s₃ ℓ₄ σ' _ E (XC B3) hbody) (fun b s₄ p => ?_) fun e s₄ p => hEE D C e s₄ (p.back B3.ext B3.same)
        obtain ⟨b', σ₄, rfl, hR4, hx4, hs4, hq⟩ := p
        have B4 := stepE B3 hx4 hR4 hs4
        cases b' with
        | false => exact again B4 (by omega) hq
        | true =>
          rw [if_pos rfl]
          refine wpAny_mono (h2.run A _ s₄ ℓ₄ σ₄ _ E (XC B4) hq) (fun y s₅ p => ?_) fun e s₅ p => hEE D C e s₅ (p.back B4.ext B4.same)
          obtain ⟨y', σ₅, hy, hR5, hx5, hs5, hq⟩ := p
          have B5 := stepE B4 hx5 hR5 hs5
          obtain ⟨vs5, nn5, eD5, hvs5⟩ := B5.dl
          have hsz : vs5.size ≤ sizeLine := by
            have := VRs_length hvs5
            have h2 := hft.line
            simp at this; omega
          refine wpAny_list_append_plain ⟨nn5, eD5⟩ (fun h' hpl sb => ?_) hsz
          obtain ⟨n6, eD6⟩ := hpl
          have tk6 : TupsKept g s₅.heap h' := fun a o us m _ e cc d => by
            refine .of (sb.extBut a o (fun z => ?_) e)
            subst z; rw [eD5] at e; cases e; exact absurd cc (by simp)
          have pD : ∃ o, h'.get? D = some o := ⟨_, eD6⟩
          have x6 : Ext (· = D) s₅.heap σ₅ h' σ₅ := ⟨fun a o e _ nw => .of (sb.extBut a o nw e), fun a o e => by
            by_cases z : a = D
            · rw [z]; exact pD
            · exact ⟨o, sb.extBut a o z e⟩, fun a q => .inl q⟩
          have R6 : Rel g h' σ₅ := by
            refine ⟨fun a ha => ?_, fun a o e => sb.extBut a o (fun z => ?_) (hR5.base a o e), fun a ao e => ⟨(hR5.own a ao e).1, OR_mono tk6 (fun o e' => sb.extBut a o (fun z => ?_) e') (hR5.own a ao e).2⟩⟩
            · obtain ⟨o, e⟩ := hR5.hid a ha
              exact x6.pres a o e
            · rw [z, b0 D hDs] at e; cases e
            · rw [z, B5.offD] at e; cases e
          have L6 : LR g h' σ₅ (compEnvC csc cl C env) ℓ₄ := by
            have kv : ∀ {v : V} {u : Value}, VR g s₅.heap v u → VR g h' v u := VR.mono tk6
            obtain ⟨m, hn, hm⟩ := B5.loc.ns
            have hCD' : (compEnvC csc cl C env).locals ≠ D := fun z => hDC z.symm
            refine ⟨⟨m, ns_upTo hn fun o e => .of (sb.extBut _ o hCD' e), fun y v a b => let ⟨u, e, f⟩ := hm y v a b; ⟨u, e, kv f⟩⟩, fun y c e => ?_, fun y v a kk => ?_, B5.loc.off, B5.loc.offc, B5.loc.apart, B5.loc.has⟩
            · obtain ⟨o, u, e1, e2⟩ := B5.loc.cell y c e
              exact ⟨o, u, sb.extBut c o (fun z => DOwn (z ▸ .inr ⟨y, e⟩)) e1, e2⟩
            · obtain ⟨c, u, e, hc, hv⟩ := B5.loc.cells y v a kk
              exact ⟨c, u, e, cell_upTo hc fun o z => .of (sb.extBut _ o (fun z => DOwn (z ▸ .inr ⟨_, e⟩)) z), kv hv⟩
          have hvs6 : VRs g h' (acc ++ [y']) (vs5.push y).toList := by
            rw [Array.toList_push]
            exact VRs_snoc (VRs.mono tk6 hvs5) (VR.mono tk6 hy)
          refine again (s₅ := { s₅ with heap := h' }) ⟨IT.stab _ _ _ B5.st tk6 fun a o q e => sb.extBut a o (hne a q) e, ⟨_, n6, eD6, hvs6⟩, L6, R6, B5.ext.absorb x6 (fun a w => w ▸ hDs), B5.same.trans ⟨rfl, rfl, rfl⟩, B5.off, B5.offD⟩ (by simp; omega) hq
    · have hd : items.drop k = [] := List.drop_eq_nil_of_le hge
      rw [hd] at hl
      refine IT.last k A _ s' σ' _ hge (X.room.calm rfl) B.st B.rel hl.1 B.off fun s'' kb hs'' => ?_
      have hL := W.loc B.loc kb fpOwn
      obtain ⟨m, hn, _⟩ := hL.ns
      exact hRR D C s'' σ' acc hDs hCs hDC ⟨m, hn⟩ ⟨hft.le (by omega), vs, nn, kb D _ (fun q => hne D q rfl) eD, VRs.mono (W.tups kb) hvs⟩ (W.rel B.rel kb fun a q w => absurd q (hhid a (hfp a w).1)) (extK kb) (B.same.trans hs'') B.offD hL.off.1 hl.2
  exact codeAny_compStart_list (loop _ rfl) (IT.self 0 _ _ _ _ (IT.stab _ _ _ hst (fun a o _ _ _ e _ _ => .of (old a o e)) fun a o _ e => old a o e) (loop _ rfl))
end

/-! ## the comprehension as an expression, and bound to a name -/
def tListComp (tc : Loc → AH → (List V → AH → Prop) → (Addr → AH → Prop) → Prop) : TE := fun ℓ σ Q E => tc ℓ σ (fun xs σ₁ => ∀ a, σ₁ a = none → Q (.ref a) (σ₁.set a (.list xs))) E

theorem sameBut_rel {C : Addr} {h h' : Heap} {σ : AH} (R : Rel g h σ) (hn : ∃ m, h.Ns C m) (sb : Heap.SameBut C h h') (hC : σ C = none) (hb : g.b0.get? C = none) (hh : ¬ g.hid C) : Rel g h' σ ∧ TupsKept g h h' := by
  obtain ⟨m, oC, es, ep, eC, dC, _⟩ := hn
  have tk : TupsKept g h h' := fun a o us n _ e _ d => by
    refine .of (sb.extBut a o (fun z => ?_) e)
    subst z; rw [eC] at e; cases e; rw [dC] at d; cases d
  refine ⟨⟨fun a ha => ?_, fun a o e => sb.extBut a o (fun z => ?_) (R.base a o e), fun a ao e => ⟨(R.own a ao e).1, OR_mono tk (fun o e' => sb.extBut a o (fun z => ?_) e') (R.own a ao e).2⟩⟩, tk⟩
  · obtain ⟨o, e⟩ := R.hid a ha
    exact ⟨o, sb.extBut a o (fun z => hh (z ▸ ha)) e⟩
  · rw [z, hb] at e; cases e
  · rw [z, hC] at e; cases e

theorem hnames_of (ok : scopeOk sc csc = true) : ∀ x ∈ csc.names, x.2 = .local → csc.names.lookup x.1 = some .local := fun x hx e => by
  simp only [scopeOk, Bool.and_eq_true] at ok
  exact lookup_of_apart ok.1.1.2 (e ▸ hx)

theorem sndE_comp {elt target iter : Expr} {ifs : List Expr} {pos : Pos} {t : Tgt} {ti : TI} {tifs : TB} {telt : TE} (ok : scopeOk sc csc = true) (hi : SndI g sc r true iter ti) (ht : TgtIs csc target t) (lk : locOk csc t = true) (h1 : SndT g csc r true ifs tifs) (h2 : SndE g csc r true elt telt)
    (hf : ∀ env x, foldedSetIterable iter env x = pure x) : SndE g sc r true (.ListComp elt [⟨target, iter, ifs, 0⟩] csc pos) (tListComp (tComp t ti tifs telt)) := .mk fun A env s ℓ σ Q E X h => by
  obtain ⟨cl, hclos, hcl, hcl'⟩ := closureFor_ok (comp_cells X ok)
  have b0 : ∀ a, s.heap.get? a = none → g.b0.get? a = none := fun a e => by
    cases q : g.b0.get? a with
    | none => rfl
    | some o => rw [X.rel.base a o q] at e; cases e
  have hhid : ∀ a, s.heap.get? a = none → ¬ g.hid a := fun a e w => by
    obtain ⟨o, e'⟩ := X.rel.hid a w; rw [e] at e'; cases e'
  have hk : csc.kind = .function := by simp only [scopeOk, Bool.and_eq_true] at ok; exact eq_of_beq ok.1.1.1
  rw [eval_ListComp]
  refine wpAny_comprehension_free (use := none) rfl (hf env) hclos hk (hnames_of ok) (wpAny_mono (hi.run A env s ℓ σ _ _ X h) (fun x s₁ p => wpAny_mono p (fun it s₂ p => ?_) fun _ _ p => p) fun _ _ p => p)
  obtain ⟨items, inv, I, fp, St, tup, σ₁, rfl, IT, hst, hR, hx, hsm, hfp, hft, htt, hl⟩ := p
  refine comp_core (RR := fun acc C => compPost (model g.prog g.w) A (PostX g A s σ E) none (PostE g s σ Q) acc C) X ok IT hst hR hx hsm hfp hft htt ht lk h1 h2 hcl hcl' hl (fun D C s' σ' xs hD hC hDC hn ho hR' hx' hs' oD oC hq => ?_) fun D C e s' p => ?_
  · obtain ⟨m, hn⟩ := hn
    refine ⟨m, hn, fun h' sb => ?_⟩
    obtain ⟨R2, tk⟩ := sameBut_rel hR' ⟨m, hn⟩ sb oC (b0 C hC) (hhid C hC)
    have ho' : OR g h' D (.list xs) := OR_mono tk (fun o e => sb.extBut D o hDC e) ho
    refine ⟨.ref D, σ'.set D (.list xs), VR_ref.mpr rfl, R2.claim (b0 D hD) ho', ⟨fun a o e n w => (hx'.keep a o e n w).then fun o' e' => .of (sb.extBut a o' (fun z => ?_) e'), fun a o e => ?_, fun a q => ?_⟩, hs'.trans ⟨rfl, rfl, rfl⟩, hq D oD⟩
    · rw [z, hC] at e; cases e
    · obtain ⟨o', e'⟩ := hx'.pres a o e
      exact ⟨o', sb.extBut a o' (fun z => by rw [z, hC] at e; cases e) e'⟩
    · unfold AH.set at q
      by_cases z : a = D
      · rw [z]; exact .inr hD
      · rw [if_neg z] at q; exact hx'.dom a q
  · obtain ⟨_, _, h1, _⟩ := p; exact h1.elim

def tAssignComp (n : String) (tc : Loc → AH → (List V → AH → Prop) → (Addr → AH → Prop) → Prop) : TS := fun ℓ σ Q E => tc ℓ σ (fun xs σ₁ => ∀ a, σ₁ a = none → Q .next (ℓ.set n (.ref a)) (σ₁.set a (.list xs))) fun C σ' => E C ℓ σ'
end Mine

open PySem PyProof.Rows
namespace Mine
variable {g : Gr} {sc csc : Scope} {r : Nat} {c : Bool}

theorem sndS_assignComp {n : String} {k : NameKind} {p' pos spos : Pos} {elt target iter : Expr} {ifs : List Expr} {t : Tgt} {ti : TI} {tifs : TB} {telt : TE} (hm : (Str.ofString n, k) ∈ sc.names) (hk : (k == .local || k == .cell) = true)
    (ok : scopeOk sc csc = true) (hi : SndI g sc r true iter ti) (ht : TgtIs csc target t) (lk : locOk csc t = true) (h1 : SndT g csc r true ifs tifs) (h2 : SndE g csc r true elt telt)
    (hf : ∀ env x, foldedSetIterable iter env x = pure x) : SndS g sc r true (.Assign [.Name (Str.ofString n) p'] (.ListComp elt [⟨target, iter, ifs, 0⟩] csc pos) spos) (tAssignComp n (tComp t ti tifs telt)) := .mk fun A env s ℓ σ Q E X h => by
  have hsw : ∃ b, swapsWith (.ListComp elt [⟨target, iter, ifs, 0⟩] csc pos) (some (.Name (Str.ofString n) p')) spos.line env = pure b := ⟨_, rfl⟩
  obtain ⟨b, hsw⟩ := hsw
  cases b with
  | false =>
    refine wpAny_Assign_Name (wpAny_mono ((sndE_comp (pos := pos) ok hi ht lk h1 h2 hf).run A env s ℓ σ (fun v σ' => Q .next (ℓ.set n v) σ') (fun C σ' => E C ℓ σ') X h) (fun v s₁ p => ?_) fun _ _ p => p.toS X) hsw
    obtain ⟨x, σ₁, hv, hR, hx, hs, hq⟩ := p
    exact store_ok (X.step hR hx) hm hk hv fun s' a _ _ w hL hR' hx' hs' => ⟨.next, _, σ₁, rfl, hL, hR', hx.own.trans (hx'.weaken fun b z => z ▸ w), hs.trans hs', hq⟩
  | true =>
    obtain ⟨cl, hclos, hcl, hcl'⟩ := closureFor_ok (comp_cells X ok)
    have b0 : ∀ a, s.heap.get? a = none → g.b0.get? a = none := fun a e => by
      cases q : g.b0.get? a with
      | none => rfl
      | some o => rw [X.rel.base a o q] at e; cases e
    have hhid : ∀ a, s.heap.get? a = none → ¬ g.hid a := fun a e w => by
      obtain ⟨o, e'⟩ := X.rel.hid a w; rw [e] at e'; cases e'
    have hkd : csc.kind = .function := by simp only [scopeOk, Bool.and_eq_true] at ok; exact eq_of_beq ok.1.1.1
    rw [exec_Assign_Name_used _ _ _ _ hsw]
    refine wpAny_bind (wpAny_standAt (wpAny_bind ?_))
    show wpAny _ A (do let _ ← comprehension (.ListComp elt [⟨target, iter, ifs, 0⟩] csc pos) csc env _ (newList []) false (eval iter env) (some (assign (.Name (Str.ofString n) p') env))) _ _ s
    refine wpAny_bind (wpAny_mono (wpAny_comprehension_free (use := some (assign (.Name (Str.ofString n) p') env)) (Q := fun _ s' => PostS g env s σ Q .next s') (E := PostXS g A env s σ E) rfl (hf env) hclos hkd (hnames_of ok)
      (wpAny_mono (hi.run A env s ℓ σ _ _ X h) (fun x s₁ p => wpAny_mono p (fun it s₂ p => ?_) fun _ _ p => p.toS X) fun _ _ p => p.toS X)) (fun _ s' hq => wpAny_pure (wpAny_pure hq)) fun _ _ e => e)
    obtain ⟨items, inv, I, fp, St, tup, σ₁, rfl, IT, hst, hR, hx, hsm, hfp, hft, htt, hl⟩ := p
    refine comp_core (RR := fun acc C => compPost (model g.prog g.w) A (PostXS g A env s σ E) (some (assign (.Name (Str.ofString n) p') env)) (fun _ s' => PostS g env s σ Q .next s') acc C) X ok IT hst hR hx hsm hfp hft htt ht lk h1 h2 hcl hcl' hl (fun D C s' σ' xs hD hC hDC hn ho hR' hx' hs' oD oC hq => ?_) fun D C e s' p => ?_
    · obtain ⟨m, hn⟩ := hn
      have R1 : Rel g s'.heap (σ'.set D (.list xs)) := hR'.claim (b0 D hD) ho
      have x1 : Ext No s.heap σ s'.heap (σ'.set D (.list xs)) := ⟨hx'.keep, hx'.pres, fun a q => by
        unfold AH.set at q
        by_cases z : a = D
        · rw [z]; exact .inr hD
        · rw [if_neg z] at q; exact hx'.dom a q⟩
      have X1 : Cx g sc r true A env s'.heap (σ'.set D (.list xs)) ℓ := X.step R1 x1
      have oC1 : (σ'.set D (.list xs)) C = none := by unfold AH.set; rw [if_neg (Ne.symm hDC)]; exact oC
      show wpAny _ A (assign (.Name (Str.ofString n) p') env (.ref D)) _ _ _
      refine wpAny_assign_Name (store_ok X1 hm hk (VR_ref.mpr rfl) fun s'' a _ _ w hL hR'' hx'' hs'' => ?_)
      have hCa : C ≠ a := fun z => by
        obtain ⟨o, e⟩ := Own.present X.loc w
        rw [← z, hC] at e; cases e
      have hn'' : s''.heap.Ns C m := ns_upTo hn fun o e => hx''.keep C o e oC1 hCa
      refine ⟨m, hn'', fun h' sb => ?_⟩
      obtain ⟨R2, tk⟩ := sameBut_rel hR'' ⟨m, hn''⟩ sb oC1 (b0 C hC) (hhid C hC)
      have hOC : ¬ Own env C := fun w => by obtain ⟨o, e⟩ := Own.present X.loc w; rw [hC] at e; cases e
      have kv : ∀ {v : V} {u : Value}, VR g s''.heap v u → VR g h' v u := VR.mono tk
      have L2 : LR g h' (σ'.set D (.list xs)) env (ℓ.set n (.ref D)) := by
        obtain ⟨m2, hn2, hm2⟩ := hL.ns
        refine ⟨⟨m2, ns_upTo hn2 fun o e => .of (sb.extBut _ o (fun z => hOC (.inl z.symm)) e), fun y v a b => let ⟨u, e, f⟩ := hm2 y v a b; ⟨u, e, kv f⟩⟩, fun y c e => ?_, fun y v a kk => ?_, hL.off, hL.offc, hL.apart, hL.has⟩
        · obtain ⟨o, u, e1, e2⟩ := hL.cell y c e
          exact ⟨o, u, sb.extBut c o (fun z => hOC (z ▸ .inr ⟨y, e⟩)) e1, e2⟩
        · obtain ⟨c, u, e, hc, hv⟩ := hL.cells y v a kk
          exact ⟨c, u, e, cell_upTo hc fun o z => .of (sb.extBut _ o (fun z => hOC (z ▸ .inr ⟨_, e⟩)) z), kv hv⟩
      have xa : Ext (Own env) s.heap σ s''.heap (σ'.set D (.list xs)) := x1.own.trans (hx''.weaken fun b z => z ▸ w)
      refine ⟨.next, _, _, rfl, L2, R2, ⟨fun a o e n nw => (xa.keep a o e n nw).then fun o' e' => .of (sb.extBut a o' (fun z => ?_) e'), fun a o e => ?_, xa.dom⟩, (hs'.trans hs'').trans ⟨rfl, rfl, rfl⟩, hq D oD⟩
      · rw [z, hC] at e; cases e
      · obtain ⟨o', e'⟩ := xa.pres a o e
        exact ⟨o', sb.extBut a o' (fun z => by rw [z, hC] at e; cases e) e'⟩
    · obtain ⟨_, _, h1, _⟩ := p; exact h1.elim
end Mine

open PySem PyProof.Rows
namespace Mine
variable {g : Gr} {sc csc : Scope} {r : Nat} {c : Bool}

abbrev TF := List V → AH → (V → AH → Prop) → (Addr → AH → Prop) → Prop
/-- the frames of the callers -/
def FrL (g : Gr) (A : Around) (h : Heap) (σ : AH) : Prop := ∃ l, A.frames = some l ∧ h.FunFrames g.b0 l ∧ ∀ e ∈ l, ∀ f, e.frame = some f → σ f = none
theorem FrOk.frl {A : Around} {env : Env} {h : Heap} {σ : AH} (F : FrOk g A env h σ) : FrL g A h σ := let ⟨e0, outer, h1, h2, h3, h4, _⟩ := F; ⟨_, h1, h3, h4⟩
/-- a value that is called with values -/
structure SndF (g : Gr) (r : Nat) (f : Value) (t : TF) : Prop where
  run : ∀ A s σ xs vs Q E, GOk g → FrL g A s.heap σ → Room A r true → Rel g s.heap σ → VRs g s.heap xs vs → t xs σ Q E →
  wpAny (model g.prog g.w) A (call f vs []) (PostE g s σ Q) (PostX g A s σ E) s
/-- the same of a function's own code -/
structure SndC (g : Gr) (r : Nat) (f : Value) (t : TF) : Prop where
  run : ∀ A s σ xs vs Q E, GOk g → FrL g A s.heap σ → Room A r true → Rel g s.heap σ → VRs g s.heap xs vs → t xs σ Q E →
  codeAny (model g.prog g.w) A (.call f ⟨vs, []⟩) (fun r s' => match r with | .ok (.ret v) => PostE g s σ Q v s' | .ok _ => False | .error e => PostX g A s σ E e s') s
theorem SndC.toF {r : Nat} {f : Value} {t : TF} (h : SndC g r f t) : SndF g r f t := .mk fun A s σ xs vs Q E G F R Re Vs T => wpAny_call (h.run A s σ xs vs Q E G F R Re Vs T)
theorem SndC.mono {r : Nat} {f : Value} {t t' : TF} (h : SndC g r f t) (k : ∀ xs σ Q E, t' xs σ Q E → t xs σ Q E) : SndC g r f t' := .mk fun A s σ xs vs Q E G F R Re Vs T => h.run A s σ xs vs Q E G F R Re Vs (k _ _ _ _ T)
theorem SndF.le {r r' : Nat} {f : Value} {t : TF} (h : SndF g r f t) (k : r ≤ r') : SndF g r' f t := .mk fun A s σ xs vs Q E G F R => h.run A s σ xs vs Q E G F (R.le k)
theorem SndF.mono {r : Nat} {f : Value} {t t' : TF} (h : SndF g r f t) (k : ∀ xs σ Q E, t' xs σ Q E → t xs σ Q E) : SndF g r f t' := .mk fun A s σ xs vs Q E G F R Re Vs T => h.run A s σ xs vs Q E G F R Re Vs (k _ _ _ _ T)

/-- what is asked of a function's scope; checked by computation -/
def fnOk (sc : Scope) (ps : List String) : Bool := sc.kind == .function && namesApart sc.names && !sc.isGenerator && !sc.isCoroutine &&
  (sc.names.all fun x => x.2 != .free && x.1 != ("__debug__" : Str) && x.1 != ("__classdict__" : Str)) &&
  (ps.all fun p => sc.names.any fun y => y.1 == Str.ofString p && (y.2 == .local || y.2 == .cell))

theorem cellsFrom_has : ∀ (names : List (Str × NameKind)) (b : Nat) (acc : List (Str × Addr)) (x : Str), (x, NameKind.cell) ∈ names ∨ (acc.lookup x).isSome = true → ((cellsFrom b names acc).lookup x).isSome = true
  | [], b, acc, x, h => by
    rcases h with h | h
    · cases h
    · exact h
  | (n, k) :: rest, b, acc, x, h => by
    unfold cellsFrom
    split
    · refine cellsFrom_has rest _ _ x ?_
      rcases h with h | h
      · cases h with
        | head => right; simp [List.lookup_cons]
        | tail _ h => exact .inl h
      · right
        rw [List.lookup_cons]
        split
        · rfl
        · exact h
    · rename_i hk
      refine cellsFrom_has rest _ _ x ?_
      rcases h with h | h
      · cases h with
        | head => simp at hk
        | tail _ h => exact .inl h
      · exact .inr h

def Loc.empty : Loc := fun _ => none
/-- the binding of parameters bears the names' values -/
theorem bind_rel {h : Heap} {kd : Str → Option NameKind} : ∀ {ps : List String} {xs : List V} {vs : List Value} {m cm : Str → Option Value} {ℓ : Loc}, (∀ n v, ℓ n = some v → kd (Str.ofString n) = some .local → ∃ u, m (Str.ofString n) = some u ∧ VR g h v u) →
    (∀ n v, ℓ n = some v → kd (Str.ofString n) = some .cell → ∃ u, cm (Str.ofString n) = some u ∧ VR g h v u) → VRs g h xs vs → xs.length = ps.length →
    (∀ n v, ℓ.setAll ps xs n = some v → kd (Str.ofString n) = some .local → ∃ u, bindL kd ((ps.map Str.ofString).zip vs) m (Str.ofString n) = some u ∧ VR g h v u) ∧
    (∀ n v, ℓ.setAll ps xs n = some v → kd (Str.ofString n) = some .cell → ∃ u, bindC kd ((ps.map Str.ofString).zip vs) cm (Str.ofString n) = some u ∧ VR g h v u)
  | [], xs, vs, m, cm, ℓ, h1, h2, hv, hl => by
    cases xs with
    | nil => exact ⟨h1, h2⟩
    | cons _ _ => simp at hl
  | p :: ps, [], vs, m, cm, ℓ, h1, h2, hv, hl => by simp at hl
  | p :: ps, x :: xs, vs, m, cm, ℓ, h1, h2, hv, hl => by
    obtain ⟨v, vs, rfl, hx, hxs⟩ := VRs_cons_inv hv
    show (∀ n w, (ℓ.set p x).setAll ps xs n = some w → _ → ∃ u, bindL kd ((ps.map Str.ofString).zip vs) (if kd (Str.ofString p) = some .local then fun y => if y = Str.ofString p then some v else m y else m) (Str.ofString n) = some u ∧ _) ∧
      (∀ n w, (ℓ.set p x).setAll ps xs n = some w → _ → ∃ u, bindC kd ((ps.map Str.ofString).zip vs) (if kd (Str.ofString p) = some .local then cm else fun y => if y = Str.ofString p then some v else cm y) (Str.ofString n) = some u ∧ _)
    refine bind_rel (fun n w e k => ?_) (fun n w e k => ?_) hxs (by simpa using hl)
    · unfold Loc.set at e
      by_cases z : n = p
      · subst z; rw [if_pos rfl] at e; cases e
        rw [if_pos k]; exact ⟨v, by simp, hx⟩
      · rw [if_neg z] at e
        obtain ⟨u, e1, e2⟩ := h1 n w e k
        refine ⟨u, ?_, e2⟩
        split
        · exact (if_neg fun q => z (ofString_inj q)).trans e1
        · exact e1
    · unfold Loc.set at e
      by_cases z : n = p
      · subst z; rw [if_pos rfl] at e; cases e
        rw [if_neg (by rw [k]; simp)]; exact ⟨v, by simp, hx⟩
      · rw [if_neg z] at e
        obtain ⟨u, e1, e2⟩ := h2 n w e k
        refine ⟨u, ?_, e2⟩
        split
        · exact e1
        · exact (if_neg fun q => z (ofString_inj q)).trans e1

/-- a function with a body -/
def tFun (ps : List String) (tb : TS) : TF := fun xs σ Q E => xs.length = ps.length ∧ tb (Loc.empty.setAll ps xs) σ (fun f _ σ' => match f with
  | .ret v => ∃ σ'', (∀ a o, σ'' a = some o → σ' a = some o) ∧ Q v σ''
  | _ => ∃ σ'', (∀ a o, σ'' a = some o → σ' a = some o) ∧ Q .none σ'') fun C _ σ' => ∃ σ'', (∀ a o, σ'' a = some o → σ' a = some o) ∧ E C σ''

theorem sndC_def {a : Addr} {o : Obj} {fd : FuncData} {body : List Stmt} {ps : List String} {tb : TS} (ho : g.b0.get? a = some o) (hd : o.data = .func fd) (hcd : g.b0.CodeRec fd.code fd.qualname) (hbody : fd.body = .stmts body)
    (hbind : ∀ vs : List Value, vs.length = ps.length → bindArgs fd ⟨vs, []⟩ = pure ((ps.map Str.ofString).zip vs)) (hclo : fd.closure = []) (hgl : fd.globals = mainGlobals) (hbl : fd.builtins = builtinsNs) (ok : fnOk fd.scope ps = true)
    (hb : SndSs g fd.scope r true body tb) : SndC g (r + 1) (.ref a) (tFun ps tb) := .mk fun A s σ xs vs Q E G F Rm R hv h => by
  obtain ⟨hlen, h⟩ := h
  have hlv : vs.length = ps.length := (VRs_length hv) ▸ hlen
  simp only [fnOk, Bool.and_eq_true] at ok
  obtain ⟨⟨⟨⟨⟨ok1, ok2⟩, ok5⟩, ok6⟩, ok3⟩, ok4⟩ := ok
  have hk : fd.scope.kind = .function := eq_of_beq ok1
  have keepCode : s.heap.CodeRec fd.code fd.qualname := hcd.keeps R.base
  have kdOf : ∀ p ∈ ps, fd.scope.names.lookup (Str.ofString p) = some .local ∨ fd.scope.names.lookup (Str.ofString p) = some .cell := fun p hp => by
    have := List.all_eq_true.mp ok4 p hp
    simp only [List.any_eq_true, Bool.and_eq_true] at this
    obtain ⟨⟨y, j⟩, hy, e, hj⟩ := this
    have e' : y = Str.ofString p := eq_of_beq e
    subst e'
    rw [lookup_of_apart ok2 hy]
    cases j <;> simp at hj <;> simp
  refine codeAny_call_cells (body := body) (Rm.room) (R.base a o ho) hd (G.nolimit.keeps R.base) keepCode hbody (hbind vs hlv) hclo (fun x hx => ?_) (fun s₁ IC => ?_) (by simpa using ok6) (by simpa using ok5) hk
  · have hx1 : x.1 ∈ ps.map Str.ofString := List.of_mem_zip (a := x.1) (b := x.2) hx |>.1
    obtain ⟨p, hp, e⟩ := List.mem_map.mp hx1
    rcases kdOf p hp with q | q
    · exact .inl (e ▸ q)
    · exact .inr ⟨e ▸ q, e ▸ cellsFrom_has _ _ _ _ (.inl (mem_of_lookup q))⟩
  · generalize hE : callEnvC fd s.heap.objs.size a = env at IC ⊢
    have hsc : env.scope = fd.scope := by rw [← hE]; rfl
    have hloc : env.locals = s.heap.objs.size := by rw [← hE]; rfl
    have hcs : env.cells = cellsFrom (s.heap.objs.size + 1) fd.scope.names [] := by rw [← hE]; rfl
    have hfrm : env.frame = some s.heap.objs.size := by rw [← hE]; rfl
    have hglo : env.globals = mainGlobals := by rw [← hE]; exact hgl
    have hblt : env.builtins = builtinsNs := by rw [← hE]; exact hbl
    obtain ⟨h1, tk, rfl⟩ := IC.toInCall.same
    have kp := IC.toInCall.keep
    have kdE : ∀ x, env.kindOf x = fd.scope.names.lookup x := fun x => by show env.scope.names.lookup x = _; rw [hsc]
    have above : ∀ x cc, env.cells.lookup x = some cc → s.heap.objs.size < cc := fun x cc e => by rw [← hloc]; exact IC.above x cc (PySem.mem_of_lookup e)
    have freshC : ∀ x cc, env.cells.lookup x = some cc → s.heap.get? cc = none := fun x cc e => Heap.get?_none_of_le (Nat.le_of_lt (above x cc e))
    have freshL : s.heap.get? env.locals = none := by rw [hloc]; exact size_fresh _
    have b0 : ∀ a, s.heap.get? a = none → g.b0.get? a = none := fun a e => by
      cases q : g.b0.get? a with
      | none => rfl
      | some o => rw [R.base a o q] at e; cases e
    have tk1 : TupsKept g s.heap h1 := fun a o _ _ _ e _ _ => .of (kp a o e)
    obtain ⟨br1, br2⟩ := bind_rel (kd := env.kindOf) (ℓ := Loc.empty) (m := fun _ => none) (cm := fun _ => none) (ps := ps) (xs := xs) (vs := vs) (h := h1) (g := g) (fun n v e => nomatch e) (fun n v e => nomatch e) (VRs.mono tk1 hv) hlen
    have noFree : ∀ x, env.kindOf x ≠ some .free := fun x e => by
      rw [kdE] at e
      have := List.all_eq_true.mp ok3 _ (mem_of_lookup e)
      simp at this
    have L1 : LR g h1 σ env (Loc.empty.setAll ps xs) := by
      refine ⟨⟨_, IC.toInCall.ns, br1⟩, fun x cc e => ?_, fun n v e k => ?_, ⟨R.fresh freshL, b0 _ freshL⟩, fun x cc e => ⟨R.fresh (freshC x cc e), ?_, b0 _ (freshC x cc e)⟩, fun x y cc e1 e2 => ?_, fun x k => ?_⟩
      · obtain ⟨o, e1, e2⟩ := IC.cell x cc e; exact ⟨o, _, e1, e2⟩
      · rcases k with k | k
        · obtain ⟨u, e1, e2⟩ := br2 n v e k
          have : ((cellsFrom (s.heap.objs.size + 1) fd.scope.names []).lookup (Str.ofString n)).isSome = true := cellsFrom_has _ _ _ _ (.inl (mem_of_lookup (by rw [← kdE]; exact k)))
          obtain ⟨cc, hcc⟩ := Option.isSome_iff_exists.mp this
          have hcc' : env.cells.lookup (Str.ofString n) = some cc := by rw [hcs]; exact hcc
          exact ⟨cc, u, hcc', e1 ▸ IC.cell _ cc hcc', e2⟩
        · exact absurd k (noFree _)
      · rw [hloc]; exact Nat.ne_of_gt (above x cc e)
      · exact name_of_addr IC.apart (PySem.mem_of_lookup e1) (PySem.mem_of_lookup e2)
      · rcases k with k | k
        · have : ((cellsFrom (s.heap.objs.size + 1) fd.scope.names []).lookup x).isSome = true := cellsFrom_has _ _ _ _ (.inl (mem_of_lookup (by rw [← kdE]; exact k)))
          obtain ⟨cc, hcc⟩ := Option.isSome_iff_exists.mp this
          exact ⟨cc, by rw [hcs]; exact hcc⟩
        · exact absurd k (noFree _)
    have R1 : Rel g h1 σ := R.keeps kp
    have x1 : Ext No s.heap σ h1 σ := .keeps kp
    have F1 : FrOk g (A.deeper env) env h1 σ := by
      obtain ⟨l, hl, ff, off⟩ := F
      have hns : ∃ o, h1.get? env.locals = some o ∧ ∀ vs, o.data ≠ .fields vs := L1.noFields (.inl rfl)
      refine ⟨env, l, by show A.frames.map (env :: ·) = _; rw [hl]; rfl, rfl, ⟨by rw [hsc, hk]; decide, ⟨s.heap.objs.size, ?_⟩, ?_⟩, fun e he f hf => ?_, by rw [hsc]; simpa using ok5, by rw [hsc]; simpa using ok6, hblt, hglo⟩
      · obtain ⟨o, e, d⟩ := hns
        exact ⟨o, hfrm, b0 _ (size_fresh _), hloc ▸ e, d⟩
      · exact ff.of_keeps fun b o e _ => ⟨o, kp b o e, rfl⟩
      · cases he with
        | head => rw [hfrm] at hf; cases hf; exact R.fresh (size_fresh _)
        | tail _ q => exact off e q f hf
    have X1 : Cx g fd.scope r true (A.deeper env) env h1 σ (Loc.empty.setAll ps xs) := by
      refine ⟨G, ⟨fun x k hm => .inl ?_, fun x k hm => ?_, by rw [hsc]; exact hk, hglo, hblt⟩, L1, F1, Rm.deeper env, R1⟩
      · rw [kdE]; exact lookup_of_apart ok2 hm
      · have := List.all_eq_true.mp ok3 _ hm
        simp only [Bool.and_eq_true] at this
        exact ⟨by simpa using this.1.2, by simpa using this.2⟩
    have freshOwn : ∀ b, Own env b → s.heap.get? b = none := fun b w => by
      rcases w with rfl | ⟨x, e⟩
      · exact freshL
      · exact freshC x b e
    refine wpAny_mono (hb.run (A.deeper env) env { s with heap := h1, toks := tk } _ σ _ _ X1 h) (fun f s' p => ?_) fun e s' p => ?_
    · obtain ⟨f', ℓ', σ', hf', _, hR', hx', hs', hq⟩ := p
      have fin : ∀ {x : V} {u : Value}, VR g s'.heap x u → (∃ σ'', (∀ a o, σ'' a = some o → σ' a = some o) ∧ Q x σ'') → PostE g s σ Q u s' := fun {x u} hu q => by
        obtain ⟨σ'', hsub, hq⟩ := q
        exact ⟨x, σ'', hu, hR'.forget hsub, (x1.absorb hx' freshOwn).forget hsub, Same.trans ⟨rfl, rfl, rfl⟩ hs', hq⟩
      cases f' with
      | ret v => obtain ⟨u, rfl, hu⟩ := hf'; exact fin hu hq
      | next => cases hf'; exact fin (VR_none.mpr rfl) hq
      | brk => cases hf'; exact fin (VR_none.mpr rfl) hq
      | cont => cases hf'; exact fin (VR_none.mpr rfl) hq
    · obtain ⟨_, _, _, hX, _⟩ := p; exact hX.elim
end Mine

open PySem PyProof.Rows
namespace Mine
variable {g : Gr} {sc csc : Scope} {r : Nat} {c : Bool}

/-! ## global names -/
def Glo (g : Gr) (n : String) (v : Value) : Prop := ∃ mg, g.b0.Ns mainGlobals mg ∧ mg (Str.ofString n) = some v
def Bui (g : Gr) (n : String) (v : Value) : Prop := ∃ mg mb, g.b0.Ns mainGlobals mg ∧ mg (Str.ofString n) = none ∧ g.b0.Ns builtinsNs mb ∧ mb (Str.ofString n) = some v
def Known (g : Gr) (n : String) (v : Value) : Prop := Glo g n v ∨ Bui g n v
theorem name_global {A : Around} {env : Env} {s : Shared} {σ : AH} {ℓ : Loc} {n : String} {v : Value} {pos : Pos} {E : Value → Shared → Prop} {Q : Value → Shared → Prop} (X : Cx g sc r c A env s.heap σ ℓ) (hm : (Str.ofString n, NameKind.globalImplicit) ∈ sc.names) (hk : Known g n v) (h : Q v s) :
    wpAny (model g.prog g.w) A (eval (.Name (Str.ofString n) pos) env) Q E s := by
  have kd : env.kindOf (Str.ofString n) = some .globalImplicit := by
    rcases X.ok.kinds _ _ hm with q | ⟨q, _⟩
    · exact q
    · cases q
  refine Calls.Name_function_global X.ok.kind kd ?_ (X.ok.plain _ _ hm).1
  rcases hk with ⟨mg, h1, h2⟩ | ⟨mg, mb, h1, h2, h3, h4⟩
  · exact Calls.loadGlobal_global (by rw [X.ok.globals]; exact h1.at' fun o e => X.rel.base _ o e) h2 h
  · exact Calls.loadGlobal_builtin (by rw [X.ok.globals]; exact h1.at' fun o e => X.rel.base _ o e) h2 (by rw [X.ok.builtins]; exact h3.at' fun o e => X.rel.base _ o e) h4 h
theorem sndE_global {n : String} {pos : Pos} {v : Value} {x : V} (hm : (Str.ofString n, NameKind.globalImplicit) ∈ sc.names) (hk : Known g n v) (hx : ∀ h, VR g h x v) : SndE g sc r c (.Name (Str.ofString n) pos) (tConst x) := .mk fun A env s ℓ σ Q E X h =>
  name_global X hm hk (.here (hx _) X.rel h)

/-! ## calls by name -/
def Plain (es : List Expr) : Prop := (es.all fun e => !isStar e) = true
theorem Plain.any : ∀ {es : List Expr}, Plain es → ∀ env, (starEach es env).any (·.1) = false
  | [], _, env => rfl
  | e :: es, h, env => by
    simp only [Plain, List.all_cons, Bool.and_eq_true] at h
    rw [starEach_cons env (by simpa using h.1), List.any_cons, Plain.any h.2 env]; rfl
theorem evalArgs_ok {M : Model} {A : Around} {E : Value → Shared → Prop} {s : Shared} {f : Value} {l : List (Bool × Sem Value)} {Q : Args → Shared → Prop} (hp : l.any (·.1) = false)
    (h : wpAny M A (spliced l) (fun vs s' => Q ⟨vs, []⟩ s') E s) : wpAny M A (evalArgs f true l []) Q E s := by
  match l, hp, h with
  | [], _, h =>
    unfold evalArgs
    show wpAny M A (spliced [] >>= _) Q E s
    refine wpAny_bind (wpAny_mono h (fun vs s' h' => ?_) fun _ _ x => x)
    refine wpAny_bind (wpAny_pure ?_)
    refine wpAny_holding ?_
    exact wpAny_bind (wpAny_pure (wpAny_bind (wpAny_pure (wpAny_pure h'))))
  | (false, x) :: rest, _, h => exact Calls.evalArgs_plain h
  | (true, x) :: rest, hp, _ => simp at hp
theorem backTo_plain {es : List Expr} (hp : Plain es) (pos : Pos) (env : Env) : (backTo pos (starEach es env)).any (·.1) = false := by
  have := hp.any env
  unfold backTo
  rw [List.any_map]
  exact this

/-- what is called by a name: a function, a builtin or a type -/
def Callee (g : Gr) (v : Value) : Prop := (∃ a o fd, v = .ref a ∧ g.b0.get? a = some o ∧ o.data = .func fd) ∨ (∃ id, v = .builtin id) ∨ ∃ T, v = .type T
theorem callWith_ok {A : Around} {E : Value → Shared → Prop} {s : Shared} {pos : Pos} {f : Value} {first : List Value} {l : List (Bool × Sem Value)} {Q : Value → Shared → Prop} (hf : Callee g f) (hp : l.any (·.1) = false)
    (h : wpAny (model g.prog g.w) A (spliced l) (fun vs s' => (∀ a o, g.b0.get? a = some o → s'.heap.get? a = some o) ∧ wpAny (model g.prog g.w) A (call f (first ++ vs) []) Q E s') E s) : wpAny (model g.prog g.w) A (callWith pos f first l []) Q E s := by
  rcases hf with ⟨a, o, fd, rfl, ho, hd⟩ | ⟨id, rfl⟩ | ⟨T, rfl⟩
  · exact Calls.callWith_function (o := o) (fd := fd) (evalArgs_ok hp (wpAny_mono h (fun vs s' h' => ⟨⟨h'.1 a o ho, hd⟩, h'.2⟩) fun _ _ x => x))
  · exact Calls.callWith_builtin hp (evalArgs_ok hp (wpAny_mono h (fun vs s' h' => h'.2) fun _ _ x => x))
  · exact PySem.callWith_type hp (evalArgs_ok hp (wpAny_mono h (fun vs s' h' => h'.2) fun _ _ x => x))
def tCall (ts : TL) (t : TF) : TE := fun ℓ σ Q E => ts ℓ σ (fun vs σ₁ => t vs σ₁ Q E) E
/-- a thing called by its name -/
def FnG (g : Gr) (n : String) (r : Nat) (t : TF) : Prop := ∃ v, Known g n v ∧ Callee g v ∧ SndF g r v t
theorem FnG.le {n : String} {r r' : Nat} {t : TF} (h : FnG g n r t) (k : r ≤ r') : FnG g n r' t := let ⟨v, h1, h2, h3⟩ := h; ⟨v, h1, h2, h3.le k⟩
theorem sndE_call {n : String} {p pos : Pos} {args : List Expr} {ts : TL} {t : TF} (hm : (Str.ofString n, NameKind.globalImplicit) ∈ sc.names) (hf : FnG g n r t) (hL : SndL g sc r true args ts) (hp : Plain args) :
    SndE g sc r true (.Call (.Name (Str.ofString n) p) args [] pos) (tCall ts t) := .mk fun A env s ℓ σ Q E X h => by
  obtain ⟨v, hk, hc, hF⟩ := hf
  show wpAny _ A (do callWith pos (← eval (.Name (Str.ofString n) p) env) [] (backTo pos (starEach args env)) (backToKw pos (keywordEach [] env))) _ _ s
  refine wpAny_bind (name_global X hm hk ?_)
  refine callWith_ok hc (backTo_plain hp pos env) (wpAny_mono (hL.run A env pos s ℓ σ _ E X h) (fun vs s₁ p => ?_) fun _ _ p => p)
  obtain ⟨xs, σ₁, hv, hR, hx, hs, hq⟩ := p
  have X1 := X.step hR hx
  exact ⟨fun a o e => hR.base a o e, wp_back hx hs (hF.run A s₁ σ₁ xs vs Q E X.gok X1.fr.frl X1.room hR hv hq)⟩

/-! ## builtins -/
/-- only tokens were drawn -/
theorem post_value {s s' : Shared} {σ : AH} {Q : V → AH → Prop} {x : V} {v : Value} (R : Rel g s.heap σ) (e : s'.heap = s.heap) (sm : Same s s') (hv : VR g s.heap x v) (h : Q x σ) : PostE g s σ Q v s' :=
  ⟨x, σ, e ▸ hv, e ▸ R, e ▸ .refl, sm, h⟩

def lenV (x : V) (σ : AH) : Option Nat := match x with
  | .tup xs => some xs.length
  | .frz xs => some xs.length
  | .ref a => match σ a with
    | some (.list xs) => some xs.length
    | some (.dictI kvs _) => some kvs.length
    | some (.dictS kvs _) => some kvs.length
    | _ => none
  | _ => none
def tLen : TF := fun xs σ Q _ => match xs with | [x] => (match lenV x σ with | some n => Q (.int n) σ | none => False) | _ => False
theorem sndF_len : SndF g r (.builtin "len") tLen := .mk fun A s σ xs vs Q E G F Rm R hv h => by
  match xs, hv, h with
  | [x], hv, h =>
    obtain ⟨v, _, rfl, hx, hr⟩ := VRs_cons_inv hv
    rw [VRs_nil_inv hr]
    simp only [tLen] at h
    split at h
    · rename_i n e
      have key : ∀ (m : Nat) (tk tk' : Nat), m = n → PostE g s σ Q (.int m tk) { s with toks := tk' } := fun m tk tk' q => by subst q; exact post_value R rfl ⟨rfl, rfl, rfl⟩ (VR_int.mpr ⟨_, rfl⟩) h
      cases x with
      | tup ys =>
        obtain ⟨hf, a, o, us, m, rfl, _, ho, hc, hd, hvs⟩ := VR_tup.mp hx
        cases e
        have hl : ys.length = us.size := by rw [VRs_length hvs]; simp
        exact PyProof.Rows.len_tuple ⟨o, ho, hc, m, hd⟩ (hl ▸ hf.fit) (key _ _ _ hl.symm)
      | frz ys =>
        obtain ⟨hf, a, o, us, m, rfl, ho, hc, hd, hvs⟩ := VR_frz.mp hx
        cases e
        have hl : ys.length = us.size := by rw [VRs_length hvs]; simp
        exact PySem.Calls.call_len_list ⟨o, R.base a o ho, hc, m, hd⟩ (hl ▸ hf.fit) (key _ _ _ hl.symm)
      | ref a =>
        rw [VR_ref.mp hx]
        simp only [lenV] at e
        split at e
        · rename_i ys q
          cases e
          obtain ⟨hf, us, m, ho, hvs⟩ := (R.own a _ q).2
          have hl : ys.length = us.size := by rw [VRs_length hvs]; simp
          exact PySem.Calls.call_len_list ⟨_, ho, rfl, m, rfl⟩ (hl ▸ hf.fit) (key _ _ _ hl.symm)
        · rename_i kvs ep q
          cases e
          obtain ⟨hf, us, hd, hk, hvs⟩ := (R.own a _ q).2
          have hl : kvs.length = us.length := by have := congrArg List.length hk; simpa using this.symm
          exact call_len_dict (sysMod_ne G R q) hd.dictOf (hl ▸ hf.fit) (key _ _ _ hl.symm)
        · rename_i kvs ep q
          cases e
          obtain ⟨hf, us, hd, hk, hvs⟩ := (R.own a _ q).2
          have hl : kvs.length = us.length := by have := congrArg List.length hk; simpa using this.symm
          exact call_len_dict (sysMod_ne G R q) hd.dictOf (hl ▸ hf.fit) (key _ _ _ hl.symm)
        · cases e
      | _ => cases e
    · exact h.elim
  | [], _, h => exact h.elim
  | _ :: _ :: _, _, h => exact h.elim
end Mine

open PySem PyProof.Rows
namespace Mine
variable {g : Gr} {sc csc : Scope} {r : Nat} {c : Bool}

/-! ## max and min of ints -/
def intsV : List V → Option (List Int)
  | [] => some []
  | .int i :: xs => (intsV xs).map (i :: ·)
  | _ => none
theorem intsV_get : ∀ {xs : List V} {ns : List Int}, intsV xs = some ns → xs = ns.map V.int
  | [], ns, h => by cases h; rfl
  | x :: xs, ns, h => by
    cases x with
    | int i =>
      simp only [intsV] at h
      cases e : intsV xs with
      | none => rw [e] at h; cases h
      | some ms => rw [e] at h; cases h; rw [intsV_get e]; rfl
    | _ => cases h
theorem intsV_map (ns : List Int) : intsV (ns.map V.int) = some ns := by
  induction ns with
  | nil => rfl
  | cons n ns ih => simp [intsV, ih]
theorem VRs_ints {h : Heap} : ∀ {ns : List Int} {vs : List Value}, VRs g h (ns.map V.int) vs → ∀ (i : Nat) (v : Value), vs[i]? = some v → ∃ t, v = Value.int (ns.getD i 0) t
  | [], vs, a, i, v, e => by rw [VRs_nil_inv a] at e; cases e
  | n :: ns, vs, a, i, v, e => by
    obtain ⟨u, us, rfl, hu, hus⟩ := VRs_cons_inv a
    cases i with
    | zero => cases e; obtain ⟨t, rfl⟩ := VR_int.mp hu; exact ⟨t, rfl⟩
    | succ i => exact VRs_ints hus i v (by simpa using e)

theorem argBest_le (bt : Nat → Nat → Bool) : ∀ k, argBest bt k ≤ k
  | 0 => Nat.le_refl _
  | k + 1 => by
    unfold argBest
    split
    · exact Nat.le_refl _
    · exact Nat.le_succ_of_le (argBest_le bt k)
theorem argBest_gt (val : Nat → Int) : ∀ k i, i ≤ k → val i ≤ val (argBest (fun i j => decide (val i > val j)) k)
  | 0, i, h => by have : i = 0 := by omega
                  subst this; exact Int.le_refl _
  | k + 1, i, h => by
    have ih := argBest_gt val k
    unfold argBest
    by_cases q : val (k + 1) > val (argBest (fun i j => decide (val i > val j)) k)
    · rw [if_pos (by simpa using q)]
      rcases Nat.lt_or_ge i (k + 1) with w | w
      · have := ih i (by omega); omega
      · have : i = k + 1 := by omega
        subst this; omega
    · rw [if_neg (by simpa using q)]
      rcases Nat.lt_or_ge i (k + 1) with w | w
      · exact ih i (by omega)
      · have : i = k + 1 := by omega
        subst this; omega
theorem argBest_lt (val : Nat → Int) : ∀ k i, i ≤ k → val (argBest (fun i j => decide (val i < val j)) k) ≤ val i
  | 0, i, h => by have : i = 0 := by omega
                  subst this; exact Int.le_refl _
  | k + 1, i, h => by
    have ih := argBest_lt val k
    unfold argBest
    by_cases q : val (k + 1) < val (argBest (fun i j => decide (val i < val j)) k)
    · rw [if_pos (by simpa using q)]
      rcases Nat.lt_or_ge i (k + 1) with w | w
      · have := ih i (by omega); omega
      · have : i = k + 1 := by omega
        subst this; omega
    · rw [if_neg (by simpa using q)]
      rcases Nat.lt_or_ge i (k + 1) with w | w
      · exact ih i (by omega)
      · have : i = k + 1 := by omega
        subst this; omega

/-- the ints of a list object -/
def listInts (x : V) (σ : AH) : Option (List Int) := match x with
  | .ref a => match σ a with | some (.list xs) => intsV xs | _ => none
  | _ => none
def tMax : TF := fun xs σ Q _ => match xs with
  | [x] => match listInts x σ with | some ns => ns ≠ [] ∧ ∀ m, m ∈ ns → (∀ n ∈ ns, n ≤ m) → Q (.int m) σ | none => False
  | _ => False
def tMin : TF := fun xs σ Q _ => match xs with
  | [x] => match listInts x σ with | some ns => ns ≠ [] ∧ ∀ m, m ∈ ns → (∀ n ∈ ns, m ≤ n) → Q (.int m) σ | none => False
  | _ => False
theorem listInts_at {h : Heap} {σ : AH} {x : V} {v : Value} {ns : List Int} (R : Rel g h σ) (hv : VR g h x v) (e : listInts x σ = some ns) : ∃ a vs n, v = .ref a ∧ h.get? a = some { cls := .type "list", data := .seq vs n } ∧ VRs g h (ns.map V.int) vs.toList := by
  cases x with
  | ref a =>
    simp only [listInts] at e
    split at e
    · rename_i xs q
      obtain ⟨_, vs, n, ho, hvs⟩ := (R.own a _ q).2
      rw [intsV_get e] at hvs
      exact ⟨a, vs, n, VR_ref.mp hv, ho, hvs⟩
    · cases e
  | _ => cases e
theorem best_mem {ns : List Int} {k : Nat} (h : k < ns.length) : ns.getD k 0 ∈ ns := by
  rw [List.getD_eq_getElem?_getD, List.getElem?_eq_getElem h]; exact List.getElem_mem h
theorem mem_getD {ns : List Int} {n : Int} (h : n ∈ ns) : ∃ i, i < ns.length ∧ ns.getD i 0 = n := by
  obtain ⟨i, hi, e⟩ := List.getElem_of_mem h
  exact ⟨i, hi, by rw [List.getD_eq_getElem?_getD, List.getElem?_eq_getElem hi]; exact e⟩

theorem sndF_max : SndF g r (.builtin "max") tMax := .mk fun A s σ xs vs Q E G F Rm R hv h => by
  match xs, hv, h with
  | [x], hv, h =>
    obtain ⟨v, _, rfl, hx, hr⟩ := VRs_cons_inv hv
    rw [VRs_nil_inv hr]
    simp only [tMax] at h
    split at h
    · rename_i ns e
      obtain ⟨a, us, n, rfl, ho, hus⟩ := listInts_at R hx e
      have hlen : ns.length = us.size := by have := VRs_length hus; simpa using this
      have hpos : 0 < ns.length := List.length_pos_iff.mpr h.1
      have hne : a ≠ s.heap.objs.size := Nat.ne_of_lt (Heap.lt_size ho)
      refine call_max_walk (wpAny_pyIter_list ⟨_, ho, rfl, n, rfl⟩ ?_)
      refine ⟨s.heap.objs.size, _, _, us.size, _, _, _, rfl, Walks.list (by show A.handled = none; exact Rm.calm rfl) _ a hne us, ⟨⟨_, Heap.get?_push_size _ rfl, rfl, rfl⟩, ⟨_, Heap.get?_push_of_some _ ho, rfl, n, rfl⟩⟩, ?_, by omega,
        CmpOf.ints_gt (fun i => ns.getD i 0) (fun i v q => VRs_ints hus i v (by simpa using q)), fun v h' tk q kp => ?_⟩
      · intro b hb
        simp at hb
        rcases hb with rfl | rfl
        · rw [Heap.size_push]; exact Nat.lt_succ_self _
        · rw [Heap.size_push]; exact Nat.lt_succ_of_lt (Heap.lt_size ho)
      · obtain ⟨t, rfl⟩ := VRs_ints hus (argBest (fun i j => decide (ns.getD i 0 > ns.getD j 0)) (us.size - 1)) v (by rw [Array.getElem?_toList]; exact q)
        have hb := argBest_le (fun i j => decide (ns.getD i 0 > ns.getD j 0)) (us.size - 1)
        refine .keeps (fun b o e => kp b o (fun hm => ?_) (Heap.get?_push_of_some _ e)) ⟨rfl, rfl, rfl⟩ (VR_int.mpr ⟨t, rfl⟩) R (h.2 _ (best_mem (by omega)) fun m hm => ?_)
        · simp at hm; subst hm; rw [size_fresh] at e; cases e
        · obtain ⟨i, hi, rfl⟩ := mem_getD hm
          exact argBest_gt (fun i => ns.getD i 0) (us.size - 1) i (by omega)
    · exact h.elim
  | [], _, h => exact h.elim
  | _ :: _ :: _, _, h => exact h.elim
theorem sndF_min : SndF g r (.builtin "min") tMin := .mk fun A s σ xs vs Q E G F Rm R hv h => by
  match xs, hv, h with
  | [x], hv, h =>
    obtain ⟨v, _, rfl, hx, hr⟩ := VRs_cons_inv hv
    rw [VRs_nil_inv hr]
    simp only [tMin] at h
    split at h
    · rename_i ns e
      obtain ⟨a, us, n, rfl, ho, hus⟩ := listInts_at R hx e
      have hlen : ns.length = us.size := by have := VRs_length hus; simpa using this
      have hpos : 0 < ns.length := List.length_pos_iff.mpr h.1
      have hne : a ≠ s.heap.objs.size := Nat.ne_of_lt (Heap.lt_size ho)
      refine call_min_walk (wpAny_pyIter_list ⟨_, ho, rfl, n, rfl⟩ ?_)
      refine ⟨s.heap.objs.size, _, _, us.size, _, _, _, rfl, Walks.list (by show A.handled = none; exact Rm.calm rfl) _ a hne us, ⟨⟨_, Heap.get?_push_size _ rfl, rfl, rfl⟩, ⟨_, Heap.get?_push_of_some _ ho, rfl, n, rfl⟩⟩, ?_, by omega,
        CmpOf.ints_lt (fun i => ns.getD i 0) (fun i v q => VRs_ints hus i v (by simpa using q)), fun v h' tk q kp => ?_⟩
      · intro b hb
        simp at hb
        rcases hb with rfl | rfl
        · rw [Heap.size_push]; exact Nat.lt_succ_self _
        · rw [Heap.size_push]; exact Nat.lt_succ_of_lt (Heap.lt_size ho)
      · obtain ⟨t, rfl⟩ := VRs_ints hus (argBest (fun i j => decide (ns.getD i 0 < ns.getD j 0)) (us.size - 1)) v (by rw [Array.getElem?_toList]; exact q)
        have hb := argBest_le (fun i j => decide (ns.getD i 0 < ns.getD j 0)) (us.size - 1)
        refine .keeps (fun b o e => kp b o (fun hm => ?_) (Heap.get?_push_of_some _ e)) ⟨rfl, rfl, rfl⟩ (VR_int.mpr ⟨t, rfl⟩) R (h.2 _ (best_mem (by omega)) fun m hm => ?_)
        · simp at hm; subst hm; rw [size_fresh] at e; cases e
        · obtain ⟨i, hi, rfl⟩ := mem_getD hm
          exact argBest_lt (fun i => ns.getD i 0) (us.size - 1) i (by omega)
    · exact h.elim
  | [], _, h => exact h.elim
  | _ :: _ :: _, _, h => exact h.elim

/-! ## list() of a list or a tuple -/
def tListOf : TF := fun xs σ Q _ => match xs with
  | [x] => match partsV x σ with | some vs => ∀ a, σ a = none → Q (.ref a) (σ.set a (.list vs)) | none => False
  | _ => False
theorem parts_at {h : Heap} {σ : AH} {x : V} {v : Value} {xs : List V} (R : Rel g h σ) (hv : VR g h x v) (e : partsV x σ = some xs) : Fits xs.length ∧ ∃ a o T vs n, v = .ref a ∧ (T = "list" ∨ T = "tuple") ∧ h.get? a = some o ∧ o.cls = .type T ∧ o.data = .seq vs n ∧ VRs g h xs vs.toList := by
  cases x with
  | tup ys => obtain ⟨hf, a, o, us, m, rfl, _, ho, hc, hd, hvs⟩ := VR_tup.mp hv; cases e; exact ⟨hf, a, o, _, us, m, rfl, .inr rfl, ho, hc, hd, hvs⟩
  | frz ys => obtain ⟨hf, a, o, us, m, rfl, ho, hc, hd, hvs⟩ := VR_frz.mp hv; cases e; exact ⟨hf, a, o, _, us, m, rfl, .inl rfl, R.base a o ho, hc, hd, hvs⟩
  | ref a =>
    simp only [partsV] at e
    split at e
    · rename_i ys q
      cases e
      obtain ⟨hf, us, n, ho, hvs⟩ := (R.own a _ q).2
      exact ⟨hf, a, _, _, us, n, VR_ref.mp hv, .inl rfl, ho, rfl, rfl, hvs⟩
    · cases e
  | _ => cases e
theorem sndF_list : SndF g r (.type "list") tListOf := .mk fun A s σ xs vs Q E G F Rm R hv h => by
  match xs, hv, h with
  | [x], hv, h =>
    obtain ⟨v, _, rfl, hx, hr⟩ := VRs_cons_inv hv
    rw [VRs_nil_inv hr]
    simp only [tListOf] at h
    split at h
    · rename_i ys e
      obtain ⟨hf, a, o, T, us, n, rfl, hT, ho, hc, hd, hus⟩ := parts_at R hx e
      have hlen : ys.length = us.size := by have := VRs_length hus; simpa using this
      refine call_list_seq a hT ho hc hd (fun h' c' kp hn => ?_) (by rw [← hlen]; exact hf.line)
      refine ⟨.ref _, _, VR_ref.mpr rfl, R.alloc (ao := .list ys) kp (size_fresh _) ⟨hf, us, c', hn, VRs.mono (fun a o _ _ _ e _ _ => .of (kp a o e)) hus⟩, .alloc kp (size_fresh _), ⟨rfl, rfl, rfl⟩, h _ (R.fresh (size_fresh _))⟩
    · exact h.elim
  | [], _, h => exact h.elim
  | _ :: _ :: _, _, h => exact h.elim

/-! ## isinstance -/
def isiV (T : String) (v : V) (σ : AH) : Option Bool := match v with
  | .int _ => if T = "int" then some true else if T = "bool" ∨ T = "str" ∨ T = "tuple" ∨ T = "list" then some false else none
  | .bool _ => if T = "int" ∨ T = "bool" then some true else if T = "str" ∨ T = "tuple" ∨ T = "list" then some false else none
  | .str _ => if T = "str" then some true else if T = "int" ∨ T = "bool" ∨ T = "tuple" ∨ T = "list" then some false else none
  | .tup _ => if T = "tuple" then some true else if T = "list" then some false else none
  | .ref a => match σ a with
    | some (.list _) => if T = "list" then some true else if T = "tuple" ∨ T = "int" then some false else none
    | _ => none
  | _ => none
def tIsI (T : String) (t : TE) : TE := fun ℓ σ Q E => t ℓ σ (fun v σ₁ => match isiV T v σ₁ with | some b => Q (.bool b) σ₁ | none => False) E
theorem isi_ok {A : Around} {E : Value → Shared → Prop} {s : Shared} {σ : AH} {T : String} {x : V} {v : Value} {b : Bool} {Q : V → AH → Prop} (R : Rel g s.heap σ) (hx : VR g s.heap x v) (e : isiV T x σ = some b) (h : Q (.bool b) σ) :
    wpAny (model g.prog g.w) A (call (.builtin "isinstance") [v, .type T]) (PostE g s σ Q) E s := by
  have key : ∀ tk, PostE g s σ Q (.bool b) { s with toks := tk } := fun tk => post_value R rfl ⟨rfl, rfl, rfl⟩ (VR_bool.mpr rfl) h
  have key0 : PostE g s σ Q (.bool b) s := key s.toks
  cases x with
  | int i =>
    obtain ⟨t, rfl⟩ := VR_int.mp hx
    simp only [isiV] at e
    split at e
    · rename_i q; subst q; cases e; exact IsiPair.int_int key0
    · split at e
      · rename_i q; cases e
        rcases q with rfl | rfl | rfl | rfl
        · exact IsiPair.int_bool (key _)
        · exact IsiPair.int_str (key _)
        · exact IsiPair.int_tuple (key _)
        · exact IsiPair.int_list (key _)
      · cases e
  | bool i =>
    rw [VR_bool.mp hx]
    simp only [isiV] at e
    split at e
    · rename_i q; cases e
      rcases q with rfl | rfl
      · exact IsiPair.bool_int key0
      · exact IsiPair.bool_bool key0
    · split at e
      · rename_i q; cases e
        rcases q with rfl | rfl | rfl
        · exact IsiPair.bool_str (key _)
        · exact IsiPair.bool_tuple (key _)
        · exact IsiPair.bool_list (key _)
      · cases e
  | str i =>
    obtain ⟨_, t, rfl⟩ := VR_str.mp hx
    simp only [isiV] at e
    split at e
    · rename_i q; subst q; cases e; exact IsiPair.str_str key0
    · split at e
      · rename_i q; cases e
        rcases q with rfl | rfl | rfl | rfl
        · exact IsiPair.str_int (key _)
        · exact IsiPair.str_bool (key _)
        · exact IsiPair.str_tuple (key _)
        · exact IsiPair.str_list (key _)
      · cases e
  | tup ys =>
    obtain ⟨_, a, o, us, m, rfl, _, ho, hc, hd, _⟩ := VR_tup.mp hx
    simp only [isiV] at e
    split at e
    · rename_i q; subst q; cases e; exact IsiPair.tuple_tuple ho hc key0
    · split at e
      · rename_i q; subst q; cases e; exact IsiPair.tuple_list ho hc (key _)
      · cases e
  | ref a =>
    rw [VR_ref.mp hx]
    simp only [isiV] at e
    split at e
    · rename_i ys q
      obtain ⟨_, us, n, ho, _⟩ := (R.own a _ q).2
      split at e
      · rename_i q; subst q; cases e; exact IsiPair.list_list ho rfl key0
      · split at e
        · rename_i q; cases e
          rcases q with rfl | rfl
          · exact IsiPair.list_tuple ho rfl (key _)
          · exact IsiPair.list_int ho rfl (key _)
        · cases e
    · cases e
  | _ => cases e
theorem sndE_isinstance {T : String} {e : Expr} {p p' pos : Pos} {t : TE} (hm : (Str.ofString "isinstance", NameKind.globalImplicit) ∈ sc.names) (hb : Known g "isinstance" (.builtin "isinstance")) (hm' : (Str.ofString T, NameKind.globalImplicit) ∈ sc.names) (hb' : Known g T (.type T))
    (h1 : SndE g sc r true e t) (hs : isStar e = false) :
    SndE g sc r true (.Call (.Name (Str.ofString "isinstance") p) [e, .Name (Str.ofString T) p'] [] pos) (tIsI T t) := .mk fun A env s ℓ σ Q E X h => by
  show wpAny _ A (do callWith pos (← eval (.Name (Str.ofString "isinstance") p) env) [] (backTo pos (starEach [e, .Name (Str.ofString T) p'] env)) (backToKw pos (keywordEach [] env))) _ _ s
  refine wpAny_bind (name_global X hm hb ?_)
  rw [starEach_cons env hs, starEach_cons (es := []) env rfl]
  refine callWith_ok (.inr (.inl ⟨_, rfl⟩)) rfl ?_
  show wpAny _ A (spliced [(false, eval e env), (false, eval (.Name (Str.ofString T) p') env)]) _ _ s
  refine Calls.spliced_cons (wpAny_mono (h1.run A env s ℓ σ _ E X h) (fun v s₁ p => ?_) fun _ _ p => p)
  obtain ⟨x, σ₁, hv, hR, hx, hs1, hq⟩ := p
  refine Calls.spliced_cons (name_global (X.step hR hx) hm' hb' (Calls.spliced_nil ⟨fun a o e => hR.base a o e, ?_⟩))
  split at hq
  · rename_i b e
    exact wp_back hx hs1 (isi_ok hR hv e hq)
  · exact hq.elim
end Mine

open PySem PyProof.Rows
namespace Mine
variable {g : Gr} {sc csc : Scope} {r : Nat} {c : Bool}

/-! ## what is walked through -/
/-- one object that nobody owns was made -/
theorem postI_one {s s₁ : Shared} {σ σ₁ : AH} {Q : List V → (AH → Prop) → Bool → AH → Prop} {items : List V} {inv : AH → Prop} {St : Nat → Heap → Prop} {tup : Bool} {o : Obj} (hR : Rel g s₁.heap σ₁) (hx : Ext No s.heap σ s₁.heap σ₁) (hs : Same s s₁)
    (IT : Iters g items inv s₁.heap.objs.size (· = s₁.heap.objs.size) St tup) (hst : St 0 (s₁.heap.push o)) (hf : Fits items.length) (hq : Q items inv tup σ₁) : PostI g s σ Q (.ref s₁.heap.objs.size) { s₁ with heap := s₁.heap.push o } := by
  have kp := push_keeps s₁.heap o
  refine ⟨items, inv, _, _, St, tup, σ₁, rfl, IT, hst, hR.keeps kp, hx.trans (.keeps kp), hs.trans ⟨rfl, rfl, rfl⟩, fun a e => ?_, hf, hq⟩
  subst e
  refine ⟨?_, hR.fresh (size_fresh _)⟩
  cases e : s.heap.get? s₁.heap.objs.size with
  | none => rfl
  | some o => obtain ⟨o', e'⟩ := hx.pres _ o e; rw [size_fresh] at e'; cases e'
/-- what a value offers to a walk -/
def walkV (x : V) (σ : AH) (Q : List V → (AH → Prop) → Bool → AH → Prop) : Prop := match x with
  | .tup xs => Q xs (fun _ => True) false σ
  | .ref a => match σ a with
    | some (.list xs) => Q xs (fun σ => σ a = some (.list xs)) false σ
    | _ => False
  | _ => False
def tIter (t : TE) : TI := fun ℓ σ Q E => t ℓ σ (fun x σ₁ => walkV x σ₁ Q) E
theorem sndI_value {e : Expr} {t : TE} (h1 : SndE g sc r c e t) : SndI g sc r c e (tIter t) := .mk fun A env s ℓ σ Q E X h => by
  refine wpAny_mono (h1.run A env s ℓ σ _ E X h) (fun v s₁ p => ?_) fun _ _ p => p
  obtain ⟨x, σ₁, hv, hR, hx, hs, hq⟩ := p
  cases x with
  | tup xs =>
    obtain ⟨hf, a, o, us, m, rfl, nh, ho, hc, hd, hvs⟩ := VR_tup.mp hv
    refine wpAny_pyIter_tuple ⟨o, ho, hc, m, hd⟩ (postI_one hR hx hs (iters_tuple a _ xs) ⟨⟨_, Heap.get?_push_size _ rfl, rfl, rfl⟩, ?_⟩ hf hq)
    exact VR.mono (fun a o _ _ _ e _ _ => .of (push_keeps _ _ a o e)) hv
  | ref a =>
    rw [VR_ref.mp hv]
    simp only [walkV] at hq
    split at hq
    · rename_i xs e
      obtain ⟨hf, us, n, ho, hvs⟩ := (hR.own a _ e).2
      exact wpAny_pyIter_list ⟨_, ho, rfl, n, rfl⟩ (postI_one hR hx hs (iters_list a _ xs) ⟨_, Heap.get?_push_size _ rfl, rfl, rfl⟩ hf hq)
    · exact hq.elim
  | _ => exact hq.elim

/-- range(n) -/
def tRange1 (t : TE) : TI := fun ℓ σ Q E => t ℓ σ (fun x σ₁ => match x with | .int n => 0 ≤ n ∧ Fits n.toNat ∧ Q (rangeV 0 n.toNat) (fun _ => True) false σ₁ | _ => False) E
theorem range_iter {A : Around} {s s₁ : Shared} {σ σ₁ : AH} {Q : List V → (AH → Prop) → Bool → AH → Prop} {E : Value → Shared → Prop} {lo hi : Int} {rr : Addr} {t u v : Tok} (hr : IsRange s₁.heap rr lo hi 1 t u v) (hlo : -(2 ^ 62) ≤ lo ∧ lo < 2 ^ 62) (hhi : -(2 ^ 62) ≤ hi ∧ hi < 2 ^ 62) (hR : Rel g s₁.heap σ₁) (hx : Ext No s.heap σ s₁.heap σ₁) (hs : Same s s₁)
    (hf : Fits (hi - lo).toNat) (hq : Q (rangeV lo (hi - lo).toNat) (fun _ => True) false σ₁) : wpAny (model g.prog g.w) A (pyIter (.ref rr)) (PostI g s σ Q) E s₁ := by
  refine wpAny_pyIter_range hr (small_one hlo.1 hlo.2 hhi.1 hhi.2) (postI_one hR hx hs (iters_range _ lo (hi - lo).toNat) ?_ (by simpa [rangeV] using hf) hq)
  have hsz : Builtin.Range.rangeSize lo hi 1 = (((hi - lo).toNat : Nat) : Int) := by rw [rangeSize_one]; split <;> omega
  have e1 : lo + ((0 : Nat) : Int) = lo := by simp
  have e2 : (((hi - lo).toNat : Nat) : Int) - ((0 : Nat) : Int) = Builtin.Range.rangeSize lo hi 1 := by rw [hsz]; simp
  show IsRangeIter _ _ (lo + ((0 : Nat) : Int)) ((((hi - lo).toNat : Nat) : Int) - ((0 : Nat) : Int)) 1
  rw [e1, e2]
  exact Heap.get?_push_size _ rfl
theorem sndI_range1 {e : Expr} {p pos : Pos} {t : TE} (hm : (Str.ofString "range", NameKind.globalImplicit) ∈ sc.names) (hb : Known g "range" (.type "range")) (h1 : SndE g sc r c e t) (hs : isStar e = false) :
    SndI g sc r c (.Call (.Name (Str.ofString "range") p) [e] [] pos) (tRange1 t) := .mk fun A env s ℓ σ Q E X h => by
  show wpAny _ A (do callWith pos (← eval (.Name (Str.ofString "range") p) env) [] (backTo pos (starEach [e] env)) (backToKw pos (keywordEach [] env))) _ _ s
  refine wpAny_bind (name_global X hm hb ?_)
  rw [starEach_cons (es := []) env hs]
  refine callWith_ok (.inr (.inr ⟨_, rfl⟩)) rfl ?_
  show wpAny _ A (spliced [(false, eval e env)]) _ _ s
  refine Calls.spliced_cons (wpAny_mono (h1.run A env s ℓ σ _ E X h) (fun v s₁ p => ?_) fun _ _ p => p)
  obtain ⟨x, σ₁, hv, hR, hx, hs1, hq⟩ := p
  refine Calls.spliced_nil ⟨fun a o e => hR.base a o e, ?_⟩
  cases x with
  | int n =>
    obtain ⟨t, rfl⟩ := VR_int.mp hv
    refine call_range_1 ?_
    have kp := push_keeps s₁.heap { cls := .type "range", data := .fields #[.int 0 s₁.toks, .int n t, .int 1 (s₁.toks + 1)] }
    have hn : n.toNat ≤ 1000000 := hq.2.1
    have hz : (n - 0).toNat = n.toNat := by simp
    exact range_iter (lo := 0) (hi := n) (IsRange.new ..) (by decide) ⟨by have := hq.1; omega, by have := hq.1; omega⟩ (hR.keeps kp) (hx.trans (.keeps kp)) (hs1.trans ⟨rfl, rfl, rfl⟩) (hz ▸ hq.2.1) (hz ▸ hq.2.2)
  | _ => exact hq.elim

/-- enumerate(list) -/
def tEnum (t : TE) : TI := fun ℓ σ Q E => t ℓ σ (fun x σ₁ => match x with
  | .ref a => match σ₁ a with | some (.list xs) => Q (enumV 0 xs) (fun σ => σ a = some (.list xs)) true σ₁ | _ => False
  | _ => False) E
theorem sndI_enum {e : Expr} {p pos : Pos} {t : TE} (hm : (Str.ofString "enumerate", NameKind.globalImplicit) ∈ sc.names) (hb : Known g "enumerate" (.type "enumerate")) (h1 : SndE g sc r c e t) (hs : isStar e = false) :
    SndI g sc r c (.Call (.Name (Str.ofString "enumerate") p) [e] [] pos) (tEnum t) := .mk fun A env s ℓ σ Q E X h => by
  show wpAny _ A (do callWith pos (← eval (.Name (Str.ofString "enumerate") p) env) [] (backTo pos (starEach [e] env)) (backToKw pos (keywordEach [] env))) _ _ s
  refine wpAny_bind (name_global X hm hb ?_)
  rw [starEach_cons (es := []) env hs]
  refine callWith_ok (.inr (.inr ⟨_, rfl⟩)) rfl ?_
  show wpAny _ A (spliced [(false, eval e env)]) _ _ s
  refine Calls.spliced_cons (wpAny_mono (h1.run A env s ℓ σ _ E X h) (fun v s₁ p => ?_) fun _ _ p => p)
  obtain ⟨x, σ₁, hv, hR, hx, hs1, hq⟩ := p
  refine Calls.spliced_nil ⟨fun a o e => hR.base a o e, ?_⟩
  cases x with
  | ref a =>
    rw [VR_ref.mp hv]
    simp only at hq
    split at hq
    · rename_i xs e
      obtain ⟨hf, us, n, ho, hvs⟩ := (hR.own a _ e).2
      refine call_enumerate_1 ho fun h' he hit hz kp => ?_
      refine wpAny_pyIter_enum he ?_
      have fr : ∀ b, s₁.heap.objs.size ≤ b → s₁.heap.get? b = none := fun b hb => Heap.get?_none_of_le hb
      have fr0 : ∀ b, s₁.heap.objs.size ≤ b → s.heap.get? b = none := fun b hb => by
        cases e : s.heap.get? b with
        | none => rfl
        | some o => obtain ⟨o', e'⟩ := hx.pres _ o e; rw [fr b hb] at e'; cases e'
      refine ⟨_, _, _, _, _, _, σ₁, rfl, iters_enum a (s₁.heap.objs.size + 1) s₁.heap.objs.size xs (Nat.succ_ne_self _), ⟨⟨_, he⟩, hit⟩, hR.keeps kp, hx.trans (.keeps kp), hs1.trans ⟨rfl, rfl, rfl⟩, fun b e => ?_, by rw [enumV_length]; exact hf, hq⟩
      rcases e with rfl | rfl
      · exact ⟨fr0 _ (Nat.le_succ _), hR.fresh (fr _ (Nat.le_succ _))⟩
      · exact ⟨fr0 _ (Nat.le_refl _), hR.fresh (fr _ (Nat.le_refl _))⟩
    · exact hq.elim
  | _ => exact hq.elim

/-! ## methods of builtin types -/
def typeV (x : V) (σ : AH) : Option String := match x with
  | .ref a => match σ a with
    | some (.list _) => some "list"
    | some (.dictI _ _) => some "dict"
    | some (.dictS _ _) => some "dict"
    | some (.dictT _ _) => some "dict"
    | _ => none
  | .str _ => some "str"
  | _ => none
theorem typeV_at {s : Shared} {σ : AH} {x : V} {v : Value} {T : String} (R : Rel g s.heap σ) (hv : VR g s.heap x v) (e : typeV x σ = some T) : s.TypeIs v T ∧ ∀ a, v = .ref a → ∃ ob, s.heap.get? a = some ob ∧ ob.dict = none := by
  cases x with
  | str y => obtain ⟨_, t, rfl⟩ := VR_str.mp hv; cases e; exact ⟨typeIs_str s y t, fun a q => nomatch q⟩
  | ref a =>
    rw [VR_ref.mp hv]
    simp only [typeV] at e
    split at e <;> first | cases e | skip
    · rename_i ys q
      obtain ⟨_, us, n, ho, _⟩ := (R.own a _ q).2
      exact ⟨⟨_, ho, rfl⟩, fun b q => by cases q; exact ⟨_, ho, rfl⟩⟩
    all_goals
      rename_i kvs ep q
      obtain ⟨_, us, ⟨o, es, ho, hc, _⟩, _⟩ := (R.own a _ q).2
      exact ⟨⟨_, ho, hc.1⟩, fun b q => by cases q; exact ⟨_, ho, hc.2.1⟩⟩
  | _ => cases e
def tMethod (T : String) (t : TF) (to : TE) (ts : TL) : TE := fun ℓ σ Q E => to ℓ σ (fun o σ₁ => typeV o σ₁ = some T ∧ ts ℓ σ₁ (fun vs σ₂ => t (o :: vs) σ₂ Q E) E) E
def isCall : Expr → Bool
  | .Call .. => true
  | _ => false
theorem base_plain {o : Expr} {name : Str} {env : Env} (h : isCall o = false) : attributeBase o name env (eval o env) = eval o env := by
  cases o <;> first | rfl | cases h
theorem few_plain {args : List Expr} {pos : Pos} {env : Env} (hp : Plain args) (hf : decide (args.length < 30) = true) : ((backTo pos (starEach args env)).all (fun x => !x.1) && (backToKw pos (keywordEach [] env)).all (fun x => x.1.isSome) && decide (args.length + ([] : List Keyword).length + (if ([] : List Keyword).isEmpty then 0 else 1) < 30)) = true := by
  have h1 : (backTo pos (starEach args env)).all (fun x => !x.1) = true := by
    have := backTo_plain hp pos env
    rw [List.all_eq_true]
    intro x hx
    have := List.any_eq_false.mp this x hx
    simpa using this
  have h2 : (backToKw pos (keywordEach [] env)).all (fun x => x.1.isSome) = true := rfl
  rw [h1, h2]
  simpa using hf
theorem sndE_method {o : Expr} {name : Str} {apos pos : Pos} {args : List Expr} {T id : String} {t : TF} {to : TE} {ts : TL} (pa : PlainAttrs T) (slot : Slot T name id) (hty : typeOf (.builtin id) = pure (.type "method_descriptor")) (hF : SndF g r (.builtin id) t)
    (ho : SndE g sc r true o to) (hL : SndL g sc r true args ts) (hp : Plain args) (hbase : isCall o = false) (hfew : decide (args.length < 30) = true)
    (hline : (apos.endLine == pos.line) = true) : SndE g sc r true (.Call (.Attribute o name apos) args [] pos) (tMethod T t to ts) := .mk fun A env s ℓ σ Q E X h => by
  refine wpAny_Call_method (base_plain hbase) (few_plain hp hfew) hline pa slot hty (wpAny_mono (ho.run A env s ℓ σ _ E X h) (fun v s₁ p => ?_) fun _ _ p => p)
  obtain ⟨x, σ₁, hv, hR, hx, hs1, hT, hq⟩ := p
  have X1 := X.step hR hx
  refine ⟨(typeV_at hR hv hT).1, (typeV_at hR hv hT).2, ?_⟩
  refine callWith_ok (.inr (.inl ⟨_, rfl⟩)) (backTo_plain hp pos env) (wpAny_mono (hL.run A env pos s₁ ℓ σ₁ _ E X1 hq) (fun vs s₂ p => ?_) fun _ _ p => p.back hx hs1)
  obtain ⟨xs, σ₂, hvs, hR2, hx2, hs2, hq⟩ := p
  have X2 := X1.step hR2 hx2
  exact ⟨fun a o e => hR2.base a o e, wp_back (hx.trans hx2) (hs1.trans hs2) (hF.run A s₂ σ₂ (x :: xs) (v :: vs) Q E X.gok X2.fr.frl X2.room hR2 (VRs_cons (hx2.vr hR noSeq_no hv) hvs) hq)⟩

/-- list.append -/
def tAppend : TF := fun xs σ Q _ => match xs with
  | [.ref a, x] => match σ a with | some (.list ys) => Fits (ys.length + 1) ∧ Q .none (σ.set a (.list (ys ++ [x]))) | _ => False
  | _ => False
theorem list_changed {s : Shared} {σ : AH} {Q : V → AH → Prop} {a : Addr} {ys zs : List V} {us : Array Value} {n : Nat} {h' : Heap} {v : Value} {x : V} (R : Rel g s.heap σ) (e : σ a = some (.list ys)) (hf : Fits zs.length) (ho' : h'.get? a = some { cls := .type "list", data := .seq us n })
    (sb : Heap.SameBut a s.heap h') (hvs : VRs g s.heap zs us.toList) (hv : VR g s.heap x v) (h : Q x (σ.set a (.list zs))) {tk : Nat} : PostE g s σ Q v { s with heap := h', toks := tk } := by
  obtain ⟨o₀, e₀, c₀⟩ := OR_some (R.own a _ e).2
  have tk : TupsKept g s.heap h' := fun b o us m _ q cc d => by
    refine .of (sb.extBut b o (fun z => ?_) q)
    subst z; rw [e₀] at q; cases q; exact c₀ cc
  exact ⟨x, _, VR.mono tk hv, R.upd (ao' := .list zs) e sb ⟨hf, us, n, ho', VRs.mono tk hvs⟩, .upd e sb ⟨_, ho'⟩, ⟨rfl, rfl, rfl⟩, h⟩
theorem sndF_append : SndF g r (.builtin "list.append") tAppend := .mk fun A s σ xs vs Q E G F Rm R hv h => by
  unfold tAppend at h
  split at h
  · rename_i a x
    obtain ⟨v, _, rfl, ha, hr⟩ := VRs_cons_inv hv
    obtain ⟨u, _, rfl, hx, hr⟩ := VRs_cons_inv hr
    rw [VRs_nil_inv hr, VR_ref.mp ha]
    split at h
    · rename_i ys e
      obtain ⟨hf, us, n, ho, hvs⟩ := (R.own a _ e).2
      have hlen : ys.length = us.size := by have := VRs_length hvs; simpa using this
      refine wpAny_list_append_plain ⟨n, ho⟩ (fun h' hpl sb => ?_) (by rw [← hlen]; exact hf.line)
      obtain ⟨m, ho'⟩ := hpl
      exact list_changed R e (by simpa using h.1) ho' sb (by rw [Array.toList_push]; exact VRs_snoc hvs hx) (VR_none.mpr rfl) h.2
    · exact h.elim
  · exact h.elim

/-- list.count of ints -/
def tCount : TF := fun xs σ Q _ => match xs with
  | [x, .int k] => match listInts x σ with | some ns => Q (.int (ns.count k : Nat)) σ | none => False
  | _ => False
theorem intsAre_of {h : Heap} : ∀ {ns : List Int} {vs : List Value}, VRs g h (ns.map V.int) vs → IntsAre vs ns
  | [], vs, a => by rw [VRs_nil_inv a]; exact .nil
  | n :: ns, vs, a => by
    obtain ⟨u, us, rfl, hu, hus⟩ := VRs_cons_inv a
    obtain ⟨t, rfl⟩ := VR_int.mp hu
    exact .cons n t (intsAre_of hus)
theorem sndF_count : SndF g r (.builtin "list.count") tCount := .mk fun A s σ xs vs Q E G F Rm R hv h => by
  unfold tCount at h
  split at h
  · rename_i x k
    obtain ⟨v, _, rfl, hx, hr⟩ := VRs_cons_inv hv
    obtain ⟨u, _, rfl, hk, hr2⟩ := VRs_cons_inv hr
    obtain ⟨t, rfl⟩ := VR_int.mp hk
    rw [VRs_nil_inv hr2]
    split at h
    · rename_i ns e
      obtain ⟨a, us, n, rfl, ho, hus⟩ := listInts_at R hx e
      exact count_list_ints ⟨_, ho, rfl, n, rfl⟩ (intsAre_of hus) (post_value R rfl ⟨rfl, rfl, rfl⟩ (VR_int.mpr ⟨_, rfl⟩) h)
    · exact h.elim
  · exact h.elim
end Mine

open PySem PyProof.Rows
namespace Mine
variable {g : Gr} {sc csc : Scope} {r : Nat} {c : Bool}

theorem fitsS {x : Str} (h : x.length ≤ 1000000) : Fits x.length := h
section
variable {o : Expr} {apos pos : Pos} {args : List Expr} {to : TE} {ts : TL}
theorem mAppend (ho : SndE g sc r true o to) (hL : SndL g sc r true args ts) (hp : Plain args) (hbase : isCall o = false) (hfew : decide (args.length < 30) = true)
    (hline : (apos.endLine == pos.line) = true) : SndE g sc r true (.Call (.Attribute o (Str.ofString "append") apos) args [] pos) (tMethod "list" tAppend to ts) :=
  sndE_method F.plainAttrs_list F.slot_list_append F.type_list_append sndF_append ho hL hp hbase hfew hline
theorem mCount (ho : SndE g sc r true o to) (hL : SndL g sc r true args ts) (hp : Plain args) (hbase : isCall o = false) (hfew : decide (args.length < 30) = true)
    (hline : (apos.endLine == pos.line) = true) : SndE g sc r true (.Call (.Attribute o (Str.ofString "count") apos) args [] pos) (tMethod "list" tCount to ts) :=
  sndE_method F.plainAttrs_list F.slot_list_count F.type_list_count sndF_count ho hL hp hbase hfew hline
end

theorem len1 {vs : List Value} (h : vs.length = 1) : ∃ a, vs = [a] := List.length_eq_one_iff.mp h
theorem len2 {vs : List Value} (h : vs.length = 2) : ∃ a b, vs = [a, b] := by
  match vs, h with | [a, b], _ => exact ⟨a, b, rfl⟩
theorem len3 {vs : List Value} (h : vs.length = 3) : ∃ a b c, vs = [a, b, c] := by
  match vs, h with | [a, b, c], _ => exact ⟨a, b, c, rfl⟩
theorem len4 {vs : List Value} (h : vs.length = 4) : ∃ a b c d, vs = [a, b, c, d] := by
  match vs, h with | [a, b, c, d], _ => exact ⟨a, b, c, d, rfl⟩
theorem len5 {vs : List Value} (h : vs.length = 5) : ∃ a b c d e, vs = [a, b, c, d, e] := by
  match vs, h with | [a, b, c, d, e], _ => exact ⟨a, b, c, d, e, rfl⟩
theorem len6 {vs : List Value} (h : vs.length = 6) : ∃ a b c d e f, vs = [a, b, c, d, e, f] := by
  match vs, h with | [a, b, c, d, e, f], _ => exact ⟨a, b, c, d, e, f, rfl⟩

/-! ## names of the module -/
theorem glo_of {mg : Str → Option Value} {o : Obj} {es : Array DictEntry} {ep : Nat} {n : String} {v : Value} (hN : g.b0.Ns mainGlobals mg) (h3 : g.b0.get? mainGlobals = some o) (hd : o.data = .dict es ep) (e : nsFind es (Str.ofString n) = some v) : Known g n v := by
  obtain ⟨o', es', ep', ho, hd', hk, hf⟩ := id hN
  rw [h3] at ho; cases ho
  rw [hd] at hd'; cases hd'
  exact .inl ⟨mg, hN, (hf _).symm.trans e⟩
theorem bui_of {mg mb : Str → Option Value} {o : Obj} {es : Array DictEntry} {ep : Nat} {n : String} {v : Value} (hN : g.b0.Ns mainGlobals mg) (h3 : g.b0.get? mainGlobals = some o) (hd : o.data = .dict es ep) (e : nsFind es (Str.ofString n) = none)
    (hB : g.b0.Ns builtinsNs mb) (hb : ∀ x : Str, x ≠ "__name__" → mb x = bootBuiltins x) (hn : Str.ofString n ≠ "__name__") (hv : bootBuiltins (Str.ofString n) = some v) : Known g n v := by
  obtain ⟨o', es', ep', ho, hd', hk, hf⟩ := id hN
  rw [h3] at ho; cases ho
  rw [hd] at hd'; cases hd'
  exact .inr ⟨mg, mb, hN, (hf _).symm.trans e, hB, (hb _ hn).trans hv⟩
theorem fn_builtin {n id : String} {t : TF} (h : Known g n (.builtin id)) (hF : SndF g r (.builtin id) t) : FnG g n r t := ⟨_, h, .inr (.inl ⟨_, rfl⟩), hF⟩
theorem fn_type {n id : String} {t : TF} (h : Known g n (.type id)) (hF : SndF g r (.type id) t) : FnG g n r t := ⟨_, h, .inr (.inr ⟨_, rfl⟩), hF⟩
theorem fn_def {n : String} {a : Addr} {o : Obj} {fd : FuncData} {t : TF} (h : Known g n (.ref a)) (ho : g.b0.get? a = some o) (hd : o.data = .func fd) (hF : SndF g r (.ref a) t) : FnG g n r t := ⟨_, h, .inl ⟨a, o, fd, rfl, ho, hd⟩, hF⟩
theorem CodeRec.mk' {h : Heap} {c : Addr} {oc : Obj} {vs : Array Value} {tq : Tok} {q : Str} (hoc : h.get? c = some oc) (hd : oc.data = .fields vs) (hq : vs[1]? = some (.str q tq)) : h.CodeRec (.ref c) q := ⟨c, oc, vs, tq, rfl, hoc, hd, hq⟩
end Mine

open PySem PyProof.Rows
namespace Mine

/-! ## reasoning with the abstract heap -/
theorem AH.set_same {σ : AH} {a : Addr} {o : AO} : (σ.set a o) a = some o := if_pos rfl
theorem AH.set_other {σ : AH} {a b : Addr} {o : AO} (h : b ≠ a) : (σ.set a o) b = σ b := if_neg h
/-- one heap is part of the other -/
def Sub (σ σ' : AH) : Prop := ∀ a o, σ a = some o → σ' a = some o
theorem Sub.refl {σ : AH} : Sub σ σ := fun _ _ h => h
theorem Sub.trans {σ σ' σ'' : AH} (x : Sub σ σ') (y : Sub σ' σ'') : Sub σ σ'' := fun a o h => y a o (x a o h)
theorem Sub.new {σ σ' : AH} {a : Addr} {o : AO} (x : Sub σ σ') (h : σ' a = none) : Sub σ (σ'.set a o) := fun b p e => by
  have e' := x b p e
  rw [AH.set_other fun z => by rw [z, h] at e'; cases e']
  exact e'
theorem Sub.upd {σ σ' : AH} {a : Addr} {o : AO} (x : Sub σ σ') (h : σ a = none) : Sub σ (σ'.set a o) := fun b p e => by
  rw [AH.set_other fun z => by rw [z, h] at e; cases e]
  exact x b p e
theorem Sub.none {σ σ' : AH} {a : Addr} (x : Sub σ σ') (h : σ' a = Option.none) : σ a = Option.none := by
  cases e : σ a with
  | none => rfl
  | some o => rw [x a o e] at h; cases h
theorem ne_of {σ : AH} {a b : Addr} {o : AO} (h : σ a = some o) (k : σ b = none) : a ≠ b := fun z => by rw [z, k] at h; cases h
theorem new_keeps {σ : AH} {a b : Addr} {o p : AO} (h : σ a = some o) (k : σ b = none) : (σ.set b p) a = some o := by rw [AH.set_other (ne_of h k)]; exact h
theorem setAll_nil {ℓ : Loc} {vs : List V} : ℓ.setAll [] vs = ℓ := by cases vs <;> rfl
theorem setAll_cons {ℓ : Loc} {n : String} {ns : List String} {v : V} {vs : List V} : ℓ.setAll (n :: ns) (v :: vs) = (ℓ.set n v).setAll ns vs := rfl

/-- a comprehension whose parts change nothing -/
theorem compT_pure {t : Tgt} {inv : AH → Prop} {tifs : TB} {telt : TE} {ℓ : Loc} {σ : AH} {Q : List V → AH → Prop} {E : Addr → AH → Prop} (p : V → Bool) (F : V → V) (hinv : inv σ) :
    ∀ (xs acc : List V), (∀ x ∈ xs, ∃ ℓ₁, (∀ P : Loc → Prop, P ℓ₁ → bindV t x ℓ.bare σ P) ∧ (∀ Qb, Qb (p x) σ → tifs ℓ₁ σ Qb E) ∧ (p x = true → ∀ Qv, Qv (F x) σ → telt ℓ₁ σ Qv E)) →
      Q (acc ++ (xs.filter p).map F) σ → compT t inv tifs telt ℓ xs acc σ Q E
  | [], acc, _, h => ⟨hinv, by simpa using h⟩
  | x :: xs, acc, hs, h => by
    obtain ⟨ℓ₁, h1, h2, h3⟩ := hs x (.head _)
    have ih := compT_pure (t := t) (inv := inv) (tifs := tifs) (telt := telt) (ℓ := ℓ) (E := E) (Q := Q) p F hinv xs
    refine ⟨hinv, h1 _ (h2 _ ?_)⟩
    cases e : p x with
    | true =>
      refine h3 e _ (ih _ (fun y hy => hs y (.tail _ hy)) ?_)
      rw [List.filter_cons_of_pos (by simpa using e)] at h
      simpa using h
    | false =>
      refine ih _ (fun y hy => hs y (.tail _ hy)) ?_
      rw [List.filter_cons_of_neg (by simp [e])] at h
      exact h

/-! ## ints -/
theorem mapInt_get {ns : List Int} {i : Nat} {n : Int} (h : ns[i]? = some n) : (ns.map V.int)[i]? = some (.int n) := by simp [h]
/-- the greatest of a list of ints, at least 0 -/
def top0 (ns : List Int) : Int := ns.foldl max 0
theorem top0_ge_start (ns : List Int) : ∀ k : Int, k ≤ ns.foldl max k := by
  induction ns with
  | nil => intro k; exact Int.le_refl _
  | cons n ns ih => intro k; simp only [List.foldl_cons]; have := ih (max k n); omega
theorem foldl_max_ge (ns : List Int) : ∀ (k n : Int), n ∈ ns → n ≤ ns.foldl max k := by
  induction ns with
  | nil => intro k n h; cases h
  | cons m ns ih =>
    intro k n h
    simp only [List.foldl_cons]
    cases h with
    | head => have := top0_ge_start ns (max k m); omega
    | tail _ h => exact ih _ _ h
theorem foldl_max_mem (ns : List Int) : ∀ k : Int, ns.foldl max k = k ∨ ns.foldl max k ∈ ns := by
  induction ns with
  | nil => intro k; exact .inl rfl
  | cons m ns ih =>
    intro k
    simp only [List.foldl_cons]
    rcases ih (max k m) with h | h
    · rw [h]
      rcases Int.le_total k m with q | q
      · right; rw [Int.max_eq_right q]; exact .head _
      · left; exact Int.max_eq_left q
    · exact .inr (.tail _ h)
/-- what is found as the greatest is the greatest -/
theorem eq_top0 {ns : List Int} {m : Int} (h1 : m ∈ ns) (h2 : ∀ n ∈ ns, n ≤ m) (h0 : 0 ≤ m) : m = top0 ns := by
  unfold top0
  have a := foldl_max_ge ns 0 m h1
  rcases foldl_max_mem ns 0 with h | h
  · omega
  · have := h2 _ h; omega
theorem top0_nonneg (ns : List Int) : 0 ≤ top0 ns := top0_ge_start ns 0
theorem top0_congr {ns ms : List Int} (h1 : ∀ n ∈ ns, n ≤ 0 ∨ n ∈ ms) (h2 : ∀ n ∈ ms, n ≤ 0 ∨ n ∈ ns) : top0 ns = top0 ms := by
  have key : ∀ {as bs : List Int}, (∀ n ∈ as, n ≤ 0 ∨ n ∈ bs) → top0 as ≤ top0 bs := fun {as bs} h => by
    unfold top0
    rcases foldl_max_mem as 0 with q | q
    · rw [q]; exact top0_ge_start bs 0
    · rcases h _ q with w | w
      · exact Int.le_trans w (top0_ge_start bs 0)
      · exact foldl_max_ge bs 0 _ w
  have := key h1; have := key h2; omega
end Mine
namespace Mine
theorem loopT_ind {t : Tgt} {inv : AH → Prop} {tb : TS} {Q : Fl → Loc → AH → Prop} {E : Addr → Loc → AH → Prop} (I : List V → Loc → AH → Prop) (h0 : ∀ ℓ σ, I [] ℓ σ → inv σ ∧ Q .next ℓ σ)
    (h1 : ∀ x xs ℓ σ, (∀ ℓ' σ', I xs ℓ' σ' → loopT t inv tb xs ℓ' σ' Q E) → I (x :: xs) ℓ σ → inv σ ∧ bindV t x ℓ σ fun ℓ₁ => tb ℓ₁ σ (fun f ℓ₂ σ₂ => match f with
      | .next => loopT t inv tb xs ℓ₂ σ₂ Q E
      | .cont => loopT t inv tb xs ℓ₂ σ₂ Q E
      | .brk => Q .next ℓ₂ σ₂
      | .ret v => Q (.ret v) ℓ₂ σ₂) E) : ∀ xs ℓ σ, I xs ℓ σ → loopT t inv tb xs ℓ σ Q E
  | [], ℓ, σ, h => h0 ℓ σ h
  | x :: xs, ℓ, σ, h => h1 x xs ℓ σ (fun ℓ' σ' h' => loopT_ind I h0 h1 xs ℓ' σ' h') h
end Mine
namespace Mine
/-- a comprehension over known things, whose parts change nothing -/
theorem compT_map {α : Type} {t : Tgt} {inv : AH → Prop} {tifs : TB} {telt : TE} {ℓ : Loc} {σ : AH} {Q : List V → AH → Prop} {E : Addr → AH → Prop} (f : α → V) (p : α → Bool) (F : α → V) (hinv : inv σ) :
    ∀ (xs : List α) (acc : List V), (∀ x ∈ xs, ∃ ℓ₁, (∀ P : Loc → Prop, P ℓ₁ → bindV t (f x) ℓ.bare σ P) ∧ (∀ Qb, Qb (p x) σ → tifs ℓ₁ σ Qb E) ∧ (p x = true → ∀ Qv, Qv (F x) σ → telt ℓ₁ σ Qv E)) →
      Q (acc ++ (xs.filter p).map F) σ → compT t inv tifs telt ℓ (xs.map f) acc σ Q E
  | [], acc, _, h => ⟨hinv, by simpa using h⟩
  | x :: xs, acc, hs, h => by
    obtain ⟨ℓ₁, h1, h2, h3⟩ := hs x (.head _)
    have ih := compT_map (t := t) (inv := inv) (tifs := tifs) (telt := telt) (ℓ := ℓ) (E := E) (Q := Q) f p F hinv xs
    refine ⟨hinv, h1 _ (h2 _ ?_)⟩
    cases e : p x with
    | true =>
      refine h3 e _ (ih _ (fun y hy => hs y (.tail _ hy)) ?_)
      rw [List.filter_cons_of_pos (by simpa using e)] at h
      simpa using h
    | false =>
      refine ih _ (fun y hy => hs y (.tail _ hy)) ?_
      rw [List.filter_cons_of_neg (by simp [e])] at h
      exact h
end Mine
namespace Mine
theorem rangeV_drop {lo : Int} {n i : Nat} (h : i < n) : (rangeV lo n).drop i = .int (lo + (i : Int)) :: (rangeV lo n).drop (i + 1) := by
  have hl : i < (rangeV lo n).length := by simpa [rangeV] using h
  rw [List.drop_eq_getElem_cons hl]
  simp [rangeV]
theorem rangeV_end {lo : Int} {n : Nat} : (rangeV lo n).drop n = [] := List.drop_eq_nil_of_le (by simp [rangeV])
theorem loopT_range {t : Tgt} {inv : AH → Prop} {tb : TS} {Q : Fl → Loc → AH → Prop} {E : Addr → Loc → AH → Prop} {n : Nat} (I : Nat → Loc → AH → Prop) (h0 : ∀ ℓ σ, I n ℓ σ → inv σ ∧ Q .next ℓ σ)
    (h1 : ∀ i ℓ σ, i < n → (∀ ℓ' σ', I (i + 1) ℓ' σ' → loopT t inv tb ((rangeV 0 n).drop (i + 1)) ℓ' σ' Q E) → I i ℓ σ → inv σ ∧ bindV t (.int (i : Int)) ℓ σ fun ℓ₁ => tb ℓ₁ σ (fun f ℓ₂ σ₂ => match f with
      | .next => loopT t inv tb ((rangeV 0 n).drop (i + 1)) ℓ₂ σ₂ Q E
      | .cont => loopT t inv tb ((rangeV 0 n).drop (i + 1)) ℓ₂ σ₂ Q E
      | .brk => Q .next ℓ₂ σ₂
      | .ret v => Q (.ret v) ℓ₂ σ₂) E) {ℓ : Loc} {σ : AH} (h : I 0 ℓ σ) : loopT t inv tb (rangeV 0 n) ℓ σ Q E := by
  have key : ∀ k i ℓ σ, n - i = k → i ≤ n → I i ℓ σ → loopT t inv tb ((rangeV 0 n).drop i) ℓ σ Q E := by
    intro k
    induction k with
    | zero =>
      intro i ℓ σ hk hi h
      have : i = n := by omega
      subst this
      rw [rangeV_end]
      exact h0 ℓ σ h
    | succ k ih =>
      intro i ℓ σ hk hi h
      have hlt : i < n := by omega
      rw [rangeV_drop hlt]
      have := h1 i ℓ σ hlt (fun ℓ' σ' h' => ih (i + 1) ℓ' σ' (by omega) hlt h') h
      rw [show (0 : Int) + (i : Int) = (i : Int) by omega]
      exact this
  simpa using key n 0 ℓ σ (by omega) (by omega) h
theorem count_col (i : Nat) {α : Type} (f : α → Int) (xs : List α) (k : Int) : (xs.map f).count k = (xs.filter fun o => f o == k).length := by
  rw [List.count_eq_countP, List.countP_map, List.countP_eq_length_filter]; rfl
end Mine
namespace Mine
theorem filter_all {α : Type} (xs : List α) : xs.filter (fun _ => true) = xs := by
  induction xs with
  | nil => rfl
  | cons x xs ih => rw [List.filter_cons_of_pos rfl, ih]
/-- a comprehension without tests -/
theorem compT_each {α : Type} {t : Tgt} {inv : AH → Prop} {telt : TE} {ℓ : Loc} {σ : AH} {Q : List V → AH → Prop} {E : Addr → AH → Prop} (f : α → V) (F : α → V) (hinv : inv σ) (xs : List α)
    (hs : ∀ x ∈ xs, ∃ ℓ₁, (∀ P : Loc → Prop, P ℓ₁ → bindV t (f x) ℓ.bare σ P) ∧ ∀ Qv, Qv (F x) σ → telt ℓ₁ σ Qv E) (h : Q (xs.map F) σ) : compT t inv (tConstB true) telt ℓ (xs.map f) [] σ Q E :=
  compT_map f (fun _ => true) F hinv xs [] (fun x hx => let ⟨ℓ₁, h1, h2⟩ := hs x hx; ⟨ℓ₁, h1, fun _ h => h, fun _ => h2⟩) (by rw [filter_all]; exact h)
/-- a comprehension with a test -/
theorem compT_some {α : Type} {t : Tgt} {inv : AH → Prop} {tifs : TB} {telt : TE} {ℓ : Loc} {σ : AH} {Q : List V → AH → Prop} {E : Addr → AH → Prop} (f : α → V) (p : α → Bool) (F : α → V) (hinv : inv σ) (xs : List α)
    (hs : ∀ x ∈ xs, ∃ ℓ₁, (∀ P : Loc → Prop, P ℓ₁ → bindV t (f x) ℓ.bare σ P) ∧ (∀ Qb, Qb (p x) σ → tifs ℓ₁ σ Qb E) ∧ (p x = true → ∀ Qv, Qv (F x) σ → telt ℓ₁ σ Qv E)) (h : Q ((xs.filter p).map F) σ) : compT t inv tifs telt ℓ (xs.map f) [] σ Q E :=
  compT_map f p F hinv xs [] hs h
end Mine
namespace Mine
theorem tSeq_intro {t ts : TS} {ℓ : Loc} {σ : AH} {Q : Fl → Loc → AH → Prop} {E : Addr → Loc → AH → Prop} (h : t ℓ σ (fun f ℓ' σ' => match f with | .next => ts ℓ' σ' Q E | f => Q f ℓ' σ') E) : tSeq t ts ℓ σ Q E := h
end Mine
namespace Mine
/-! ## with what comes behind left unsaid -/
theorem tSeq_k {t ts : TS} {ℓ : Loc} {σ : AH} {Q : Fl → Loc → AH → Prop} {E : Addr → Loc → AH → Prop}
    (h : ∀ K : Fl → Loc → AH → Prop, (∀ ℓ' σ', ts ℓ' σ' Q E → K .next ℓ' σ') → (∀ v ℓ' σ', Q (.ret v) ℓ' σ' → K (.ret v) ℓ' σ') → (∀ ℓ' σ', Q .brk ℓ' σ' → K .brk ℓ' σ') → (∀ ℓ' σ', Q .cont ℓ' σ' → K .cont ℓ' σ') → t ℓ σ K E) : tSeq t ts ℓ σ Q E :=
  h _ (fun _ _ h => h) (fun _ _ _ h => h) (fun _ _ h => h) (fun _ _ h => h)
theorem tFun_k {ps : List String} {tb : TS} {xs : List V} {σ : AH} {Q : V → AH → Prop} {E : Addr → AH → Prop} (hl : xs.length = ps.length)
    (h : ∀ (K : Fl → Loc → AH → Prop) (KE : Addr → Loc → AH → Prop), (∀ v ℓ' σ' σ'', Sub σ'' σ' → Q v σ'' → K (.ret v) ℓ' σ') → (∀ ℓ' σ' σ'', Sub σ'' σ' → Q .none σ'' → K .next ℓ' σ') → (∀ C ℓ' σ' σ'', Sub σ'' σ' → E C σ'' → KE C ℓ' σ') →
      tb (Loc.empty.setAll ps xs) σ K KE) : tFun ps tb xs σ Q E :=
  ⟨hl, h _ _ (fun _ _ _ σ'' hs hq => ⟨σ'', hs, hq⟩) (fun _ _ σ'' hs hq => ⟨σ'', hs, hq⟩) fun _ _ _ σ'' hs hq => ⟨σ'', hs, hq⟩⟩
theorem loopT_k {t : Tgt} {inv : AH → Prop} {tb : TS} {Q : Fl → Loc → AH → Prop} {E : Addr → Loc → AH → Prop} (I : List V → Loc → AH → Prop) (h0 : ∀ ℓ σ, I [] ℓ σ → inv σ ∧ Q .next ℓ σ)
    (h1 : ∀ x xs ℓ σ (K : Fl → Loc → AH → Prop), (∀ ℓ' σ', I xs ℓ' σ' → K .next ℓ' σ') → (∀ v ℓ' σ', Q (.ret v) ℓ' σ' → K (.ret v) ℓ' σ') → (∀ ℓ' σ', Q .next ℓ' σ' → K .brk ℓ' σ') → (∀ ℓ' σ', I xs ℓ' σ' → K .cont ℓ' σ') →
      I (x :: xs) ℓ σ → inv σ ∧ bindV t x ℓ σ fun ℓ₁ => tb ℓ₁ σ K E) {xs : List V} {ℓ : Loc} {σ : AH} (h : I xs ℓ σ) : loopT t inv tb xs ℓ σ Q E :=
  loopT_ind I h0 (fun x xs ℓ σ ih hI => h1 x xs ℓ σ _ (fun ℓ' σ' h => ih ℓ' σ' h) (fun _ _ _ h => h) (fun _ _ h => h) (fun ℓ' σ' h => ih ℓ' σ' h) hI) xs ℓ σ h
theorem loopT_rangeK {t : Tgt} {inv : AH → Prop} {tb : TS} {Q : Fl → Loc → AH → Prop} {E : Addr → Loc → AH → Prop} {n : Nat} (I : Nat → Loc → AH → Prop) (h0 : ∀ ℓ σ, I n ℓ σ → inv σ ∧ Q .next ℓ σ)
    (h1 : ∀ i ℓ σ (K : Fl → Loc → AH → Prop), i < n → (∀ ℓ' σ', I (i + 1) ℓ' σ' → K .next ℓ' σ') → (∀ v ℓ' σ', Q (.ret v) ℓ' σ' → K (.ret v) ℓ' σ') → (∀ ℓ' σ', Q .next ℓ' σ' → K .brk ℓ' σ') → (∀ ℓ' σ', I (i + 1) ℓ' σ' → K .cont ℓ' σ') →
      I i ℓ σ → inv σ ∧ bindV t (.int (i : Int)) ℓ σ fun ℓ₁ => tb ℓ₁ σ K E) {ℓ : Loc} {σ : AH} (h : I 0 ℓ σ) : loopT t inv tb (rangeV 0 n) ℓ σ Q E :=
  loopT_range I h0 (fun i ℓ σ hi ih hI => h1 i ℓ σ _ hi (fun ℓ' σ' h => ih ℓ' σ' h) (fun _ _ _ h => h) (fun _ _ h => h) (fun ℓ' σ' h => ih ℓ' σ' h) hI) h
end Mine

open PySem PyProof.Rows
namespace Mine

/-! ## data of ints and of rows -/
def rowV (r : List Int) : V := .tup (r.map V.int)
def rowD (r : List Int) : PyData := .tuple (r.map PyData.int)
theorem data_ints {σ : AH} : ∀ (ns : List Int), DataOfs σ (ns.map PyData.int) (ns.map V.int)
  | [] => by simp [DataOfs]
  | n :: ns => by
    simp only [List.map_cons, DataOfs]
    exact ⟨_, _, rfl, by simp [DataOf], data_ints ns⟩
theorem data_row {σ : AH} (r : List Int) : DataOf σ (rowD r) (rowV r) := by
  unfold rowD DataOf; exact ⟨_, rfl, data_ints r⟩
theorem data_rows {σ : AH} : ∀ (rs : List (List Int)), DataOfs σ (rs.map rowD) (rs.map rowV)
  | [] => by simp [DataOfs]
  | r :: rs => by
    simp only [List.map_cons, DataOfs]
    exact ⟨_, _, rfl, data_row r, data_rows rs⟩
theorem data_list {σ : AH} {a : Addr} {xs : List V} {ds : List PyData} (e : σ a = some (.list xs)) (h : DataOfs σ ds xs) : DataOf σ (.list ds) (.ref a) := by
  unfold DataOf; exact ⟨a, xs, rfl, e, h⟩
theorem canLay_ints : ∀ ns : List Int, PyData.canLayAll0 (ns.map PyData.int) = true
  | [] => by simp [PyData.canLayAll0]
  | n :: ns => by simp [PyData.canLayAll0, PyData.canLay0, canLay_ints ns]
theorem depth_ints : ∀ ns : List Int, PyData.depthAll (ns.map PyData.int) ≤ 1
  | [] => by simp [PyData.depthAll]
  | n :: ns => by
    have := depth_ints ns
    simp only [List.map_cons, PyData.depthAll, PyData.depth]; omega
theorem canLay_rows : ∀ rs : List (List Int), PyData.canLayAll0 (rs.map rowD) = true
  | [] => by simp [PyData.canLayAll0]
  | n :: ns => by simp [PyData.canLayAll0, PyData.canLay0, rowD, canLay_ints, canLay_rows ns]
theorem depth_rows : ∀ rs : List (List Int), PyData.depthAll (rs.map rowD) ≤ 3
  | [] => by simp [PyData.depthAll]
  | n :: ns => by
    have := depth_rows ns
    have := depth_ints n
    simp only [List.map_cons, PyData.depthAll, rowD, PyData.depth]; omega
theorem lay_int (n : Int) : Lay (.int n) := ⟨by simp [PyData.canLay0], by simp [PyData.depth]⟩
theorem lay_bool (b : Bool) : Lay (.bool b) := ⟨by simp [PyData.canLay0], by simp [PyData.depth]⟩
theorem lay_none : Lay .none := ⟨by simp [PyData.canLay0], by simp [PyData.depth]⟩
theorem lay_ints (ns : List Int) : Lay (.list (ns.map PyData.int)) := ⟨by simp [PyData.canLay0, canLay_ints], by have := depth_ints ns; simp only [PyData.depth]; omega⟩
theorem lay_row (r : List Int) : Lay (rowD r) := ⟨by simp [rowD, PyData.canLay0, canLay_ints], by have := depth_ints r; simp only [rowD, PyData.depth]; omega⟩
theorem lay_rows (rs : List (List Int)) : Lay (.list (rs.map rowD)) := ⟨by simp [PyData.canLay0, canLay_rows], by have := depth_rows rs; simp only [PyData.depth]; omega⟩
theorem eqvAll_ints : ∀ ns ms : List Int, PyData.eqvAll (ns.map PyData.int) (ms.map PyData.int) = (ns == ms)
  | [], [] => by simp [PyData.eqvAll]
  | [], m :: ms => by simp [PyData.eqvAll]
  | n :: ns, [] => by simp [PyData.eqvAll]
  | n :: ns, m :: ms => by
    simp only [List.map_cons, PyData.eqvAll, PyData.eqv, eqvAll_ints ns ms]
    rw [Bool.eq_iff_iff]; simp
theorem eqv_row (r t : List Int) : PyData.eqv (rowD r) (rowD t) = (r == t) := by
  simp only [rowD, PyData.eqv, eqvAll_ints]
theorem eqvAll_rows : ∀ rs ts : List (List Int), PyData.eqvAll (rs.map rowD) (ts.map rowD) = (rs == ts)
  | [], [] => by simp [PyData.eqvAll]
  | [], m :: ms => by simp [PyData.eqvAll]
  | n :: ns, [] => by simp [PyData.eqvAll]
  | n :: ns, m :: ms => by
    simp only [List.map_cons, PyData.eqvAll, eqv_row, eqvAll_rows ns ms]
    rw [Bool.eq_iff_iff]; simp
/-- equality of lists of rows -/
theorem eqD_rows {σ : AH} {a b : Addr} {rs ts : List (List Int)} {Q : Bool → Prop} (ha : σ a = some (.list (rs.map rowV))) (hb : σ b = some (.list (ts.map rowV))) (h : Q (rs == ts)) : eqD (.ref a) (.ref b) σ Q := by
  unfold eqD
  exact ⟨_, _, data_list ha (data_rows rs), data_list hb (data_rows ts), lay_rows rs, lay_rows ts, by simpa only [PyData.eqv, eqvAll_rows] using h⟩
theorem eqD_bool {σ : AH} {a b : Bool} {Q : Bool → Prop} (h : Q (a == b)) : eqD (.bool a) (.bool b) σ Q := by
  unfold eqD
  exact ⟨.bool a, .bool b, by simp [DataOf], by simp [DataOf], lay_bool a, lay_bool b, by simpa only [PyData.eqv] using h⟩
theorem any_int : ∀ (ns : List Int) (k : Int), ((ns.map PyData.int).any fun y => PyData.eqv y (.int k)) = decide (k ∈ ns)
  | [], k => by simp
  | n :: ns, k => by
    simp only [List.map_cons, List.any_cons, any_int ns k, PyData.eqv]
    by_cases q : n = k
    · subst q; simp
    · have q' : ¬ k = n := fun z => q z.symm
      have : (n == k) = false := by simpa using q
      rw [this]; simp [q']
theorem inD_ints {σ : AH} {a : Addr} {ns : List Int} {k : Int} {Q : Bool → Prop} (ha : σ a = some (.list (ns.map V.int))) (h : Q (decide (k ∈ ns))) : inD (.int k) (.ref a) σ Q := by
  simp only [inD, ha]
  exact ⟨_, .int k, data_ints ns, by simp [DataOf], lay_ints ns, lay_int k, by rw [any_int]; exact h⟩
theorem atV_nat {xs : List V} {i : Nat} {x : V} (h : xs[i]? = some x) : atV xs (i : Int) = some x := by
  have hl : i < xs.length := by
    rcases Nat.lt_or_ge i xs.length with q | q
    · exact q
    · rw [List.getElem?_eq_none q] at h; cases h
  have e : seqIndex? (i : Int) xs.length = some i := by
    unfold seqIndex?
    rw [if_neg (show ¬ ((i : Int) < 0) by omega)]
    simp only
    rw [if_pos (by simp; omega)]
    simp
  unfold atV
  rw [e]; exact h
theorem atV_int {xs : List V} {k : Int} {x : V} (h0 : 0 ≤ k) (h : xs[k.toNat]? = some x) : atV xs k = some x := by
  have : k = ((k.toNat : Nat) : Int) := by omega
  rw [this]; exact atV_nat h
theorem row_at {r : List Int} {i : Nat} (h : i < r.length) : atV (r.map V.int) (i : Int) = some (.int (r.getD i 0)) := by
  refine atV_nat ?_
  simp [h]
end Mine

open PySem PySem.W PyProof.Rows
set_option Elab.async false
set_option maxRecDepth 100000
set_option maxHeartbeats 8000000
namespace Mine
open_top hd for PySem.Challenge.rw_uf040033_08
end Mine

open PySem PyProof.Rows
namespace Mine

/-! ## the plain law of 08 -/
def col (i : Nat) (r : List Int) : Int := r.getD i 0
def cnt (i : Nat) (rows : List (List Int)) (r : List Int) : Int := ((rows.filter fun o => col i o == col i r).length : Int)
def manyOf (rows : List (List Int)) : Int := top0 (rows.map (cnt 0 rows) ++ rows.map (cnt 1 rows))
/-- two rows that may not stand beside each other -/
def clash (o r : List Int) : Bool := (col 2 o == col 2 r) && (col 0 o == col 0 r || col 1 o == col 1 r)
def clashes : List (List Int) → List (List Int) → Bool
  | _, [] => false
  | done, r :: rest => (done.any fun o => clash o r) || clashes (done ++ [r]) rest
def dueOf (rows : List (List Int)) : Bool := !clashes [] rows && (rows.all fun r => decide (col 2 r < manyOf rows))

def sCount : TF := fun xs σ Q _ => ∃ a rows, xs = [.ref a] ∧ σ a = some (.list (rows.map rowV)) ∧ (∀ r ∈ rows, 2 ≤ r.length) ∧ rows.length ≤ 1000 ∧ Q (.int (manyOf rows)) σ
end Mine
namespace Mine
def mixedOf (c k : Int) : Int := ((c * 48271 + 7919 * k * k + 31 * k).fmod 2147483647).fdiv 7
def sCellAt : TF := fun xs σ Q _ => ∃ (ns : List Int) (k : Nat), xs = [.frz (ns.map V.int), .int k] ∧ Q (.int (ns.getD k 0)) σ
def sMixed : TF := fun xs σ Q _ => ∃ c k, xs = [.int c, .int k] ∧ k.natAbs < 2 ^ 60 ∧ Q (.int (mixedOf c k)) σ
def sWhole : TF := fun xs σ Q _ => ∃ i, xs = [.int i] ∧ Q (.bool true) σ
def sMany : TF := fun xs σ Q _ => ∃ a rows, xs = [.ref a] ∧ σ a = some (.list (rows.map rowV)) ∧ (∀ r ∈ rows, r.length = 3) ∧ rows.length ≤ 100 ∧ Q (.int (manyOf rows)) σ
end Mine
namespace Mine
def sDue : TF := fun xs σ Q _ => ∃ a rows, xs = [.ref a] ∧ σ a = some (.list (rows.map rowV)) ∧ (∀ r ∈ rows, r.length = 3) ∧ rows.length ≤ 100 ∧ Q (.bool (dueOf rows)) σ
end Mine
namespace Mine
theorem row0 {r : List Int} (h : r.length = 3) : atV (r.map V.int) 0 = some (.int (col 0 r)) := row_at (i := 0) (by omega)
theorem row1 {r : List Int} (h : r.length = 3) : atV (r.map V.int) 1 = some (.int (col 1 r)) := row_at (i := 1) (by omega)
theorem row2 {r : List Int} (h : r.length = 3) : atV (r.map V.int) 2 = some (.int (col 2 r)) := row_at (i := 2) (by omega)
theorem cut_take {xs : List V} {n : Nat} : cutV none (some (n : Int)) xs = xs.take n := by simp [cutV, takeV, loN]
theorem cut_drop {xs : List V} {n : Nat} : cutV (some (n : Int)) none xs = xs.drop n := by simp [cutV, takeV, loN]
end Mine
namespace Mine
theorem fmod_two (x : Int) : 0 ≤ x.fmod 2 ∧ x.fmod 2 < 2 := ⟨Int.fmod_nonneg_of_pos x (by decide), Int.fmod_lt_of_pos x (by decide)⟩
theorem mul_bit {x y : Int} : IntMulOk x (y.fmod 2) := .of_right (intBits_le_64 (by have := fmod_two y; omega) (by have := fmod_two y; omega))
theorem pick4 {a b c d : V} (x : Int) : ∃ v, atV [a, b, c, d] (x.fmod 4) = some v ∧ (v = a ∨ v = b ∨ v = c ∨ v = d) := by
  have h0 := Int.fmod_nonneg_of_pos x (show (0 : Int) < 4 by decide)
  have h1 := Int.fmod_lt_of_pos x (show (0 : Int) < 4 by decide)
  generalize x.fmod 4 = y at h0 h1
  rcases (show y = 0 ∨ y = 1 ∨ y = 2 ∨ y = 3 by omega) with rfl | rfl | rfl | rfl
  · exact ⟨a, rfl, .inl rfl⟩
  · exact ⟨b, rfl, .inr (.inl rfl)⟩
  · exact ⟨c, rfl, .inr (.inr (.inl rfl))⟩
  · exact ⟨d, rfl, .inr (.inr (.inr rfl))⟩
/-- a hue is left -/
theorem hue_left (n : Nat) (taken : List Int) (h : taken.length ≤ n) : ((List.range (n + 1)).filter fun i => !decide (((i : Nat) : Int) ∈ taken)) ≠ [] := by
  intro e
  have hsub : ∀ i ∈ List.range (n + 1), ((i : Nat) : Int) ∈ taken := fun i hi => by
    have := List.filter_eq_nil_iff.mp e i hi
    simpa using this
  have hnd : ((List.range (n + 1)).map fun i : Nat => (i : Int)).Nodup := by
    unfold List.Nodup
    rw [List.pairwise_map]
    exact List.Pairwise.imp (fun {a b} h => by intro q; exact h (by omega)) List.nodup_range
  have hs : (List.range (n + 1)).map (fun i : Nat => (i : Int)) ⊆ taken := fun x hx => by
    obtain ⟨i, hi, rfl⟩ := List.mem_map.mp hx
    exact hsub i hi
  have := List.Nodup.length_le_of_subset hnd hs
  simp at this; omega
def sRows : TF := fun xs σ Q _ => ∃ ns : List Int, xs = [.frz (ns.map V.int)] ∧ ∀ (b : Addr) (rows : List (List Int)) (σ' : AH), Sub σ σ' → σ' b = some (.list (rows.map rowV)) → (∀ r ∈ rows, r.length = 3) → rows.length ≤ 30 → Q (.ref b) σ'
end Mine
namespace Mine
def sSpoilt : TF := fun xs σ Q _ => ∃ (a : Addr) (rows : List (List Int)) (c : Int), xs = [.ref a, .int c] ∧ σ a = some (.list (rows.map rowV)) ∧ (∀ r ∈ rows, r.length = 3) ∧ rows.length ≤ 30 ∧
  ∀ (b : Addr) (rows' : List (List Int)) (σ' : AH), Sub σ σ' → σ' b = some (.list (rows'.map rowV)) → (∀ r ∈ rows', r.length = 3) → rows'.length ≤ 31 → Q (.ref b) σ'
def sLaw : TF := fun xs σ Q _ => ∃ ns : List Int, xs = [.frz (ns.map V.int)] ∧ Q (.bool true) σ
end Mine
namespace Mine
theorem col_take {r : List Int} {i : Nat} (h : i < 2) : col i (r.take 2) = col i r := by
  simp [col, List.getD_eq_getElem?_getD, List.getElem?_take, h]
theorem cnt_take {rows : List (List Int)} {r : List Int} {i : Nat} (h : i < 2) : cnt i (rows.map (·.take 2)) (r.take 2) = cnt i rows r := by
  unfold cnt
  rw [List.filter_map, List.length_map]
  congr 3
  funext o
  simp [col_take h]
theorem manyOf_take (rows : List (List Int)) : manyOf (rows.map (·.take 2)) = manyOf rows := by
  unfold manyOf
  congr 1
  rw [List.map_map, List.map_map]
  congr 1
  · exact List.map_congr_left fun r _ => cnt_take (by decide)
  · exact List.map_congr_left fun r _ => cnt_take (by decide)
theorem row_cut2 {r : List Int} : cutV none (some 2) (r.map V.int) = (r.take 2).map V.int := by
  simp [cutV, takeV, loN, List.map_take]
end Mine

open PySem PySem.W PyProof.Rows Mine
set_option Elab.async false
set_option maxRecDepth 100000
set_option maxHeartbeats 8000000
namespace Mine
variable {g : Gr} {P : Params}
structure N08 (g : Gr) : Prop where
  n_len : Known g "len" (.builtin "len")
  n_max : Known g "max" (.builtin "max")
  n_min : Known g "min" (.builtin "min")
  n_list : Known g "list" (.type "list")
  n_range : Known g "range" (.type "range")
  n_enumerate : Known g "enumerate" (.type "enumerate")
  n_isinstance : Known g "isinstance" (.builtin "isinstance")
  n_int : Known g "int" (.type "int")
  n_bool : Known g "bool" (.type "bool")
local macro_rules | `(tactic| walk_at "u") => `(tactic| simp only [tSeq, tNop, tRet, tFlow, tDo, tIfS, tAssign, tAssignT, tAssignComp, tFor, tIter, walkV, tRange1, tEnum, tMethod, typeV, tAppend, tCount, tCall, tLen, lenV, tMax, tMin, tListOf, tIsI, isiV, tListComp, tComp, tList, tTuple, tNil, tCons, tConst, tName, tTruth, truthV, tNotB, tAndB, tOrB, tConstB, tCmp, tCmpB, tCmp2B, cmpV, tBin, binV, tNot, tNeg, tIf, tAnd, tOr, tItem, itemV, tSlice, sliceV, boundV, Loc.setAll, Loc.set, Loc.empty, Loc.bare, bindV, String.reduceEq, reduceIte, List.length_cons, List.length_nil])
local macro_rules | `(tactic| walk_at "v") => `(tactic| simp only [tNop, tRet, tFlow, tDo, tIfS, tAssign, tAssignT, tAssignComp, tFor, tIter, walkV, tRange1, tEnum, tMethod, typeV, tAppend, tCount, tCall, tLen, lenV, tMax, tMin, tListOf, tIsI, isiV, tListComp, tComp, tList, tTuple, tNil, tCons, tConst, tName, tTruth, truthV, tNotB, tAndB, tOrB, tConstB, tCmp, tCmpB, tCmp2B, cmpV, tBin, binV, tNot, tNeg, tIf, tAnd, tOr, tItem, itemV, tSlice, sliceV, boundV, Loc.setAll, Loc.set, Loc.empty, Loc.bare, bindV, String.reduceEq, reduceIte, List.length_cons, List.length_nil])
local macro_rules | `(tactic| walk_at "s") => `(tactic| (refine tSeq_intro ?_; walk_at "v"))
theorem f_count_of (hK : (hd.heap_39 P).In g.b0) (N : N08 g) : SndC g 11 (.ref 19) sCount := by
  refine SndC.mono (sndC_def (r := 10) (ps := ["rows"]) (hK 19 _ rfl) rfl (CodeRec.mk' (hK 18 _ rfl) rfl rfl) rfl (by intro vs h; obtain ⟨a0, rfl⟩ := len1 h; rfl) rfl rfl rfl (by decide +kernel)
    (sndSs_cons (sndS_assign (.tail _ (.head _)) rfl (sndE_list (sndL_cons sndE_int sndL_nil)) (fun _ => rfl))
  (sndSs_cons (sndS_for (sndI_value (sndE_name (.head _) rfl)) (.name (.tail _ (.tail _ (.head _))) rfl) (sndSs_cons (sndS_expr (mAppend (sndE_name (.tail _ (.head _)) rfl) (sndL_cons (sndE_call (.tail _ (.tail _ (.tail _ (.head _)))) (fn_builtin N.n_len sndF_len) (sndL_cons (sndE_comp (by decide +kernel) (sndI_value (sndE_name (.head _) rfl)) (.name (.tail _ (.head _)) rfl) (by decide +kernel) (sndT_one (sndB_cmp (sndE_item (sndE_name (.tail _ (.head _)) rfl) sndE_int (fun _ _ => rfl)) (sndE_item (sndE_name (.tail _ (.tail _ (.head _))) rfl) sndE_int (fun _ _ => rfl)) rfl)) sndE_int (fun _ _ => rfl)) sndL_nil) rfl) sndL_nil) rfl rfl rfl rfl) (fun _ => rfl))
  (sndSs_cons (sndS_expr (mAppend (sndE_name (.tail _ (.head _)) rfl) (sndL_cons (sndE_call (.tail _ (.tail _ (.tail _ (.head _)))) (fn_builtin N.n_len sndF_len) (sndL_cons (sndE_comp (by decide +kernel) (sndI_value (sndE_name (.head _) rfl)) (.name (.tail _ (.head _)) rfl) (by decide +kernel) (sndT_one (sndB_cmp (sndE_item (sndE_name (.tail _ (.head _)) rfl) sndE_int (fun _ _ => rfl)) (sndE_item (sndE_name (.tail _ (.tail _ (.head _))) rfl) sndE_int (fun _ _ => rfl)) rfl)) sndE_int (fun _ _ => rfl)) sndL_nil) rfl) sndL_nil) rfl rfl rfl rfl) (fun _ => rfl))
  sndSs_nil)) (fun _ _ => rfl))
  (sndSs_cons (sndS_return (sndE_call (.tail _ (.tail _ (.tail _ (.tail _ (.head _))))) (fn_builtin N.n_max sndF_max) (sndL_cons (sndE_name (.tail _ (.head _)) rfl) sndL_nil) rfl))
  sndSs_nil)))) ?_
  rintro xs σ Q E ⟨a, rows, rfl, ha, hr, hl, hq⟩
  refine ⟨rfl, ?_⟩
  walk_at "u"
  refine ⟨by simp [Fits], fun b hb => ?_⟩
  rw [new_keeps ha hb]
  refine ⟨nofun, ?_⟩
  refine loopT_ind (fun xs ℓ σ' => ∃ todo ns, xs = List.map rowV todo ∧ (∀ r ∈ todo, r ∈ rows) ∧ ℓ "rows" = some (.ref a) ∧ ℓ "sizes" = some (.ref b) ∧ Sub σ σ' ∧ σ' b = some (.list (List.map V.int ns)) ∧ ns.length + 2 * todo.length ≤ 2001 ∧
    0 ∈ ns ∧ (∀ n ∈ ns, n ≤ 0 ∨ n ∈ rows.map (cnt 0 rows) ++ rows.map (cnt 1 rows)) ∧ ∀ r ∈ rows, r ∈ todo ∨ (cnt 0 rows r ∈ ns ∧ cnt 1 rows r ∈ ns)) ?_ ?_ _ _ _ ?_
  · rintro ℓ σ' ⟨todo, ns, hn, _, hℓ1, hℓ2, hs, hbs, _, h0, h1, h2⟩
    refine ⟨hs _ _ ha, ?_⟩
    have : todo = [] := by cases todo with | nil => rfl | cons _ _ => cases hn
    subst this
    simp only [hℓ2, listInts, hbs, intsV_map]
    refine ⟨List.ne_nil_of_mem h0, fun m hm hmx => ⟨σ, hs, ?_⟩⟩
    have : m = manyOf rows := by
      unfold manyOf
      rw [eq_top0 hm hmx (hmx 0 h0)]
      refine top0_congr h1 fun n hn => ?_
      rcases List.mem_append.mp hn with q | q <;> obtain ⟨r, hr', rfl⟩ := List.mem_map.mp q <;> rcases h2 r hr' with w | w <;> first | exact absurd w List.not_mem_nil | exact .inr w.1 | exact .inr w.2
    rw [this]; exact hq
  · rintro x xs ℓ σ' ih ⟨todo, ns, hn, htd, hℓ1, hℓ2, hs, hbs, hlen, h0, h1, h2⟩
    refine ⟨hs _ _ ha, ?_⟩
    walk_at "u"
    simp only [hℓ1, hℓ2, hbs, hs _ _ ha]
    cases todo with
    | nil => cases hn
    | cons r todo =>
    cases hn
    have hrr : 2 ≤ r.length := hr r (htd r (.head _))
    have step : ∀ (i : Nat) (σ₁ : AH) (Q' : List V → AH → Prop) (E' : Addr → AH → Prop), i < 2 → σ₁ a = some (.list (rows.map rowV)) → (∀ xs, (xs.length : Int) = cnt i rows r → Q' xs σ₁) →
        compT (Tgt.name "other") (fun σ => σ a = some (AO.list (List.map rowV rows)))
          (tCmpB CmpOp.Eq (tItem (tName "other") (tConst (V.int i))) (tItem (tName "row") (tConst (V.int i)))) (tConst (V.int 1)) (ℓ.set "row" (rowV r)) (List.map rowV rows) [] σ₁ Q' E' := fun i σ₁ Q' E' hi ha' h' => by
      refine compT_map rowV (fun o => col i o == col i r) (fun _ => .int 1) ha' rows [] (fun o ho => ⟨_, fun P h => h, fun Qb h => ?_, fun _ Qv h => ?_⟩) (h' _ (by simp [cnt]))
      · walk_at "u"
        have ho := hr o ho
        simp only [rowV, row_at (show i < o.length by omega), row_at (show i < r.length by omega), eqD]
        exact h
      · exact h
    refine ⟨trivial, nofun, step 0 _ _ _ (by omega) (hs _ _ ha) fun ys hys c hc => ?_⟩
    simp only [AH.set_same, new_keeps hbs hc]
    have s2 : Sub σ ((σ'.set c (.list ys)).set b (.list (List.map V.int ns ++ [V.int (ys.length : Int)]))) := (hs.new hc).upd hb
    simp only [s2 _ _ ha]
    simp only [List.length_cons] at hlen
    refine ⟨by simp [Fits]; omega, trivial, nofun, step 1 _ _ _ (by omega) (s2 _ _ ha) fun zs hzs d hd => ?_⟩
    simp only [AH.set_same, new_keeps AH.set_same hd]
    refine ⟨by simp [Fits]; omega, ih _ _ ⟨todo, ns ++ [(ys.length : Int), (zs.length : Int)], rfl, fun q hq' => htd q (.tail _ hq'), ?_, ?_, (s2.new hd).upd hb, ?_, ?_, ?_, ?_, ?_⟩⟩
    · exact hℓ1
    · exact hℓ2
    · rw [AH.set_same]; simp
    · simp; omega
    · exact List.mem_append_left _ h0
    · intro n hn
      rcases List.mem_append.mp hn with q | q
      · exact h1 n q
      · have hrm : r ∈ rows := htd r (.head _)
        simp only [List.mem_cons, List.not_mem_nil, or_false] at q
        rcases q with rfl | rfl
        · right; rw [hys]; exact List.mem_append_left _ (List.mem_map_of_mem hrm)
        · right; rw [hzs]; exact List.mem_append_right _ (List.mem_map_of_mem hrm)
    · intro q hq'
      rcases h2 q hq' with w | w
      · cases w with
        | head => right; rw [hys, hzs]; simp
        | tail _ w => exact .inl w
      · right; exact ⟨List.mem_append_left _ w.1, List.mem_append_left _ w.2⟩
  · exact ⟨rows, [0], rfl, fun r hr' => hr', rfl, rfl, Sub.refl.new hb, AH.set_same, by simp; omega, by simp, by simp, fun r hr' => .inl hr'⟩

theorem f_cell_at (hK : (hd.heap_39 P).In g.b0) (N : N08 g) : SndC g 11 (.ref 33) sCellAt := by
  refine SndC.mono (sndC_def (r := 10) (ps := ["_law_script", "_law_k"]) (hK 33 _ rfl) rfl (CodeRec.mk' (hK 32 _ rfl) rfl rfl) rfl (by intro vs h; obtain ⟨a0, a1, rfl⟩ := len2 h; rfl) rfl rfl rfl (by decide +kernel)
    (sndSs_cons (sndS_if (sndB_cmp (sndE_name (.tail _ (.head _)) rfl) (sndE_call (.tail _ (.tail _ (.head _))) (fn_builtin N.n_len sndF_len) (sndL_cons (sndE_name (.head _) rfl) sndL_nil) rfl) rfl) (sndSs_cons (sndS_return (sndE_item (sndE_name (.head _) rfl) (sndE_name (.tail _ (.head _)) rfl) (fun _ _ => rfl)))
  sndSs_nil) sndSs_nil)
  (sndSs_cons (sndS_return sndE_int)
  sndSs_nil))) ?_
  rintro xs σ Q E ⟨ns, k, rfl, hq⟩
  refine ⟨rfl, ?_⟩
  walk_at "u"
  simp only [List.length_map]
  by_cases h : k < ns.length
  · rw [decide_eq_true (by omega)]
    simp only [row_at h]
    exact ⟨σ, fun _ _ h => h, hq⟩
  · rw [decide_eq_false (by omega)]
    rw [List.getD_eq_getElem?_getD, List.getElem?_eq_none (by omega)] at hq
    exact ⟨σ, fun _ _ h => h, hq⟩
theorem f_mixed (hK : (hd.heap_39 P).In g.b0) (N : N08 g) : SndC g 11 (.ref 40) sMixed := by
  refine SndC.mono (sndC_def (r := 10) (ps := ["_law_cell", "_law_k"]) (hK 40 _ rfl) rfl (CodeRec.mk' (hK 39 _ rfl) rfl rfl) rfl (by intro vs h; obtain ⟨a0, a1, rfl⟩ := len2 h; rfl) rfl rfl rfl (by decide +kernel)
    (sndSs_cons (sndS_return (sndE_bin (sndE_bin (sndE_bin (sndE_bin (sndE_bin (sndE_name (.head _) rfl) sndE_int) (sndE_bin (sndE_bin sndE_int (sndE_name (.tail _ (.head _)) rfl)) (sndE_name (.tail _ (.head _)) rfl))) (sndE_bin sndE_int (sndE_name (.tail _ (.head _)) rfl))) sndE_int) sndE_int))
  sndSs_nil)) ?_
  rintro xs σ Q E ⟨c, k, rfl, hk, hq⟩
  refine ⟨rfl, ?_⟩
  walk_at "u"
  have hb : Builtin.Int.intBits k ≤ 64 := intBits_le_64 (by omega) (by omega)
  exact ⟨.of_right (by decide), .of_right hb, .of_right hb, .of_right hb, by decide, by decide, σ, fun _ _ h => h, hq⟩
theorem f_whole (hK : (hd.heap_39 P).In g.b0) (N : N08 g) : SndC g 11 (.ref 47) sWhole := by
  refine SndC.mono (sndC_def (r := 10) (ps := ["_law_found"]) (hK 47 _ rfl) rfl (CodeRec.mk' (hK 46 _ rfl) rfl rfl) rfl (by intro vs h; obtain ⟨a0, rfl⟩ := len1 h; rfl) rfl rfl rfl (by decide +kernel)
    (sndSs_cons (sndS_return (sndE_boolop (sndV_and (sndE_isinstance (.tail _ (.head _)) (N.n_isinstance) (.tail _ (.tail _ (.head _))) (N.n_int) (sndE_name (.head _) rfl) rfl) (sndV_one (sndE_not (sndE_isinstance (.tail _ (.head _)) (N.n_isinstance) (.tail _ (.tail _ (.tail _ (.head _)))) (N.n_bool) (sndE_name (.head _) rfl) rfl))))))
  sndSs_nil)) ?_
  rintro xs σ Q E ⟨i, rfl, hq⟩
  refine ⟨rfl, ?_⟩
  walk_at "u"
  exact ⟨σ, fun _ _ h => h, hq⟩
theorem f_many (hK : (hd.heap_39 P).In g.b0) (N : N08 g) : SndC g 11 (.ref 64) sMany := by
  refine SndC.mono (sndC_def (r := 10) (ps := ["_law_rows_here"]) (hK 64 _ rfl) rfl (CodeRec.mk' (hK 63 _ rfl) rfl rfl) rfl (by intro vs h; obtain ⟨a0, rfl⟩ := len1 h; rfl) rfl rfl rfl (by decide +kernel)
    (sndSs_cons (sndS_assign (.tail _ (.head _)) rfl sndE_int (fun _ => rfl))
  (sndSs_cons (sndS_for (sndI_range1 (.tail _ (.tail _ (.tail _ (.tail _ (.head _))))) (N.n_range) sndE_int rfl) (.name (.tail _ (.tail _ (.head _))) rfl) (sndSs_cons (sndS_assignComp (.tail _ (.tail _ (.tail _ (.head _)))) rfl (by decide +kernel) (sndI_value (sndE_name (.head _) rfl)) (.name (.tail _ (.head _)) rfl) (by decide +kernel) sndT_nil (sndE_item (sndE_name (.tail _ (.head _)) rfl) (sndE_name (.tail _ (.tail _ (.head _))) rfl) (fun _ _ => rfl)) (fun _ _ => rfl))
  (sndSs_cons (sndS_assign (.tail _ (.head _)) rfl (sndE_call (.tail _ (.tail _ (.tail _ (.tail _ (.tail _ (.head _)))))) (fn_builtin N.n_max sndF_max) (sndL_cons (sndE_bin (sndE_list (sndL_cons (sndE_name (.tail _ (.head _)) rfl) sndL_nil)) (sndE_comp (by decide +kernel) (sndI_value (sndE_name (.tail _ (.tail _ (.tail _ (.head _)))) rfl)) (.name (.tail _ (.head _)) rfl) (by decide +kernel) sndT_nil (mCount (sndE_name (.tail _ (.tail _ (.head _))) rfl) (sndL_cons (sndE_name (.tail _ (.head _)) rfl) sndL_nil) rfl rfl rfl rfl) (fun _ _ => rfl))) sndL_nil) rfl) (fun _ => rfl))
  sndSs_nil)) (fun _ _ => rfl))
  (sndSs_cons (sndS_return (sndE_name (.tail _ (.head _)) rfl))
  sndSs_nil)))) ?_
  rintro xs σ Q E ⟨a, rows, rfl, ha, hr, hl, hq⟩
  refine ⟨rfl, ?_⟩
  walk_at "u"
  refine ⟨by decide, by simp [Fits], nofun, ?_⟩
  refine loopT_range (fun i ℓ σ' => ∃ f, ℓ "_law_rows_here" = some (.ref a) ∧ ℓ "_law_found" = some (.int f) ∧ Sub σ σ' ∧ 0 ≤ f ∧ (∀ j, j < i → ∀ r ∈ rows, cnt j rows r ≤ f) ∧ (f = 0 ∨ ∃ j, j < i ∧ ∃ r ∈ rows, f = cnt j rows r)) ?_ ?_
    ⟨0, rfl, rfl, Sub.refl, by omega, fun j hj => absurd hj (by omega), .inl rfl⟩
  · rintro ℓ σ' ⟨f, h1, h2, h3, h4, h5, h6⟩
    refine ⟨trivial, ?_⟩
    simp only [h2]
    have : f = manyOf rows := by
      unfold manyOf
      rcases h6 with q | ⟨j, hj, r, hr', q⟩
      · have : top0 (rows.map (cnt 0 rows) ++ rows.map (cnt 1 rows)) = top0 [] := by
          refine top0_congr (fun n hn => .inl ?_) (fun n hn => by cases hn)
          rcases List.mem_append.mp hn with w | w <;> obtain ⟨r, hr', rfl⟩ := List.mem_map.mp w
          · exact q ▸ h5 0 (by decide) r hr'
          · exact q ▸ h5 1 (by decide) r hr'
        rw [this, q]; rfl
      · refine eq_top0 ?_ (fun n hn => ?_) h4
        · rw [q]
          have hj2 : j < 2 := hj
          rcases (show j = 0 ∨ j = 1 by omega) with rfl | rfl
          · exact List.mem_append_left _ (List.mem_map_of_mem hr')
          · exact List.mem_append_right _ (List.mem_map_of_mem hr')
        · rcases List.mem_append.mp hn with w | w <;> obtain ⟨r, hr', rfl⟩ := List.mem_map.mp w
          · exact h5 0 (by decide) r hr'
          · exact h5 1 (by decide) r hr'
    exact ⟨σ, h3, this ▸ hq⟩
  · rintro i ℓ σ' hi ih ⟨f, h1, h2, h3, h4, h5, h6⟩
    refine ⟨trivial, ?_⟩
    walk_at "u"
    simp only [h1, h2, h3 _ _ ha]
    have hi2 : i < 2 := hi
    refine ⟨nofun, compT_each rowV (fun o => .int (col i o)) (h3 _ _ ha) rows (fun o ho => ⟨_, fun P h => h, fun Qv h => ?_⟩) ?_⟩
    · walk_at "u"
      simp only [rowV, row_at (show i < o.length by have := hr o ho; omega)]
      exact h
    · intro c hc
      refine ⟨by simp [Fits], fun d hd => ?_⟩
      rw [new_keeps AH.set_same hd]
      have he : List.map (fun o => V.int (col i o)) rows = List.map V.int (rows.map (col i)) := by simp [Function.comp_def]
      rw [he] at hd ⊢
      have s2 : Sub σ ((σ'.set c (.list (List.map V.int (rows.map (col i))))).set d (.list [V.int f])) := (h3.new hc).new hd
      refine ⟨nofun, compT_each V.int (fun k => .int ((rows.map (col i)).count k : Nat)) (new_keeps AH.set_same hd) (rows.map (col i)) (fun k hk => ⟨_, fun P h => h, fun Qv h => ?_⟩) ?_⟩
      · walk_at "u"
        rw [new_keeps AH.set_same hd]
        simp only [listInts, new_keeps AH.set_same hd, intsV_map]
        exact ⟨trivial, h⟩
      · intro e he2
        refine ⟨_, _, new_keeps AH.set_same he2, AH.set_same, by simp [Fits]; omega, fun u hu => ?_⟩
        have hc2 : [V.int f] ++ List.map (fun k => V.int ((rows.map (col i)).count k : Nat)) (rows.map (col i)) = List.map V.int (f :: rows.map (cnt i rows)) := by
          simp only [List.singleton_append, List.map_cons, List.map_map]
          congr 1
          refine List.map_congr_left fun r _ => ?_
          show V.int _ = V.int _
          rw [count_col i (col i) rows]
          rfl
        rw [hc2]
        simp only [listInts, AH.set_same, intsV_map]
        refine ⟨by simp, fun m hm hmx => ih _ _ ⟨m, h1, rfl, (s2.new he2).new hu, ?_, ?_, ?_⟩⟩
        · exact Int.le_trans h4 (hmx f (.head _))
        · intro j hj r hr'
          rcases Nat.lt_or_ge j i with q | q
          · exact Int.le_trans (h5 j q r hr') (hmx f (.head _))
          · have : j = i := by omega
            subst this
            exact hmx _ (.tail _ (List.mem_map_of_mem hr'))
        · cases hm with
          | head =>
            rcases h6 with q | ⟨j, hj, r, hr', q⟩
            · exact .inl q
            · exact .inr ⟨j, by omega, r, hr', q⟩
          | tail _ hm =>
            obtain ⟨r, hr', q⟩ := List.mem_map.mp hm
            exact .inr ⟨i, by omega, r, hr', q.symm⟩
theorem f_is_good (hK : (hd.heap_39 P).In g.b0) (N : N08 g) (F_count_of : FnG g "count_of" 20 sCount) : SndC g 21 (.ref 26) sDue := by
  refine SndC.mono (sndC_def (r := 20) (ps := ["rows"]) (hK 26 _ rfl) rfl (CodeRec.mk' (hK 25 _ rfl) rfl rfl) rfl (by intro vs h; obtain ⟨a0, rfl⟩ := len1 h; rfl) rfl rfl rfl (by decide +kernel)
    (sndSs_cons (sndS_assign (.tail _ (.head _)) rfl (sndE_call (.tail _ (.tail _ (.tail _ (.tail _ (.tail _ (.head _)))))) F_count_of (sndL_cons (sndE_name (.head _) rfl) sndL_nil) rfl) (fun _ => rfl))
  (sndSs_cons (sndS_for (sndI_enum (.tail _ (.tail _ (.tail _ (.tail _ (.tail _ (.tail _ (.head _))))))) (N.n_enumerate) (sndE_name (.head _) rfl) rfl) (.tup (.cons (.tail _ (.tail _ (.head _))) rfl (.cons (.tail _ (.tail _ (.tail _ (.head _)))) rfl .nil))) (sndSs_cons (sndS_if (sndB_cmp (sndE_item (sndE_name (.tail _ (.tail _ (.tail _ (.head _)))) rfl) sndE_int (fun _ _ => rfl)) (sndE_name (.tail _ (.head _)) rfl) rfl) (sndSs_cons (sndS_return sndE_bool)
  sndSs_nil) sndSs_nil)
  (sndSs_cons (sndS_for (sndI_value (sndE_slice (sndE_name (.head _) rfl) sndO_none (sndO_some (sndE_name (.tail _ (.tail _ (.head _))) rfl)))) (.name (.tail _ (.tail _ (.tail _ (.tail _ (.head _))))) rfl) (sndSs_cons (sndS_if (sndB_boolop (sndBs_and (sndB_cmp (sndE_item (sndE_name (.tail _ (.tail _ (.tail _ (.tail _ (.head _))))) rfl) sndE_int (fun _ _ => rfl)) (sndE_item (sndE_name (.tail _ (.tail _ (.tail _ (.head _)))) rfl) sndE_int (fun _ _ => rfl)) rfl) (sndBs_and (sndB_boolop (sndBs_or (sndB_cmp (sndE_item (sndE_name (.tail _ (.tail _ (.tail _ (.tail _ (.head _))))) rfl) sndE_int (fun _ _ => rfl)) (sndE_item (sndE_name (.tail _ (.tail _ (.tail _ (.head _)))) rfl) sndE_int (fun _ _ => rfl)) rfl) (sndBs_or (sndB_cmp (sndE_item (sndE_name (.tail _ (.tail _ (.tail _ (.tail _ (.head _))))) rfl) sndE_int (fun _ _ => rfl)) (sndE_item (sndE_name (.tail _ (.tail _ (.tail _ (.head _)))) rfl) sndE_int (fun _ _ => rfl)) rfl) sndBs_or_nil))) sndBs_and_nil))) (sndSs_cons (sndS_return sndE_bool)
  sndSs_nil) sndSs_nil)
  sndSs_nil) (fun _ _ => rfl))
  sndSs_nil)) (fun _ _ => rfl))
  (sndSs_cons (sndS_return sndE_bool)
  sndSs_nil)))) ?_
  rintro xs σ Q E ⟨a, rows, rfl, ha, hr, hl, hq⟩
  refine ⟨rfl, ?_⟩
  walk_at "u"
  refine ⟨a, rows, rfl, ha, fun r h => by have := hr r h; omega, by omega, ?_⟩
  simp only [ha]
  refine ⟨fun _ => rfl, ?_⟩
  refine loopT_ind (fun xs ℓ σ' => ∃ done todo, rows = done ++ todo ∧ xs = enumV done.length (todo.map rowV) ∧ ℓ "rows" = some (.ref a) ∧ ℓ "many" = some (.int (manyOf rows)) ∧ Sub σ σ' ∧ (∀ r ∈ done, col 2 r < manyOf rows) ∧ clashes [] rows = clashes done todo) ?_ ?_ _ _ _ ?_
  · rintro ℓ σ' ⟨done, todo, h1, h2, h3, h4, h5, h6, h7⟩
    refine ⟨h5 _ _ ha, ?_⟩
    have : todo = [] := by cases todo with | nil => rfl | cons _ _ => simp [enumV] at h2
    subst this
    simp only
    have hd : dueOf rows = true := by
      unfold dueOf
      rw [h7]
      simp only [clashes, Bool.not_false, Bool.true_and, List.all_eq_true, decide_eq_true_eq]
      intro r hr'
      rw [h1, List.append_nil] at hr'
      exact h6 r hr'
    exact ⟨σ, h5, hd ▸ hq⟩
  · rintro x xs ℓ σ' ih ⟨done, todo, h1, h2, h3, h4, h5, h6, h7⟩
    refine ⟨h5 _ _ ha, ?_⟩
    cases todo with
    | nil => simp [enumV] at h2
    | cons r todo =>
    simp only [List.map_cons, enumV, List.cons.injEq] at h2
    obtain ⟨rfl, rfl⟩ := h2
    have hrm : r ∈ rows := by rw [h1]; simp
    have hr3 := hr r hrm
    walk_at "u"
    simp only [partsV, List.length_cons, List.length_nil, true_and]
    walk_at "u"
    simp only [h3, h4, h5 _ _ ha, rowV, row2 hr3]
    by_cases big : manyOf rows ≤ col 2 r
    · rw [decide_eq_true big]
      have hd : dueOf rows = false := by
        unfold dueOf
        rw [Bool.and_eq_false_iff]
        right
        rw [List.all_eq_false]
        exact ⟨r, hrm, by simpa using big⟩
      exact ⟨σ, h5, hd ▸ hq⟩
    · rw [decide_eq_false big]
      refine ⟨trivial, by show (0 : Int) ≤ _; omega, fun c hc => ?_⟩
      have hcut : cutV none (some ((done.length : Nat) : Int)) (List.map rowV rows) = List.map rowV done := by
        rw [cut_take, ← List.map_take, h1]; simp
      change ∀ r ∈ done, col 2 r < manyOf rows at h6
      have hcut' : cutV none (some ((done.length : Nat) : Int)) (List.map (fun r => V.tup (List.map V.int r)) rows) = List.map rowV done := hcut
      first | rw [hcut] | rw [hcut']
      rw [AH.set_same]
      refine ⟨nofun, ?_⟩
      refine loopT_ind (fun xs ℓ' σ'' => ∃ d1 d2, done = d1 ++ d2 ∧ xs = List.map rowV d2 ∧ ℓ' "rows" = some (.ref a) ∧ ℓ' "many" = some (.int (manyOf rows)) ∧ ℓ' "row" = some (rowV r) ∧ Sub σ σ'' ∧ σ'' c = some (.list (List.map rowV done)) ∧ ∀ o ∈ d1, clash o r = false) ?_ ?_ _ _ _ ?_
      · rintro ℓ' σ'' ⟨d1, d2, k1, k2, k3, k4, k5, k6, k7, k8⟩
        refine ⟨k7, ?_⟩
        have : d2 = [] := by cases d2 with | nil => rfl | cons _ _ => cases k2
        subst this
        simp only
        refine ih _ _ ⟨done ++ [r], todo, by rw [h1]; simp, by simp, k3, k4, k6, fun q hq' => ?_, ?_⟩
        · rcases List.mem_append.mp hq' with w | w
          · exact h6 q w
          · simp at w; subst w; omega
        · rw [h7]
          have : (done.any fun o => clash o r) = false := by
            rw [List.any_eq_false]
            intro o ho
            rw [k1, List.append_nil] at ho
            simp [k8 o ho]
          simp [clashes, this]
      · rintro x xs ℓ' σ'' ih2 ⟨d1, d2, k1, k2, k3, k4, k5, k6, k7, k8⟩
        refine ⟨k7, ?_⟩
        cases d2 with
        | nil => cases k2
        | cons o d2 =>
        cases k2
        have hom : o ∈ rows := by rw [h1, k1]; simp
        have ho3 := hr o hom
        walk_at "u"
        simp only [k5, rowV, row0 hr3, row1 hr3, row2 hr3, row0 ho3, row1 ho3, row2 ho3, eqD]
        have next : clash o r = false → loopT _ _ _ _ _ _ _ _ := fun hc' => ih2 (ℓ'.set "other" (rowV o)) σ'' ⟨d1 ++ [o], d2, by rw [k1]; simp, rfl, k3, k4, k5, k6, k7, fun q hq' => by
          rcases List.mem_append.mp hq' with w | w
          · exact k8 q w
          · simp at w; subst w; exact hc'⟩
        have stop : clash o r = true → ∃ σ₀ : AH, (∀ a o, σ₀ a = some o → σ'' a = some o) ∧ Q (V.bool false) σ₀ := fun hc' => by
          have hd : dueOf rows = false := by
            unfold dueOf
            rw [h7]
            have : (done.any fun o => clash o r) = true := List.any_eq_true.mpr ⟨o, by rw [k1]; simp, hc'⟩
            simp [clashes, this]
          exact ⟨σ, k6, hd ▸ hq⟩
        cases e2 : (col 2 o == col 2 r) with
        | false => exact next (by simp [clash, e2])
        | true =>
          cases e0 : (col 0 o == col 0 r) with
          | true => exact stop (by simp [clash, e2, e0])
          | false =>
            cases e1 : (col 1 o == col 1 r) with
            | true => exact stop (by simp [clash, e2, e1])
            | false => exact next (by simp [clash, e2, e0, e1])
      · exact ⟨[], done, rfl, rfl, h3, h4, rfl, h5.new hc, AH.set_same, fun o h => (by cases h)⟩
  · exact ⟨[], rows, rfl, rfl, rfl, rfl, Sub.refl, fun r h => (by cases h), rfl⟩
theorem f_due (hK : (hd.heap_39 P).In g.b0) (N : N08 g) (F_law_many : FnG g "_law_many" 20 sMany) : SndC g 21 (.ref 69) sDue := by
  refine SndC.mono (sndC_def (r := 20) (ps := ["_law_rows_here"]) (hK 69 _ rfl) rfl (CodeRec.mk' (hK 68 _ rfl) rfl rfl) rfl (by intro vs h; obtain ⟨a0, rfl⟩ := len1 h; rfl) rfl rfl rfl (by decide +kernel)
    (sndSs_cons (sndS_for (sndI_range1 (.tail _ (.tail _ (.tail _ (.head _)))) (N.n_range) (sndE_call (.tail _ (.tail _ (.tail _ (.tail _ (.head _))))) (fn_builtin N.n_len sndF_len) (sndL_cons (sndE_name (.head _) rfl) sndL_nil) rfl) rfl) (.name (.tail _ (.head _)) rfl) (sndSs_cons (sndS_for (sndI_value (sndE_slice (sndE_name (.head _) rfl) sndO_none (sndO_some (sndE_name (.tail _ (.head _)) rfl)))) (.name (.tail _ (.tail _ (.head _))) rfl) (sndSs_cons (sndS_if (sndB_boolop (sndBs_and (sndB_cmp (sndE_item (sndE_name (.tail _ (.tail _ (.head _))) rfl) sndE_int (fun _ _ => rfl)) (sndE_item (sndE_item (sndE_name (.head _) rfl) (sndE_name (.tail _ (.head _)) rfl) (fun _ _ => rfl)) sndE_int (fun _ _ => rfl)) rfl) (sndBs_and (sndB_boolop (sndBs_or (sndB_cmp (sndE_item (sndE_name (.tail _ (.tail _ (.head _))) rfl) sndE_int (fun _ _ => rfl)) (sndE_item (sndE_item (sndE_name (.head _) rfl) (sndE_name (.tail _ (.head _)) rfl) (fun _ _ => rfl)) sndE_int (fun _ _ => rfl)) rfl) (sndBs_or (sndB_cmp (sndE_item (sndE_name (.tail _ (.tail _ (.head _))) rfl) sndE_int (fun _ _ => rfl)) (sndE_item (sndE_item (sndE_name (.head _) rfl) (sndE_name (.tail _ (.head _)) rfl) (fun _ _ => rfl)) sndE_int (fun _ _ => rfl)) rfl) sndBs_or_nil))) sndBs_and_nil))) (sndSs_cons (sndS_return sndE_bool)
  sndSs_nil) sndSs_nil)
  sndSs_nil) (fun _ _ => rfl))
  sndSs_nil) (fun _ _ => rfl))
  (sndSs_cons (sndS_return (sndE_cmp (sndE_comp (by decide +kernel) (sndI_value (sndE_name (.head _) rfl)) (.name (.tail _ (.head _)) rfl) (by decide +kernel) (sndT_one (sndB_cmp (sndE_item (sndE_name (.tail _ (.head _)) rfl) sndE_int (fun _ _ => rfl)) (sndE_call (.tail _ (.tail _ (.head _))) F_law_many (sndL_cons (sndE_name (.tail _ (.tail _ (.tail _ (.head _)))) rfl) sndL_nil) rfl) rfl)) (sndE_name (.tail _ (.head _)) rfl) (fun _ _ => rfl)) (sndE_list sndL_nil) rfl))
  sndSs_nil))) ?_
  rintro xs σ Q E ⟨a, rows, rfl, ha, hr, hl, hq⟩
  refine ⟨rfl, ?_⟩
  walk_at "u"
  simp only [ha]
  refine ⟨by omega, by simp [Fits]; omega, nofun, ?_⟩
  have hlen : Int.toNat ((List.map rowV rows).length : Int) = rows.length := by simp
  rw [hlen]
  refine loopT_range (fun i ℓ σ' => ℓ "_law_rows_here" = some (.ref a) ∧ Sub σ σ' ∧ clashes [] rows = clashes (rows.take i) (rows.drop i)) ?_ ?_ ⟨rfl, Sub.refl, by simp⟩
  · rintro ℓ σ' ⟨h3, h5, h7⟩
    refine ⟨trivial, ?_⟩
    simp only [h3, h5 _ _ ha]
    refine ⟨nofun, compT_some rowV (fun r => decide (manyOf rows ≤ col 2 r)) rowV (h5 _ _ ha) rows (fun r hr' => ⟨_, fun P h => h, fun Qb h => ?_, fun _ Qv h => h⟩) ?_⟩
    · have hr3 := hr r hr'
      walk_at "u"
      simp only [rowV, row2 hr3, h3]
      exact ⟨a, rows, rfl, h5 _ _ ha, hr, hl, h⟩
    · intro c hc
      refine ⟨by simp [Fits], fun d hd => ?_⟩
      refine eqD_rows (rs := rows.filter fun r => decide (manyOf rows ≤ col 2 r)) (ts := []) (new_keeps AH.set_same hd) AH.set_same ?_
      have hdue : dueOf rows = (rows.filter (fun r => decide (manyOf rows ≤ col 2 r)) == []) := by
        unfold dueOf
        rw [h7]
        have : clashes (rows.take rows.length) (rows.drop rows.length) = false := by simp [clashes]
        rw [this, Bool.not_false, Bool.true_and, Bool.eq_iff_iff]
        simp
      exact ⟨σ, (h5.new hc).new hd, hdue ▸ hq⟩
  · rintro i ℓ σ' hi ih ⟨h3, h5, h7⟩
    refine ⟨trivial, ?_⟩
    walk_at "u"
    simp only [h3, h5 _ _ ha]
    refine ⟨trivial, by show (0 : Int) ≤ _; omega, fun c hc => ?_⟩
    rw [cut_take, ← List.map_take, AH.set_same]
    refine ⟨nofun, ?_⟩
    obtain ⟨r, hri⟩ : ∃ r, rows[i]? = some r := ⟨rows[i], by simp [hi]⟩
    have hrm : r ∈ rows := List.mem_of_getElem? hri
    have hr3 := hr r hrm
    have hat : atV (List.map rowV rows) (i : Int) = some (rowV r) := atV_nat (by simp [hri])
    have hdrop : rows.drop i = r :: rows.drop (i + 1) := by
      rw [List.drop_eq_getElem_cons hi]
      congr 1
      have := List.getElem?_eq_getElem hi
      rw [this] at hri; exact Option.some.inj hri
    refine loopT_ind (fun xs ℓ' σ'' => ∃ d1 d2, rows.take i = d1 ++ d2 ∧ xs = List.map rowV d2 ∧ ℓ' "_law_rows_here" = some (.ref a) ∧ ℓ' "_law_k" = some (.int (i : Int)) ∧ Sub σ σ'' ∧ σ'' c = some (.list (List.map rowV (rows.take i))) ∧ ∀ o ∈ d1, clash o r = false) ?_ ?_ _ _ _ ?_
    · rintro ℓ' σ'' ⟨d1, d2, k1, k2, k3, k4, k6, k7, k8⟩
      refine ⟨k7, ?_⟩
      have : d2 = [] := by cases d2 with | nil => rfl | cons _ _ => cases k2
      subst this
      simp only
      refine ih _ _ ⟨k3, k6, ?_⟩
      rw [h7, hdrop]
      have : ((rows.take i).any fun o => clash o r) = false := by
        rw [List.any_eq_false]
        intro o ho
        rw [k1, List.append_nil] at ho
        simp [k8 o ho]
      rw [List.take_add_one, hri]
      simp [clashes, this]
    · rintro x xs ℓ' σ'' ih2 ⟨d1, d2, k1, k2, k3, k4, k6, k7, k8⟩
      refine ⟨k7, ?_⟩
      cases d2 with
      | nil => cases k2
      | cons o d2 =>
      cases k2
      have hom : o ∈ rows := List.mem_of_mem_take (i := i) (by rw [k1]; simp)
      have ho3 := hr o hom
      walk_at "u"
      simp only [k3, k4, k6 _ _ ha, hat, rowV, row0 hr3, row1 hr3, row2 hr3, row0 ho3, row1 ho3, row2 ho3, eqD]
      have next : clash o r = false → loopT _ _ _ _ _ _ _ _ := fun hc' => ih2 (ℓ'.set "_law_other" (rowV o)) σ'' ⟨d1 ++ [o], d2, by rw [k1]; simp, rfl, k3, k4, k6, k7, fun q hq' => by
        rcases List.mem_append.mp hq' with w | w
        · exact k8 q w
        · simp at w; subst w; exact hc'⟩
      have stop : clash o r = true → ∃ σ₀ : AH, (∀ a o, σ₀ a = some o → σ'' a = some o) ∧ Q (V.bool false) σ₀ := fun hc' => by
        have hd : dueOf rows = false := by
          unfold dueOf
          rw [h7, hdrop]
          have : ((rows.take i).any fun o => clash o r) = true := List.any_eq_true.mpr ⟨o, by rw [k1]; simp, hc'⟩
          simp [clashes, this]
        exact ⟨σ, k6, hd ▸ hq⟩
      cases e2 : (col 2 o == col 2 r) with
      | false => exact next (by simp [clash, e2])
      | true =>
        cases e0 : (col 0 o == col 0 r) with
        | true => exact stop (by simp [clash, e2, e0])
        | false =>
          cases e1 : (col 1 o == col 1 r) with
          | true => exact stop (by simp [clash, e2, e1])
          | false => exact next (by simp [clash, e2, e0, e1])
    · exact ⟨[], rows.take i, rfl, rfl, h3, rfl, h5.new hc, AH.set_same, fun o h => (by cases h)⟩
end Mine

open PySem PySem.W PyProof.Rows Mine
set_option Elab.async false
set_option maxRecDepth 100000
set_option maxHeartbeats 8000000
namespace Mine
variable {g : Gr} {P : Params}
local macro_rules | `(tactic| walk_at "u") => `(tactic| simp only [tSeq, tNop, tRet, tFlow, tDo, tIfS, tAssign, tAssignT, tAssignComp, tFor, tIter, walkV, tRange1, tEnum, tMethod, typeV, tAppend, tCount, tCall, tLen, lenV, tMax, tMin, tListOf, tIsI, isiV, tListComp, tComp, tList, tTuple, tNil, tCons, tConst, tName, tTruth, truthV, tNotB, tAndB, tOrB, tConstB, tCmp, tCmpB, tCmp2B, cmpV, tBin, binV, tNot, tNeg, tIf, tAnd, tOr, tItem, itemV, tSlice, sliceV, boundV, Loc.setAll, Loc.set, Loc.empty, Loc.bare, bindV, String.reduceEq, reduceIte, List.length_cons, List.length_nil])
local macro_rules | `(tactic| walk_at "v") => `(tactic| simp only [tNop, tRet, tFlow, tDo, tIfS, tAssign, tAssignT, tAssignComp, tFor, tIter, walkV, tRange1, tEnum, tMethod, typeV, tAppend, tCount, tCall, tLen, lenV, tMax, tMin, tListOf, tIsI, isiV, tListComp, tComp, tList, tTuple, tNil, tCons, tConst, tName, tTruth, truthV, tNotB, tAndB, tOrB, tConstB, tCmp, tCmpB, tCmp2B, cmpV, tBin, binV, tNot, tNeg, tIf, tAnd, tOr, tItem, itemV, tSlice, sliceV, boundV, Loc.setAll, Loc.set, Loc.empty, Loc.bare, bindV, String.reduceEq, reduceIte, List.length_cons, List.length_nil])
local macro_rules | `(tactic| walk_at "s") => `(tactic| (refine tSeq_intro ?_; walk_at "v"))
theorem f_rows (hK : (hd.heap_39 P).In g.b0) (N : N08 g) (F_law_cell_at : FnG g "_law_cell_at" 20 sCellAt) (F_law_mixed : FnG g "_law_mixed" 20 sMixed) : SndC g 21 (.ref 52) sRows := by
  refine SndC.mono (sndC_def (r := 20) (ps := ["_law_script"]) (hK 52 _ rfl) rfl (CodeRec.mk' (hK 51 _ rfl) rfl rfl) rfl (by intro vs h; obtain ⟨a0, rfl⟩ := len1 h; rfl) rfl rfl rfl (by decide +kernel)
    (sndSs_cons (sndS_assign (.tail _ (.head _)) rfl (sndE_list sndL_nil) (fun _ => rfl))
  (sndSs_cons (sndS_assign (.tail _ (.tail _ (.head _))) rfl (sndE_item (sndE_list (sndL_cons sndE_int (sndL_cons sndE_int (sndL_cons sndE_int (sndL_cons sndE_int sndL_nil))))) (sndE_bin (sndE_call (.tail _ (.tail _ (.tail _ (.tail _ (.tail _ (.tail _ (.tail _ (.tail _ (.tail _ (.tail _ (.head _))))))))))) F_law_cell_at (sndL_cons (sndE_name (.head _) rfl) (sndL_cons sndE_int sndL_nil)) rfl) sndE_int) (fun _ _ => rfl)) (fun _ => rfl))
  (sndSs_cons (sndS_assign (.tail _ (.tail _ (.tail _ (.head _)))) rfl (sndE_item (sndE_list (sndL_cons sndE_int (sndL_cons sndE_int (sndL_cons sndE_int (sndL_cons (sndE_bin sndE_int sndE_int) sndL_nil))))) (sndE_bin (sndE_bin (sndE_call (.tail _ (.tail _ (.tail _ (.tail _ (.tail _ (.tail _ (.tail _ (.tail _ (.tail _ (.tail _ (.head _))))))))))) F_law_cell_at (sndL_cons (sndE_name (.head _) rfl) (sndL_cons sndE_int sndL_nil)) rfl) sndE_int) sndE_int) (fun _ _ => rfl)) (fun _ => rfl))
  (sndSs_cons (sndS_for (sndI_enum (.tail _ (.tail _ (.tail _ (.tail _ (.tail _ (.tail _ (.tail _ (.tail _ (.tail _ (.tail _ (.tail _ (.head _)))))))))))) (N.n_enumerate) (sndE_slice (sndE_name (.head _) rfl) (sndO_some sndE_int) (sndO_some sndE_int)) rfl) (.tup (.cons (.tail _ (.tail _ (.tail _ (.tail _ (.head _))))) rfl (.cons (.tail _ (.tail _ (.tail _ (.tail _ (.tail _ (.head _)))))) rfl .nil))) (sndSs_cons (sndS_assign (.tail _ (.tail _ (.tail _ (.tail _ (.tail _ (.tail _ (.head _))))))) rfl (sndE_call (.tail _ (.tail _ (.tail _ (.tail _ (.tail _ (.tail _ (.tail _ (.tail _ (.tail _ (.tail _ (.tail _ (.tail _ (.head _))))))))))))) F_law_mixed (sndL_cons (sndE_name (.tail _ (.tail _ (.tail _ (.tail _ (.tail _ (.head _)))))) rfl) (sndL_cons (sndE_name (.tail _ (.tail _ (.tail _ (.tail _ (.head _))))) rfl) sndL_nil)) rfl) (fun _ => rfl))
  (sndSs_cons (sndS_assign (.tail _ (.tail _ (.tail _ (.tail _ (.tail _ (.tail _ (.tail _ (.head _)))))))) rfl (sndE_bin (sndE_bin (sndE_name (.tail _ (.tail _ (.tail _ (.tail _ (.tail _ (.tail _ (.head _))))))) rfl) (sndE_name (.tail _ (.tail _ (.head _))) rfl)) (sndE_bin (sndE_name (.tail _ (.tail _ (.tail _ (.head _)))) rfl) (sndE_bin (sndE_bin (sndE_name (.tail _ (.tail _ (.tail _ (.tail _ (.tail _ (.tail _ (.head _))))))) rfl) sndE_int) sndE_int))) (fun _ => rfl))
  (sndSs_cons (sndS_assign (.tail _ (.tail _ (.tail _ (.tail _ (.tail _ (.tail _ (.tail _ (.tail _ (.head _))))))))) rfl (sndE_bin (sndE_bin (sndE_bin (sndE_name (.tail _ (.tail _ (.tail _ (.tail _ (.tail _ (.tail _ (.head _))))))) rfl) sndE_int) (sndE_name (.tail _ (.tail _ (.head _))) rfl)) (sndE_bin (sndE_name (.tail _ (.tail _ (.tail _ (.head _)))) rfl) (sndE_bin (sndE_bin (sndE_name (.tail _ (.tail _ (.tail _ (.tail _ (.tail _ (.tail _ (.head _))))))) rfl) sndE_int) sndE_int))) (fun _ => rfl))
  (sndSs_cons (sndS_assignComp (.tail _ (.tail _ (.tail _ (.tail _ (.tail _ (.tail _ (.tail _ (.tail _ (.tail _ (.head _)))))))))) rfl (by decide +kernel) (sndI_value (sndE_name (.tail _ (.head _)) rfl)) (.name (.tail _ (.head _)) rfl) (by decide +kernel) (sndT_one (sndB_boolop (sndBs_or (sndB_cmp (sndE_item (sndE_name (.tail _ (.head _)) rfl) sndE_int (fun _ _ => rfl)) (sndE_name (.tail _ (.tail _ (.head _))) rfl) rfl) (sndBs_or (sndB_cmp (sndE_item (sndE_name (.tail _ (.head _)) rfl) sndE_int (fun _ _ => rfl)) (sndE_name (.tail _ (.tail _ (.tail _ (.head _)))) rfl) rfl) sndBs_or_nil)))) (sndE_item (sndE_name (.tail _ (.head _)) rfl) sndE_int (fun _ _ => rfl)) (fun _ _ => rfl))
  (sndSs_cons (sndS_expr (mAppend (sndE_name (.tail _ (.head _)) rfl) (sndL_cons (sndE_tuple (sndL_cons (sndE_name (.tail _ (.tail _ (.tail _ (.tail _ (.tail _ (.tail _ (.tail _ (.head _)))))))) rfl) (sndL_cons (sndE_name (.tail _ (.tail _ (.tail _ (.tail _ (.tail _ (.tail _ (.tail _ (.tail _ (.head _))))))))) rfl) (sndL_cons (sndE_call (.tail _ (.tail _ (.tail _ (.tail _ (.tail _ (.tail _ (.tail _ (.tail _ (.tail _ (.tail _ (.tail _ (.tail _ (.tail _ (.head _)))))))))))))) (fn_builtin N.n_min sndF_min) (sndL_cons (sndE_comp (by decide +kernel) (sndI_range1 (.tail _ (.tail _ (.tail _ (.tail _ (.tail _ (.tail _ (.tail _ (.tail _ (.tail _ (.tail _ (.tail _ (.tail _ (.tail _ (.tail _ (.head _))))))))))))))) (N.n_range) (sndE_bin (sndE_call (.tail _ (.tail _ (.tail _ (.tail _ (.tail _ (.tail _ (.tail _ (.tail _ (.tail _ (.tail _ (.tail _ (.tail _ (.tail _ (.tail _ (.tail _ (.head _)))))))))))))))) (fn_builtin N.n_len sndF_len) (sndL_cons (sndE_name (.tail _ (.head _)) rfl) sndL_nil) rfl) sndE_int) rfl) (.name (.tail _ (.head _)) rfl) (by decide +kernel) (sndT_one (sndB_cmp (sndE_name (.tail _ (.head _)) rfl) (sndE_name (.tail _ (.tail _ (.head _))) rfl) rfl)) (sndE_name (.tail _ (.head _)) rfl) (fun _ _ => rfl)) sndL_nil) rfl) sndL_nil)))) sndL_nil) rfl rfl rfl rfl) (fun _ => rfl))
  sndSs_nil))))) (fun _ _ => rfl))
  (sndSs_cons (sndS_return (sndE_name (.tail _ (.head _)) rfl))
  sndSs_nil)))))) ?_
  rintro xs σ Q E ⟨ns, rfl, hq⟩
  refine ⟨rfl, ?_⟩
  walk_at "s"
  refine ⟨by simp [Fits], fun b hb => ?_⟩
  walk_at "s"
  refine ⟨by simp [Fits], fun c hc => ⟨ns, 0, rfl, ?_⟩⟩
  simp only [AH.set_same]
  obtain ⟨wd, hwd, hwd'⟩ := pick4 (a := V.int 2) (b := V.int 3) (c := V.int 5) (d := V.int 8) (ns.getD 0 0)
  simp only [hwd]
  refine ⟨by decide, ?_⟩
  walk_at "s"
  refine ⟨by decide, by simp [Fits], fun d hd => ⟨ns, 0, rfl, ?_⟩⟩
  simp only [AH.set_same]
  obtain ⟨fr, hfr, hfr'⟩ := pick4 (a := V.int 0) (b := V.int 0) (c := V.int 0) (d := V.int (10 ^ Int.toNat 20)) ((ns.getD 0 0).fdiv 4)
  simp only [hfr]
  refine ⟨by decide, by decide, ?_⟩
  walk_at "s"
  refine ⟨by simp [Nonneg], by simp [Nonneg], fun e he => ?_⟩
  simp only [AH.set_same]
  refine ⟨fun _ => rfl, ?_⟩
  have hcut : cutV (some 2) (some 32) (List.map V.int ns) = List.map V.int ((ns.take 32).drop 2) := by simp [cutV, takeV, loN, List.map_take, List.map_drop]
  rw [hcut]
  generalize hcs : (ns.take 32).drop 2 = cs
  have hcl : cs.length ≤ 30 := by rw [← hcs]; simp; omega
  have s0 : Sub σ ((((σ.set b (AO.list [])).set c (AO.list [V.int 2, V.int 3, V.int 5, V.int 8])).set d (AO.list [V.int 0, V.int 0, V.int 0, V.int (10 ^ Int.toNat 20)])).set e (AO.list (List.map V.int cs))) := ((((Sub.refl).new hb).new hc).new hd).new he
  have hb0 : ((((σ.set b (AO.list [])).set c (AO.list [V.int 2, V.int 3, V.int 5, V.int 8])).set d (AO.list [V.int 0, V.int 0, V.int 0, V.int (10 ^ Int.toNat 20)])).set e (AO.list (List.map V.int cs))) b = some (.list []) :=
    new_keeps (new_keeps (new_keeps AH.set_same hc) hd) he
  obtain ⟨w, rfl, hw⟩ : ∃ w : Int, wd = .int w ∧ w ≠ 0 := by rcases hwd' with rfl | rfl | rfl | rfl <;> exact ⟨_, rfl, by decide⟩
  obtain ⟨f, rfl⟩ : ∃ f : Int, fr = .int f := by rcases hfr' with rfl | rfl | rfl | rfl <;> exact ⟨_, rfl⟩
  have hbe : b ≠ e := ne_of (new_keeps (new_keeps AH.set_same hc) hd) he
  refine loopT_ind (fun xs ℓ σ' => ∃ (i : Nat) (todo : List Int) (rows : List (List Int)), xs = enumV i (todo.map V.int) ∧ i + todo.length ≤ 30 ∧ rows.length = i ∧ (∀ r ∈ rows, r.length = 3) ∧ ℓ "_law_rows_here" = some (.ref b) ∧ ℓ "_law_wide" = some (.int w) ∧ ℓ "_law_far" = some (.int f) ∧
    Sub σ σ' ∧ σ' b = some (.list (List.map rowV rows)) ∧ σ' e = some (.list (List.map V.int cs))) ?_ ?_ _ _ _ ⟨0, cs, [], rfl, by omega, rfl, by simp, rfl, rfl, rfl, s0, hb0, AH.set_same⟩
  · rintro ℓ σ' ⟨i, todo, rows, h1, h2, h3, h4, h5, h6, h7, h8, h9, h10⟩
    refine ⟨h10, ?_⟩
    simp only
    walk_at "s"
    simp only [h5]
    exact ⟨σ', fun _ _ h => h, hq b rows σ' h8 h9 h4 (by omega)⟩
  · rintro x xs ℓ σ' ih ⟨i, todo, rows, h1, h2, h3, h4, h5, h6, h7, h8, h9, h10⟩
    refine ⟨h10, ?_⟩
    cases todo with
    | nil => simp [enumV] at h1
    | cons cell todo =>
    simp only [List.map_cons, enumV, List.cons.injEq] at h1
    obtain ⟨rfl, rfl⟩ := h1
    simp only [List.length_cons] at h2
    simp only [bindV, partsV, List.length_cons, List.length_nil, true_and, Loc.setAll]
    walk_at "s"
    refine ⟨cell, (i : Int), rfl, by omega, ?_⟩
    walk_at "s"
    simp only [h6, h7]
    refine ⟨hw, by decide, by decide, mul_bit, ?_⟩
    walk_at "s"
    simp only [h6, h7]
    refine ⟨by decide, hw, by decide, by decide, mul_bit, ?_⟩
    generalize mixedOf cell (i : Int) = mx
    generalize mx.fmod w + f * (mx.fdiv 64).fmod 2 = left
    generalize (mx.fdiv 8).fmod w + f * (mx.fdiv 128).fmod 2 = right
    walk_at "s"
    simp only [h5, h9]
    refine ⟨nofun, compT_some rowV (fun r => col 0 r == left || col 1 r == right) (fun r => .int (col 2 r)) h9 rows (fun r hr => ⟨_, fun P h => h, fun Qb h => ?_, fun _ Qv h => ?_⟩) ?_⟩
    · have hr3 := h4 r hr
      walk_at "u"
      simp only [rowV, row0 hr3, row1 hr3, eqD]
      cases e0 : (col 0 r == left) with
      | true => simpa [e0] using h
      | false =>
        cases e1 : (col 1 r == right) with
        | true => simpa [e0, e1] using h
        | false => simpa [e0, e1] using h
    · have hr3 := h4 r hr
      walk_at "u"
      simp only [rowV, row2 hr3]
      exact h
    · intro u hu
      have hmap : List.map (fun r => V.int (col 2 r)) (List.filter (fun r => col 0 r == left || col 1 r == right) rows) = List.map V.int (((rows.filter fun r => col 0 r == left || col 1 r == right)).map (col 2)) := by simp [Function.comp_def]
      rw [hmap]
      generalize htk : ((rows.filter fun r => col 0 r == left || col 1 r == right)).map (col 2) = taken
      have htl : taken.length ≤ i := by rw [← htk, List.length_map, ← h3]; exact List.length_filter_le _ _
      have hb1 : (σ'.set u (.list (List.map V.int taken))) b = some (.list (List.map rowV rows)) := new_keeps h9 hu
      walk_at "s"
      simp only [h5, hb1, List.length_map, h3]
      have hz : ((i : Int) + 1).toNat = i + 1 := by omega
      rw [hz]
      refine ⟨trivial, by omega, by simp [Fits]; omega, nofun, ?_⟩
      have hrg : rangeV 0 (i + 1) = (List.range (i + 1)).map (fun k : Nat => V.int (k : Int)) := by simp [rangeV]
      rw [hrg]
      refine compT_some (fun k : Nat => V.int (k : Int)) (fun k => !decide ((k : Int) ∈ taken)) (fun k : Nat => V.int (k : Int)) trivial (List.range (i + 1)) (fun k hk => ⟨_, fun P h => h, fun Qb h => ?_, fun _ Qv h => h⟩) ?_
      · walk_at "u"
        exact inD_ints AH.set_same h
      · intro v hv
        have hmp : List.map (fun k : Nat => V.int (k : Int)) ((List.range (i + 1)).filter fun k => !decide (((k : Nat) : Int) ∈ taken)) = List.map V.int (((List.range (i + 1)).filter fun k => !decide (((k : Nat) : Int) ∈ taken)).map fun k : Nat => (k : Int)) := by simp [Function.comp_def]
        rw [hmp]
        simp only [listInts, AH.set_same, intsV_map, new_keeps hb1 hv]
        refine ⟨?_, fun m hm hmn => ⟨by simp [Fits], by simp [Fits]; omega, ?_⟩⟩
        · intro q
          exact hue_left i taken htl (List.map_eq_nil_iff.mp q)
        · refine ih _ _ ⟨i + 1, todo, rows ++ [[left, right, m]], rfl, by omega, by simp [h3], ?_, h5, h6, h7, ?_, ?_, ?_⟩
          · intro r hr
            rcases List.mem_append.mp hr with q | q
            · exact h4 r q
            · simp at q; rw [q]; rfl
          · exact ((h8.new hu).new hv).upd hb
          · rw [AH.set_same]; simp [rowV]
          · rw [AH.set_other (Ne.symm hbe)]
            exact new_keeps (new_keeps h10 hu) hv
end Mine

open PySem PySem.W PyProof.Rows Mine
set_option Elab.async false
set_option maxRecDepth 100000
set_option maxHeartbeats 8000000
namespace Mine
variable {g : Gr} {P : Params}
local macro_rules | `(tactic| walk_at "u") => `(tactic| simp only [tSeq, tNop, tRet, tFlow, tDo, tIfS, tAssign, tAssignT, tAssignComp, tFor, tIter, walkV, tRange1, tEnum, tMethod, typeV, tAppend, tCount, tCall, tLen, lenV, tMax, tMin, tListOf, tIsI, isiV, tListComp, tComp, tList, tTuple, tNil, tCons, tConst, tName, tTruth, truthV, tNotB, tAndB, tOrB, tConstB, tCmp, tCmpB, tCmp2B, cmpV, tBin, binV, tNot, tNeg, tIf, tAnd, tOr, tItem, itemV, tSlice, sliceV, boundV, Loc.setAll, Loc.set, Loc.empty, Loc.bare, bindV, String.reduceEq, reduceIte, List.length_cons, List.length_nil])
local macro_rules | `(tactic| walk_at "v") => `(tactic| simp only [tNop, tRet, tFlow, tDo, tIfS, tAssign, tAssignT, tAssignComp, tFor, tIter, walkV, tRange1, tEnum, tMethod, typeV, tAppend, tCount, tCall, tLen, lenV, tMax, tMin, tListOf, tIsI, isiV, tListComp, tComp, tList, tTuple, tNil, tCons, tConst, tName, tTruth, truthV, tNotB, tAndB, tOrB, tConstB, tCmp, tCmpB, tCmp2B, cmpV, tBin, binV, tNot, tNeg, tIf, tAnd, tOr, tItem, itemV, tSlice, sliceV, boundV, Loc.setAll, Loc.set, Loc.empty, Loc.bare, bindV, String.reduceEq, reduceIte, List.length_cons, List.length_nil])
local macro_rules | `(tactic| walk_at "s") => `(tactic| (refine tSeq_intro ?_; walk_at "v"))
theorem f_spoilt (hK : (hd.heap_39 P).In g.b0) (N : N08 g) : SndC g 21 (.ref 59) sSpoilt := by
  refine SndC.mono (sndC_def (r := 20) (ps := ["_law_rows_here", "_law_cell"]) (hK 59 _ rfl) rfl (CodeRec.mk' (hK 58 _ rfl) rfl rfl) rfl (by intro vs h; obtain ⟨a0, a1, rfl⟩ := len2 h; rfl) rfl rfl rfl (by decide +kernel)
    (sndSs_cons (sndS_if (sndB_boolop (sndBs_or (sndB_cmp (sndE_name (.head _) rfl) (sndE_list sndL_nil) rfl) (sndBs_or (sndB_cmp (sndE_bin (sndE_name (.tail _ (.head _)) rfl) sndE_int) sndE_int rfl) sndBs_or_nil))) (sndSs_cons (sndS_return (sndE_name (.head _) rfl))
  sndSs_nil) sndSs_nil)
  (sndSs_cons (sndS_assign (.tail _ (.tail _ (.head _))) rfl (sndE_bin (sndE_bin (sndE_name (.tail _ (.head _)) rfl) sndE_int) (sndE_call (.tail _ (.tail _ (.tail _ (.tail _ (.tail _ (.tail _ (.head _))))))) (fn_builtin N.n_len sndF_len) (sndL_cons (sndE_name (.head _) rfl) sndL_nil) rfl)) (fun _ => rfl))
  (sndSs_cons (sndS_assignT (.cons (.tail _ (.tail _ (.tail _ (.head _)))) rfl (.cons (.tail _ (.tail _ (.tail _ (.tail _ (.head _))))) rfl (.cons (.tail _ (.tail _ (.tail _ (.tail _ (.tail _ (.head _)))))) rfl .nil))) (sndE_item (sndE_name (.head _) rfl) (sndE_name (.tail _ (.tail _ (.head _))) rfl) (fun _ _ => rfl)) (fun _ => rfl) (fun _ => rfl))
  (sndSs_cons (sndS_if (sndB_cmp (sndE_bin (sndE_name (.tail _ (.head _)) rfl) sndE_int) sndE_int rfl) (sndSs_cons (sndS_return (sndE_bin (sndE_bin (sndE_slice (sndE_name (.head _) rfl) sndO_none (sndO_some (sndE_name (.tail _ (.tail _ (.head _))) rfl))) (sndE_list (sndL_cons (sndE_tuple (sndL_cons (sndE_name (.tail _ (.tail _ (.tail _ (.head _)))) rfl) (sndL_cons (sndE_name (.tail _ (.tail _ (.tail _ (.tail _ (.head _))))) rfl) (sndL_cons (sndE_bin (sndE_bin (sndE_name (.tail _ (.head _)) rfl) sndE_int) sndE_int) sndL_nil)))) sndL_nil))) (sndE_slice (sndE_name (.head _) rfl) (sndO_some (sndE_bin (sndE_name (.tail _ (.tail _ (.head _))) rfl) sndE_int)) sndO_none)))
  sndSs_nil) sndSs_nil)
  (sndSs_cons (sndS_if (sndB_cmp (sndE_bin (sndE_name (.tail _ (.head _)) rfl) sndE_int) sndE_int rfl) (sndSs_cons (sndS_return (sndE_bin (sndE_slice (sndE_name (.head _) rfl) sndO_none (sndO_some (sndE_name (.tail _ (.tail _ (.head _))) rfl))) (sndE_slice (sndE_name (.head _) rfl) (sndO_some (sndE_bin (sndE_name (.tail _ (.tail _ (.head _))) rfl) sndE_int)) sndO_none)))
  sndSs_nil) sndSs_nil)
  (sndSs_cons (sndS_return (sndE_bin (sndE_name (.head _) rfl) (sndE_list (sndL_cons (sndE_item (sndE_name (.head _) rfl) (sndE_name (.tail _ (.tail _ (.head _))) rfl) (fun _ _ => rfl)) sndL_nil))))
  sndSs_nil))))))) ?_
  rintro xs σ Q E ⟨a, rows, c, rfl, ha, hr, hl, hq⟩
  refine tFun_k rfl fun K KE kret _ _ => ?_
  simp only [Loc.setAll]
  refine tSeq_k fun K1 k1 r1 _ _ => ?_
  walk_at "v"
  refine ⟨by simp [Fits], fun b hb => ?_⟩
  have same : ∀ σ', Sub σ σ' → K1 (.ret (.ref a)) ((Loc.empty.set "_law_rows_here" (V.ref a)).set "_law_cell" (V.int c)) σ' := fun σ' hs =>
    r1 _ _ _ (kret _ _ _ σ' Sub.refl (hq a rows σ' hs (hs _ _ ha) hr (by omega)))
  refine eqD_rows (rs := rows) (ts := []) (new_keeps ha hb) AH.set_same ?_
  cases he : (rows == []) with
  | true =>
    simp only
    walk_at "u"
    exact same _ (Sub.refl.new hb)
  | false =>
    have hne : rows ≠ [] := fun q => by rw [q] at he; simp at he
    refine ⟨by decide, ?_⟩
    simp only [eqD]
    cases h4 : (c.fmod 4 == 0) with
    | true =>
      simp only
      walk_at "u"
      exact same _ (Sub.refl.new hb)
    | false =>
      refine k1 _ _ ?_
      refine tSeq_k fun K1 k1 r1 _ _ => ?_
      walk_at "v"
      have s1 : Sub σ (σ.set b (AO.list [])) := Sub.refl.new hb
      simp only [s1 _ _ ha, List.length_map]
      have hpos : 0 < rows.length := List.length_pos_iff.mpr hne
      refine ⟨by decide, by omega, ?_⟩
      obtain ⟨at_, hat⟩ : ∃ n : Nat, (c.fdiv 4).fmod (rows.length : Int) = (n : Int) ∧ n < rows.length := by
        have h0 := Int.fmod_nonneg_of_pos (c.fdiv 4) (show (0 : Int) < (rows.length : Int) by omega)
        have h1 := Int.fmod_lt_of_pos (c.fdiv 4) (show (0 : Int) < (rows.length : Int) by omega)
        exact ⟨((c.fdiv 4).fmod (rows.length : Int)).toNat, by omega, by omega⟩
      rw [hat.1]
      refine k1 _ _ ?_
      refine tSeq_k fun K1 k1 r1 _ _ => ?_
      walk_at "v"
      obtain ⟨r, hri⟩ : ∃ r, rows[at_]? = some r := ⟨rows[at_]'hat.2, by simp [hat.2]⟩
      have hrm : r ∈ rows := List.mem_of_getElem? hri
      have hr3 := hr r hrm
      have hatV : atV (List.map rowV rows) (at_ : Int) = some (rowV r) := atV_nat (by simp [hri])
      simp only [s1 _ _ ha, hatV, rowV, partsV, List.length_map, hr3]
      refine ⟨trivial, k1 _ _ ?_⟩
      obtain ⟨x, y, z, rfl⟩ : ∃ x y z, r = [x, y, z] := by
        match r, hr3 with
        | [x, y, z], _ => exact ⟨x, y, z, rfl⟩
      simp only [List.map_cons, List.map_nil, Loc.setAll]
      have hlt := hat.2
      refine tSeq_k fun K1 k1 r1 _ _ => ?_
      walk_at "v"
      refine ⟨by decide, ?_⟩
      simp only [eqD]
      have htake : cutV none (some (at_ : Int)) (List.map rowV rows) = List.map rowV (rows.take at_) := by rw [cut_take, ← List.map_take]
      have hdrop : cutV (some ((at_ : Int) + 1)) none (List.map rowV rows) = List.map rowV (rows.drop (at_ + 1)) := by
        rw [show ((at_ : Int) + 1) = ((at_ + 1 : Nat) : Int) by push_cast; rfl, cut_drop, ← List.map_drop]
      cases h1 : (c.fmod 4 == 1) with
      | true =>
        simp only
        walk_at "u"
        simp only [s1 _ _ ha, htake]
        refine ⟨trivial, by show (0 : Int) ≤ _; omega, fun d1 e1 => ⟨by decide, by decide, by simp [Fits], by simp [Fits], fun d2 e2 => ⟨_, _, new_keeps AH.set_same e2, AH.set_same, by simp [Fits]; omega, fun d3 e3 => ⟨by show (0 : Int) ≤ _; omega, trivial, ?_⟩⟩⟩⟩
        have s3 := ((s1.new (o := .list (List.map rowV (rows.take at_))) e1).new (o := .list [V.tup [V.int x, V.int y, V.int ((c.fdiv 400).fmod 9)]]) e2).new (o := .list (List.map rowV (rows.take at_) ++ [V.tup [V.int x, V.int y, V.int ((c.fdiv 400).fmod 9)]])) e3
        simp only [s3 _ _ ha, hdrop]
        intro d4 e4
        refine ⟨_, _, new_keeps AH.set_same e4, AH.set_same, by simp [Fits]; omega, fun d5 e5 => ?_⟩
        refine r1 _ _ _ (kret _ _ _ _ Sub.refl (hq d5 (rows.take at_ ++ [[x, y, (c.fdiv 400).fmod 9]] ++ rows.drop (at_ + 1)) _ ((s3.new e4).new e5) (by rw [AH.set_same]; simp [rowV]) (fun q hq' => ?_) (by simp; omega)))
        rcases List.mem_append.mp hq' with w | w
        · rcases List.mem_append.mp w with w | w
          · exact hr q (List.mem_of_mem_take w)
          · simp at w; rw [w]; rfl
        · exact hr q (List.mem_of_mem_drop w)
      | false =>
        simp only
        refine k1 _ _ ?_
        refine tSeq_k fun K1 k1 r1 _ _ => ?_
        walk_at "v"
        refine ⟨by decide, ?_⟩
        simp only [eqD]
        cases h2 : (c.fmod 4 == 2) with
        | true =>
          simp only
          walk_at "u"
          simp only [s1 _ _ ha, htake]
          refine ⟨trivial, by show (0 : Int) ≤ _; omega, fun d1 e1 => ⟨by show (0 : Int) ≤ _; omega, trivial, ?_⟩⟩
          have s2 := s1.new (o := .list (List.map rowV (rows.take at_))) e1
          simp only [s2 _ _ ha, hdrop]
          intro d2 e2
          refine ⟨_, _, new_keeps AH.set_same e2, AH.set_same, by simp [Fits]; omega, fun d3 e3 => ?_⟩
          refine r1 _ _ _ (kret _ _ _ _ Sub.refl (hq d3 (rows.take at_ ++ rows.drop (at_ + 1)) _ ((s2.new e2).new e3) (by rw [AH.set_same]; simp) (fun q hq' => ?_) (by simp; omega)))
          rcases List.mem_append.mp hq' with w | w
          · exact hr q (List.mem_of_mem_take w)
          · exact hr q (List.mem_of_mem_drop w)
        | false =>
          simp only
          refine k1 _ _ ?_
          walk_at "u"
          simp only [s1 _ _ ha, hatV]
          refine ⟨by simp [Fits], fun d1 e1 => ⟨_, _, (s1.new e1) _ _ ha, AH.set_same, by simp [Fits]; omega, fun d2 e2 => ?_⟩⟩
          refine kret _ _ _ _ Sub.refl (hq d2 (rows ++ [[x, y, z]]) _ ((s1.new e1).new e2) (by rw [AH.set_same]; simp) (fun q hq' => ?_) (by simp; omega))
          rcases List.mem_append.mp hq' with w | w
          · exact hr q w
          · simp at w; rw [w]; rfl
end Mine

open PySem PySem.W PyProof.Rows Mine
set_option Elab.async false
set_option maxRecDepth 100000
set_option maxHeartbeats 8000000
namespace Mine
variable {g : Gr} {P : Params}
local macro_rules | `(tactic| walk_at "u") => `(tactic| simp only [tSeq, tNop, tRet, tFlow, tDo, tIfS, tAssign, tAssignT, tAssignComp, tFor, tIter, walkV, tRange1, tEnum, tMethod, typeV, tAppend, tCount, tCall, tLen, lenV, tMax, tMin, tListOf, tIsI, isiV, tListComp, tComp, tList, tTuple, tNil, tCons, tConst, tName, tTruth, truthV, tNotB, tAndB, tOrB, tConstB, tCmp, tCmpB, tCmp2B, cmpV, tBin, binV, tNot, tNeg, tIf, tAnd, tOr, tItem, itemV, tSlice, sliceV, boundV, Loc.setAll, Loc.set, Loc.empty, Loc.bare, bindV, String.reduceEq, reduceIte, List.length_cons, List.length_nil])
local macro_rules | `(tactic| walk_at "v") => `(tactic| simp only [tNop, tRet, tFlow, tDo, tIfS, tAssign, tAssignT, tAssignComp, tFor, tIter, walkV, tRange1, tEnum, tMethod, typeV, tAppend, tCount, tCall, tLen, lenV, tMax, tMin, tListOf, tIsI, isiV, tListComp, tComp, tList, tTuple, tNil, tCons, tConst, tName, tTruth, truthV, tNotB, tAndB, tOrB, tConstB, tCmp, tCmpB, tCmp2B, cmpV, tBin, binV, tNot, tNeg, tIf, tAnd, tOr, tItem, itemV, tSlice, sliceV, boundV, Loc.setAll, Loc.set, Loc.empty, Loc.bare, bindV, String.reduceEq, reduceIte, List.length_cons, List.length_nil])
local macro_rules | `(tactic| walk_at "s") => `(tactic| (refine tSeq_intro ?_; walk_at "v"))
theorem f_law (hK : (hd.heap_39 P).In g.b0) (N : N08 g) (F_count_of : FnG g "count_of" 30 sCount) (F_is_good : FnG g "is_good" 30 sDue) (F_law_cell_at : FnG g "_law_cell_at" 30 sCellAt) (F_law_mixed : FnG g "_law_mixed" 30 sMixed)
    (F_law_whole : FnG g "_law_whole" 30 sWhole) (F_law_rows : FnG g "_law_rows" 30 sRows) (F_law_spoilt : FnG g "_law_spoilt" 30 sSpoilt) (F_law_many : FnG g "_law_many" 30 sMany) (F_law_due : FnG g "_law_due" 30 sDue) : SndC g 31 (.ref 74) sLaw := by
  refine SndC.mono (sndC_def (r := 30) (ps := ["_law_script"]) (hK 74 _ rfl) rfl (CodeRec.mk' (hK 73 _ rfl) rfl rfl) rfl (by intro vs h; obtain ⟨a0, rfl⟩ := len1 h; rfl) rfl rfl rfl (by decide +kernel)
    (sndSs_cons (sndS_assign (.tail _ (.head _)) rfl (sndE_call (.tail _ (.tail _ (.tail _ (.tail _ (.tail _ (.head _)))))) F_law_spoilt (sndL_cons (sndE_call (.tail _ (.tail _ (.tail _ (.tail _ (.tail _ (.tail _ (.head _))))))) F_law_rows (sndL_cons (sndE_name (.head _) rfl) sndL_nil) rfl) (sndL_cons (sndE_call (.tail _ (.tail _ (.tail _ (.tail _ (.tail _ (.tail _ (.tail _ (.head _)))))))) F_law_mixed (sndL_cons (sndE_call (.tail _ (.tail _ (.tail _ (.tail _ (.tail _ (.tail _ (.tail _ (.tail _ (.head _))))))))) F_law_cell_at (sndL_cons (sndE_name (.head _) rfl) (sndL_cons sndE_int sndL_nil)) rfl) (sndL_cons sndE_int sndL_nil)) rfl) sndL_nil)) rfl) (fun _ => rfl))
  (sndSs_cons (sndS_assign (.tail _ (.tail _ (.head _))) rfl (sndE_call (.tail _ (.tail _ (.tail _ (.tail _ (.tail _ (.tail _ (.tail _ (.tail _ (.tail _ (.head _)))))))))) (fn_type N.n_list sndF_list) (sndL_cons (sndE_name (.tail _ (.head _)) rfl) sndL_nil) rfl) (fun _ => rfl))
  (sndSs_cons (sndS_for (sndI_range1 (.tail _ (.tail _ (.tail _ (.tail _ (.tail _ (.tail _ (.tail _ (.tail _ (.tail _ (.tail _ (.head _))))))))))) (N.n_range) sndE_int rfl) (.name (.tail _ (.tail _ (.tail _ (.head _)))) rfl) (sndSs_cons (sndS_if (sndB_boolop (sndBs_or (sndB_not (sndB_value (sndE_call (.tail _ (.tail _ (.tail _ (.tail _ (.tail _ (.tail _ (.tail _ (.tail _ (.tail _ (.tail _ (.tail _ (.head _)))))))))))) F_law_whole (sndL_cons (sndE_call (.tail _ (.tail _ (.tail _ (.tail _ (.tail _ (.tail _ (.tail _ (.tail _ (.tail _ (.tail _ (.tail _ (.tail _ (.head _))))))))))))) F_count_of (sndL_cons (sndE_name (.tail _ (.tail _ (.head _))) rfl) sndL_nil) rfl) sndL_nil) rfl) (fun _ _ => rfl))) (sndBs_or (sndB_cmp (sndE_call (.tail _ (.tail _ (.tail _ (.tail _ (.tail _ (.tail _ (.tail _ (.tail _ (.tail _ (.tail _ (.tail _ (.tail _ (.head _))))))))))))) F_count_of (sndL_cons (sndE_name (.tail _ (.tail _ (.head _))) rfl) sndL_nil) rfl) (sndE_call (.tail _ (.tail _ (.tail _ (.tail _ (.tail _ (.tail _ (.tail _ (.tail _ (.tail _ (.tail _ (.tail _ (.tail _ (.tail _ (.head _)))))))))))))) F_law_many (sndL_cons (sndE_name (.tail _ (.head _)) rfl) sndL_nil) rfl) rfl) sndBs_or_nil))) (sndSs_cons (sndS_return sndE_bool)
  sndSs_nil) sndSs_nil)
  (sndSs_cons (sndS_if (sndB_cmp (sndE_call (.tail _ (.tail _ (.tail _ (.tail _ (.tail _ (.tail _ (.tail _ (.tail _ (.tail _ (.tail _ (.tail _ (.tail _ (.head _))))))))))))) F_count_of (sndL_cons (sndE_comp (by decide +kernel) (sndI_value (sndE_name (.tail _ (.head _)) rfl)) (.name (.tail _ (.head _)) rfl) (by decide +kernel) sndT_nil (sndE_slice (sndE_name (.tail _ (.head _)) rfl) sndO_none (sndO_some sndE_int)) (fun _ _ => rfl)) sndL_nil) rfl) (sndE_call (.tail _ (.tail _ (.tail _ (.tail _ (.tail _ (.tail _ (.tail _ (.tail _ (.tail _ (.tail _ (.tail _ (.tail _ (.tail _ (.head _)))))))))))))) F_law_many (sndL_cons (sndE_name (.tail _ (.head _)) rfl) sndL_nil) rfl) rfl) (sndSs_cons (sndS_return sndE_bool)
  sndSs_nil) sndSs_nil)
  (sndSs_cons (sndS_assign (.tail _ (.tail _ (.tail _ (.tail _ (.head _))))) rfl (sndE_call (.tail _ (.tail _ (.tail _ (.tail _ (.tail _ (.tail _ (.tail _ (.tail _ (.tail _ (.tail _ (.tail _ (.tail _ (.tail _ (.tail _ (.head _))))))))))))))) F_is_good (sndL_cons (sndE_name (.tail _ (.tail _ (.head _))) rfl) sndL_nil) rfl) (fun _ => rfl))
  (sndSs_cons (sndS_if (sndB_boolop (sndBs_or (sndB_not (sndB_value (sndE_isinstance (.tail _ (.tail _ (.tail _ (.tail _ (.tail _ (.tail _ (.tail _ (.tail _ (.tail _ (.tail _ (.tail _ (.tail _ (.tail _ (.tail _ (.tail _ (.head _)))))))))))))))) (N.n_isinstance) (.tail _ (.tail _ (.tail _ (.tail _ (.tail _ (.tail _ (.tail _ (.tail _ (.tail _ (.tail _ (.tail _ (.tail _ (.tail _ (.tail _ (.tail _ (.tail _ (.head _))))))))))))))))) (N.n_bool) (sndE_name (.tail _ (.tail _ (.tail _ (.tail _ (.head _))))) rfl) rfl) (fun _ _ => rfl))) (sndBs_or (sndB_cmp (sndE_name (.tail _ (.tail _ (.tail _ (.tail _ (.head _))))) rfl) (sndE_call (.tail _ (.tail _ (.tail _ (.tail _ (.tail _ (.tail _ (.tail _ (.tail _ (.tail _ (.tail _ (.tail _ (.tail _ (.tail _ (.tail _ (.tail _ (.tail _ (.tail _ (.head _)))))))))))))))))) F_law_due (sndL_cons (sndE_name (.tail _ (.head _)) rfl) sndL_nil) rfl) rfl) (sndBs_or (sndB_cmp (sndE_name (.tail _ (.tail _ (.head _))) rfl) (sndE_name (.tail _ (.head _)) rfl) rfl) sndBs_or_nil)))) (sndSs_cons (sndS_return sndE_bool)
  sndSs_nil) sndSs_nil)
  (sndSs_cons (sndS_assign (.tail _ (.head _)) rfl (sndE_slice (sndE_name (.tail _ (.head _)) rfl) sndO_none (sndO_some (sndE_bin (sndE_bin (sndE_call (.tail _ (.tail _ (.tail _ (.tail _ (.tail _ (.tail _ (.tail _ (.tail _ (.tail _ (.tail _ (.tail _ (.tail _ (.tail _ (.tail _ (.tail _ (.tail _ (.tail _ (.tail _ (.head _))))))))))))))))))) (fn_builtin N.n_len sndF_len) (sndL_cons (sndE_name (.tail _ (.head _)) rfl) sndL_nil) rfl) sndE_int) sndE_int))) (fun _ => rfl))
  (sndSs_cons (sndS_assign (.tail _ (.tail _ (.head _))) rfl (sndE_call (.tail _ (.tail _ (.tail _ (.tail _ (.tail _ (.tail _ (.tail _ (.tail _ (.tail _ (.head _)))))))))) (fn_type N.n_list sndF_list) (sndL_cons (sndE_name (.tail _ (.head _)) rfl) sndL_nil) rfl) (fun _ => rfl))
  sndSs_nil)))))) (fun _ _ => rfl))
  (sndSs_cons (sndS_return (sndE_boolop (sndV_and (sndE_cmp (sndE_call (.tail _ (.tail _ (.tail _ (.tail _ (.tail _ (.tail _ (.tail _ (.tail _ (.tail _ (.tail _ (.tail _ (.tail _ (.tail _ (.tail _ (.head _))))))))))))))) F_is_good (sndL_cons (sndE_list sndL_nil) sndL_nil) rfl) sndE_bool rfl) (sndV_one (sndE_cmp (sndE_call (.tail _ (.tail _ (.tail _ (.tail _ (.tail _ (.tail _ (.tail _ (.tail _ (.tail _ (.tail _ (.tail _ (.tail _ (.head _))))))))))))) F_count_of (sndL_cons (sndE_list sndL_nil) sndL_nil) rfl) sndE_int rfl)))))
  sndSs_nil))))) ?_
  rintro xs σ Q E ⟨ns, rfl, hq⟩
  refine tFun_k rfl fun K KE kret _ _ => ?_
  simp only [Loc.setAll]
  refine tSeq_k fun K1 k1 r1 _ _ => ?_
  walk_at "v"
  refine ⟨ns, rfl, fun a0 rows0 σ0 s0 ha0 hr0 hl0 => ⟨ns, 1, rfl, _, _, rfl, by decide, a0, rows0, _, rfl, ha0, hr0, by omega, fun a rows σ1 s1 ha hr hl => k1 _ _ ?_⟩⟩
  replace s1 := s0.trans s1
  clear s0 ha0 hr0 hl0
  refine tSeq_k fun K1 k1 r1 _ _ => ?_
  walk_at "v"
  simp only [partsV, ha]
  intro b hb
  refine k1 _ _ ?_
  refine tSeq_k fun K1 k1 r1 _ _ => ?_
  walk_at "v"
  refine ⟨by decide, by simp [Fits], nofun, ?_⟩
  refine loopT_rangeK (fun i ℓ σ' => ∃ a b rows, ℓ "_law_rows_here" = some (.ref a) ∧ ℓ "_law_handed" = some (.ref b) ∧ σ' a = some (.list (List.map rowV rows)) ∧ σ' b = some (.list (List.map rowV rows)) ∧ (∀ r ∈ rows, r.length = 3) ∧ rows.length ≤ 31 ∧ Sub σ σ') ?_ ?_
    ⟨a, b, rows, rfl, rfl, new_keeps ha hb, AH.set_same, hr, hl, s1.new hb⟩
  · rintro ℓ σ' ⟨a, b, rows, h1, h2, h3, h4, h5, h6, h7⟩
    refine ⟨trivial, k1 _ _ ?_⟩
    walk_at "u"
    refine ⟨by simp [Fits], fun c hc => ⟨c, [], rfl, AH.set_same, by simp, by simp, ?_⟩⟩
    have hd0 : dueOf [] = true := rfl
    rw [hd0]
    refine ⟨by simp [Fits], fun d hd => ⟨d, [], rfl, AH.set_same, by simp, by simp, ?_⟩⟩
    simp only [eqD]
    exact kret _ _ _ σ ((h7.new hc).new hd) hq
  · rintro i ℓ σ' K2 hi k2 r2 _ _ ⟨a, b, rows, h1, h2, h3, h4, h5, h6, h7⟩
    refine ⟨trivial, ?_⟩
    simp only [bindV]
    refine tSeq_k fun K3 k3 r3 _ _ => ?_
    walk_at "v"
    simp only [h1, h2]
    refine ⟨b, rows, rfl, h4, fun r hr => by have := h5 r hr; omega, by omega, _, rfl, ?_⟩
    refine ⟨b, rows, rfl, h4, fun r hr => by have := h5 r hr; omega, by omega, a, rows, rfl, h3, h5, by omega, ?_⟩
    simp only [eqD, beq_self_eq_true, Bool.not_true]
    refine k3 _ _ ?_
    refine tSeq_k fun K3 k3 r3 _ _ => ?_
    walk_at "v"
    simp only [h1, h3]
    refine ⟨nofun, compT_each rowV (fun r => rowV (r.take 2)) h3 rows (fun r hr => ⟨_, fun P h => h, fun Qv h => ?_⟩) fun c hc => ?_⟩
    · walk_at "u"
      simp only [rowV, row_cut2]
      exact ⟨trivial, by simp [Nonneg], h⟩
    · have hm : List.map (fun r => rowV (r.take 2)) rows = List.map rowV (rows.map (·.take 2)) := by simp [Function.comp_def]
      rw [hm]
      refine ⟨c, _, rfl, AH.set_same, fun r hr => ?_, by simp; omega, a, rows, rfl, new_keeps h3 hc, h5, by omega, ?_⟩
      · obtain ⟨r', hr', rfl⟩ := List.mem_map.mp hr
        have := h5 r' hr'; simp; omega
      · rw [manyOf_take]
        simp only [eqD, beq_self_eq_true, Bool.not_true]
        refine k3 _ _ ?_
        generalize hσ : σ'.set c (.list (List.map rowV (rows.map (·.take 2)))) = σ2
        have g3 : σ2 a = some (.list (List.map rowV rows)) := hσ ▸ new_keeps h3 hc
        have g4 : σ2 b = some (.list (List.map rowV rows)) := hσ ▸ new_keeps h4 hc
        have g7 : Sub σ σ2 := hσ ▸ h7.new hc
        refine tSeq_k fun K3 k3 r3 _ _ => ?_
        walk_at "v"
        simp only [h2]
        refine ⟨b, rows, rfl, g4, h5, by omega, k3 _ _ ?_⟩
        refine tSeq_k fun K3 k3 r3 _ _ => ?_
        walk_at "v"
        simp only [h1, h2, Bool.not_true]
        refine ⟨a, rows, rfl, g3, h5, by omega, eqD_bool ?_⟩
        simp only [beq_self_eq_true, Bool.not_true]
        refine eqD_rows g4 g3 ?_
        simp only [beq_self_eq_true, Bool.not_true]
        refine k3 _ _ ?_
        refine tSeq_k fun K3 k3 r3 _ _ => ?_
        walk_at "v"
        simp only [h1, g3, List.length_map]
        refine ⟨by decide, trivial, ?_, fun d hd => k3 _ _ ?_⟩
        · show (0 : Int) ≤ _
          have := Int.fdiv_nonneg (show (0 : Int) ≤ (rows.length : Int) by omega) (show (0 : Int) ≤ 2 by decide)
          omega
        · refine tSeq_k fun K3 k3 r3 _ _ => ?_
          walk_at "v"
          simp only [partsV, AH.set_same]
          intro e he
          refine k3 _ _ (k2 _ _ ?_)
          have hct : ∀ z : Option Int, ∃ n, cutV none z (List.map rowV rows) = List.map rowV (rows.take n) := fun z => by
            cases z with
            | none => exact ⟨rows.length, by simp [cutV, takeV, loN]⟩
            | some z => exact ⟨z.toNat, by simp [cutV, takeV, loN, List.map_take]⟩
          obtain ⟨n, hn⟩ := hct (some ((rows.length : Int).fdiv 2 + 1))
          exact ⟨d, e, rows.take n, rfl, rfl, by rw [new_keeps AH.set_same he, hn], by rw [AH.set_same, hn], fun r hr => h5 r (List.mem_of_mem_take hr), by simp; omega, (g7.new hd).new he⟩
end Mine

open PySem PySem.W PyProof.Rows Mine
set_option Elab.async false
set_option maxRecDepth 100000
set_option maxHeartbeats 8000000
namespace Mine
theorem ns_at {h : Heap} {mg : Str → Option Value} {o : Obj} {es : Array DictEntry} {ep : Nat} {n : Str} {v : Value} (hN : h.Ns mainGlobals mg) (h3 : h.get? mainGlobals = some o) (hd : o.data = .dict es ep) (e : nsFind es n = some v) : mg n = some v := by
  obtain ⟨o', es', ep', ho, hd', hk, hf⟩ := id hN
  rw [h3] at ho; cases ho
  rw [hd] at hd'; cases hd'
  exact (hf _).symm.trans e
theorem vr_script {g : Gr} {h : Heap} {l : Addr} {vs : List Value} {ns : List Int} (hL : g.b0.IsList l vs.toArray) (hI : IntsAre vs ns) (hn : ns.length ≤ 1000) : VRs g h [V.frz (ns.map V.int)] [.ref l] := by
  obtain ⟨o, ho, hc, n, hd⟩ := hL
  refine VRs_cons (VR_frz.mpr ⟨by simp [Fits]; omega, l, o, vs.toArray, n, rfl, ho, hc, hd, ?_⟩) VRs_nil
  clear ho hc hd hn
  show VRs g h _ vs
  induction hI with
  | nil => exact VRs_nil
  | cons n t _ ih => exact VRs_cons (VR_int.mpr ⟨t, rfl⟩) ih
theorem caller_room : Room callerA 31 true := ⟨by decide, by decide, fun _ => rfl⟩
theorem names08 {g : Gr} {P : Params} {mg mb : Str → Option Value} (hK : (hd.heap_39 P).In g.b0) (hN : g.b0.Ns mainGlobals mg) (hB : g.b0.Ns builtinsNs mb) (hb : ∀ x : Str, x ≠ "__name__" → mb x = bootBuiltins x) : N08 g := by
  have h3 := hK mainGlobals _ rfl
  refine ⟨?_, ?_, ?_, ?_, ?_, ?_, ?_, ?_, ?_⟩ <;> exact bui_of hN h3 rfl (by kernel_rfl) hB hb (by decide) (by kernel_rfl)
end Mine
theorem PySem.Challenge.cw_uf040033_08_holds : PySem.Challenge.rw_uf040033_08.Holds := by
  refine Mine.hd ?_
  k_fill
  intro w s₀ s₁ mg mb G Y fa o pm cd doc dV kV ho hd hcd hD hmg hg args vals as hpre hlay hrd hwl hlo
  have KX := kIn_of Y
  refine Ground.open G ?_
  intro T B D TE TW
  try (refine guard_noD D (by decide +kernel) ?_; clear D)
  wrow_args hpre hlay hrd hwl hlo
  first | refine callC_kw (enter_call ?_) | refine enter_call ?_ | refine callC_kw (enter_callW ?_) | refine enter_callW ?_
  w_top on
  try refine codeAny_mono ?_ (fun _ _ g => GoodW.toG g)
  rename_i ns hs hlay0 hL1 hr1 hl2 as1 as2 l vs as3 hL ra w1 r0 hI hr hc1 hc2
  have hlen : ns.length ≤ 63 := by omega
  let g : Gr := ⟨PySem.Challenge.rw_uf040033_08.row.prog, w, s₁.heap, fun _ => False⟩
  have hK : (Mine.hd.heap_39 w.params).In g.b0 := KX
  have h3 := hK mainGlobals _ rfl
  have hfa : fa = 74 := by
    have e := ns_at (n := Str.ofString "law") (v := .ref 74) T.g h3 rfl (by kernel_rfl)
    have e2 : mg (Str.ofString "law") = some (.ref fa) := hmg
    rw [e] at e2
    injection e2 with e2
    injection e2 with e2
    exact e2.symm
  subst hfa
  have N : N08 g := names08 hK T.g T.b T.builtins
  have K : ∀ {n : String} {v : Value} {o : Obj} {es : Array DictEntry} {ep : Nat}, g.b0.get? mainGlobals = some o → o.data = .dict es ep → nsFind es (Str.ofString n) = some v → Known g n v := fun h hd e => glo_of T.g h hd e
  have F1 : FnG g "count_of" 11 sCount := fn_def (K h3 rfl (by kernel_rfl)) (hK 19 _ rfl) rfl (f_count_of hK N).toF
  have F2 : FnG g "_law_cell_at" 11 sCellAt := fn_def (K h3 rfl (by kernel_rfl)) (hK 33 _ rfl) rfl (f_cell_at hK N).toF
  have F3 : FnG g "_law_mixed" 11 sMixed := fn_def (K h3 rfl (by kernel_rfl)) (hK 40 _ rfl) rfl (f_mixed hK N).toF
  have F4 : FnG g "_law_whole" 11 sWhole := fn_def (K h3 rfl (by kernel_rfl)) (hK 47 _ rfl) rfl (f_whole hK N).toF
  have F5 : FnG g "_law_many" 11 sMany := fn_def (K h3 rfl (by kernel_rfl)) (hK 64 _ rfl) rfl (f_many hK N).toF
  have F6 : FnG g "is_good" 21 sDue := fn_def (K h3 rfl (by kernel_rfl)) (hK 26 _ rfl) rfl (f_is_good hK N (F1.le (by decide))).toF
  have F7 : FnG g "_law_due" 21 sDue := fn_def (K h3 rfl (by kernel_rfl)) (hK 69 _ rfl) rfl (f_due hK N (F5.le (by decide))).toF
  have F8 : FnG g "_law_rows" 21 sRows := fn_def (K h3 rfl (by kernel_rfl)) (hK 52 _ rfl) rfl (f_rows hK N (F2.le (by decide)) (F3.le (by decide))).toF
  have F9 : FnG g "_law_spoilt" 21 sSpoilt := fn_def (K h3 rfl (by kernel_rfl)) (hK 59 _ rfl) rfl (f_spoilt hK N).toF
  have L := f_law hK N (F1.le (by decide)) (F6.le (by decide)) (F2.le (by decide)) (F3.le (by decide)) (F4.le (by decide)) (F8.le (by decide)) (F9.le (by decide)) (F5.le (by decide)) (F7.le (by decide))
  have Gk : GOk g := ⟨T.nolimit, T.seer (by decide +kernel), rfl⟩
  have R0 : Rel g s₁.heap (fun _ => none) := ⟨fun _ h => h.elim, fun _ _ h => h, fun _ _ h => nomatch h⟩
  refine codeAny_mono (L.run callerA s₁ (fun _ => none) [.frz (ns.map V.int)] [.ref l] (fun v _ => v = .bool true) (fun _ _ => False) Gk ⟨[], rfl, trivial, fun _ h => nomatch h⟩ caller_room R0 (vr_script hL hI (by omega)) ⟨ns, rfl, rfl⟩) fun r s' p => ?_
  match r, p with
  | .ok (.ret v), p =>
    obtain ⟨x, σ', hv, hR, hx, hsm, rfl⟩ := p
    rw [VR_bool.mp hv]
    exact ⟨.inl ⟨.bool true, .bool true, [], rfl, fun _ => rfl, .bool true, (by wrow_post), fun _ => ⟨List.nodup_nil, fun _ h => nomatch h⟩⟩, hR.base, hsm.2.1, hsm.1.trans hg⟩
  | .error e, p => obtain ⟨_, _, h, _⟩ := p; exact h.elim
