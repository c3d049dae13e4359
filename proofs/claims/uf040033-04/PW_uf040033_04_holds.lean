import PyProof.Rows.All
import Wide.All
import OpenK.KLine
import Open.Boot
import PyProof.DictRoads
import PyProof.DictRoadsH
import PyProof.DictIter
import PyProof.CompFree
import PyProof.ForAny
import PyProof.DefCall
import PyProof.RaisesMany
import PyProof.Rules3
import PyProof.Ns1
import PyProof.Cells
import PyProof.NoPylong
import PyProof.Rows.TupAssign
import PyProof.WalksPairs
import PyProof.WalksMore
import PyProof.EnumStmt
import PyProof.DictWalks
import PyProof.RangeIter
import PyProof.PlainList
import PyProof.CompMap
import PyProof.CompUse
import PyProof.MinMaxWalk
import PyProof.WalkInts
import PyProof.IsiPairs
import PyProof.CallRoads
import PyProof.ListCopy
import PyProof.RangeFor
import PyProof.IsiHeapPairs
import PyProof.AssignAttr
import OpenK.KMake
import OpenK.KCls
import OpenK.KWalk
import PyProof.ListIndex
import PyProof.MeetsDict
import PyProof.DictValues
import PyProof.ListRange
import PyProof.ListMulAny
import PyProof.ListMulRoad
import PyProof.Rows.ListMulArg
import PyProof.Rows.SetFrom
import PyProof.DictDisplay
import PyProof.MeetsDictList
import KE.KDictSum
import KE.KDictOf
import PyProof.AttrMissHeap
import KE.KEqDict
import PyProof.Conv_int_bool
import PyProof.ConsumeWalk
import PyProof.ZipIter
import PySem.Challenge.RW_uf040033_04
set_option Elab.async false
set_option linter.all false
set_option maxRecDepth 100000
set_option maxHeartbeats 8000000
set_option genSizeOf false
set_option genInjectivity false
set_option backward.eqns.nonrecursive false
namespace Mine
inductive LN where
  | n (k : Nat)
  | v (i : Nat)
  | a (x y : LN)
  | m (k : Nat) (x : LN)
inductive LI where
  | n (k : Int)
  | v (i : Nat)
  | c (x : LN)
  | a (x y : LI)
  | s (x y : LI)
  | g (x : LI)
  | m (k : Int) (x : LI)
inductive LC where
  | l (x y : LI)
  | L (x y : LN)
noncomputable def LC.t (x y : LI) : LC := .l (.a x (.n 1)) y
noncomputable def LC.T (x y : LN) : LC := .L (.a x (.n 1)) y
noncomputable def Zsi {α : Type} (d : α) (l : List α) : Nat → α := List.rec (fun _ => d) (fun x _ ih i => Nat.rec x (fun j _ => ih j) i) l
noncomputable def LN.den (τ : List Nat) (x : LN) : Nat := LN.rec (fun k => k) (fun i => Zsi 0 τ i) (fun _ _ p q => p + q) (fun k _ p => k * p) x
noncomputable def LI.den (ρ : List Int) (τ : List Nat) (x : LI) : Int := LI.rec (fun k => k) (fun i => Zsi 0 ρ i) (fun x => (x.den τ : Nat)) (fun _ _ p q => p + q) (fun _ _ p q => p - q) (fun _ p => - p) (fun k _ p => k * p) x
noncomputable def LC.den (ρ : List Int) (τ : List Nat) (c : LC) : Prop := LC.rec (fun x y => x.den ρ τ ≤ y.den ρ τ) (fun x y => x.den τ ≤ y.den τ) c
noncomputable def Zd1 (l : List Int) : List Int → Int := List.rec (fun _ => 0) (fun x _ ih zs => List.rec 0 (fun z zs _ => x * z + ih zs) zs) l
noncomputable def Zud (l : List Int) : List Int → List Int := List.rec (fun ys => ys) (fun x xs ih ys => List.rec (x :: xs) (fun y ys _ => (x + y) :: ih ys) ys) l
noncomputable def Zub (i : Nat) : List Int := Nat.rec [1] (fun _ r => 0 :: r) i
theorem Z12 (a b c d : Int) : (a + b) + (c + d) = (a + c) + (b + d) := by omega
theorem Zl4 (xs : List Int) : ∀ ys zs, Zd1 (Zud xs ys) zs = Zd1 xs zs + Zd1 ys zs := by
  induction xs with
  | nil => intro ys zs; exact (Int.zero_add _).symm
  | cons x xs ih =>
    intro ys zs
    cases ys with
    | nil => exact (Int.add_zero _).symm
    | cons y ys =>
      cases zs with
      | nil => rfl
      | cons z zs =>
        show (x + y) * z + Zd1 (Zud xs ys) zs = (x * z + Zd1 xs zs) + (y * z + Zd1 ys zs)
        rw [ih, Int.add_mul, Z12]
theorem Zl3 (k : Int) (xs : List Int) : ∀ zs, Zd1 (xs.map (k * ·)) zs = k * Zd1 xs zs := by
  induction xs with
  | nil => intro zs; exact (Int.mul_zero k).symm
  | cons x xs ih =>
    intro zs
    cases zs with
    | nil => exact (Int.mul_zero k).symm
    | cons z zs =>
      show k * x * z + Zd1 (xs.map (k * ·)) zs = k * (x * z + Zd1 xs zs)
      rw [ih, Int.mul_add, Int.mul_assoc]
theorem Zl2 (i : Nat) : ∀ zs, Zd1 (Zub i) zs = Zsi 0 zs i := by
  induction i with
  | zero => intro zs; cases zs with
    | nil => rfl
    | cons z zs => show 1 * z + Zd1 [] zs = z; exact (Int.add_zero _).trans (Int.one_mul z)
  | succ i ih => intro zs; cases zs with
    | nil => rfl
    | cons z zs => show 0 * z + Zd1 (Zub i) zs = Zsi 0 zs i; rw [ih, Int.zero_mul, Int.zero_add]
theorem Zpf (τ : List Nat) : ∀ i, ((Zsi 0 τ i : Nat) : Int) = Zsi 0 (τ.map Int.ofNat) i := by
  induction τ with
  | nil => intro i; rfl
  | cons t τ ih => intro i; cases i with
    | zero => rfl
    | succ i => exact ih i
structure LF where
  p : List Int
  q : List Int
  k : Int
noncomputable def LF.val (f : LF) (ρ : List Int) (τ : List Nat) : Int := Zd1 f.p ρ + Zd1 f.q (τ.map Int.ofNat) + f.k
noncomputable def LF.add (f h : LF) : LF := ⟨Zud f.p h.p, Zud f.q h.q, f.k + h.k⟩
noncomputable def LF.mul (k : Int) (f : LF) : LF := ⟨f.p.map (k * ·), f.q.map (k * ·), k * f.k⟩
section
variable (ρ : List Int) (τ : List Nat)
theorem Zbp (f h : LF) : (f.add h).val ρ τ = f.val ρ τ + h.val ρ τ := by
  show Zd1 (Zud f.p h.p) ρ + Zd1 (Zud f.q h.q) _ + (f.k + h.k) = (Zd1 f.p ρ + Zd1 f.q _ + f.k) + (Zd1 h.p ρ + Zd1 h.q _ + h.k)
  rw [Zl4, Zl4, Z12 (Zd1 f.p ρ), Z12]
theorem Za7 (k : Int) (f : LF) : (f.mul k).val ρ τ = k * f.val ρ τ := by
  show Zd1 (f.p.map (k * ·)) ρ + Zd1 (f.q.map (k * ·)) _ + k * f.k = k * (Zd1 f.p ρ + Zd1 f.q _ + f.k)
  rw [Zl3, Zl3, Int.mul_add, Int.mul_add]
noncomputable def LN.nf (x : LN) : LF := LN.rec (fun k => ⟨[], [], k⟩) (fun i => ⟨[], Zub i, 0⟩) (fun _ _ p q => p.add q) (fun k _ p => p.mul k) x
theorem LN.nf_val (x : LN) : x.nf.val ρ τ = (x.den τ : Nat) := by
  induction x with
  | n k => exact Int.zero_add _
  | v i => show 0 + Zd1 (Zub i) (τ.map Int.ofNat) + 0 = ((Zsi 0 τ i : Nat) : Int); rw [Int.add_zero, Int.zero_add, Zl2, Zpf]
  | a x y p q => exact (Zbp ρ τ x.nf (y.nf)).trans (by rw [p, q]; rfl)
  | m k x p => exact (Za7 ρ τ _ x.nf).trans (by rw [p]; rfl)
noncomputable def LI.nf (x : LI) : LF := LI.rec (fun k => ⟨[], [], k⟩) (fun i => ⟨Zub i, [], 0⟩) (fun x => x.nf) (fun _ _ p q => p.add q) (fun _ _ p q => p.add (q.mul (-1))) (fun _ p => p.mul (-1)) (fun k _ p => p.mul k) x
theorem LI.nf_val (x : LI) : x.nf.val ρ τ = x.den ρ τ := by
  induction x with
  | n k => exact Int.zero_add _
  | v i => show Zd1 (Zub i) ρ + 0 + 0 = Zsi 0 ρ i; rw [Int.add_zero, Int.add_zero, Zl2]
  | c x => exact LN.nf_val ρ τ x
  | a x y p q => exact (Zbp ρ τ x.nf y.nf).trans (by rw [p, q]; rfl)
  | s x y p q => exact (Zbp ρ τ x.nf (y.nf.mul (-1))).trans (by rw [Za7, p, q, Int.neg_mul, Int.one_mul]; rfl)
  | g x p => exact (Za7 ρ τ _ x.nf).trans (by rw [p, Int.neg_mul, Int.one_mul]; rfl)
  | m k x p => exact (Za7 ρ τ _ x.nf).trans (by rw [p]; rfl)
noncomputable def LC.nf (c : LC) : LF := LC.rec (fun x y => y.nf.add (x.nf.mul (-1))) (fun x y => y.nf.add (x.nf.mul (-1))) c
theorem LC.nf_val (c : LC) (h : c.den ρ τ) : 0 ≤ c.nf.val ρ τ := by
  cases c with
  | l x y => show 0 ≤ (y.nf.add (x.nf.mul (-1))).val ρ τ; rw [Zbp, Za7, LI.nf_val, LI.nf_val, Int.neg_mul, Int.one_mul]; exact Int.sub_nonneg_of_le h
  | L x y => show 0 ≤ (y.nf.add (x.nf.mul (-1))).val ρ τ; rw [Zbp, Za7, LN.nf_val, LN.nf_val, Int.neg_mul, Int.one_mul]; exact Int.sub_nonneg_of_le (Int.ofNat_le.2 h)
theorem Zpj (xs : List Int) : ∀ ρ, xs.all (· == 0) = true → Zd1 xs ρ = 0 := by
  induction xs with
  | nil => intro ρ _; rfl
  | cons x xs ih => intro ρ h; cases ρ with
    | nil => rfl
    | cons z ρ =>
      have h := Bool.and_eq_true_iff.1 h
      show x * z + Zd1 xs ρ = 0
      rw [ih ρ h.2, eq_of_beq h.1, Int.zero_mul]; rfl
theorem Zro (xs : List Int) : ∀ τ : List Nat, xs.all (decide <| · ≤ 0) = true → Zd1 xs (τ.map Int.ofNat) ≤ 0 := by
  induction xs with
  | nil => intro τ _; exact Int.le_refl _
  | cons x xs ih => intro τ h; cases τ with
    | nil => exact Int.le_refl _
    | cons z τ =>
      have h := Bool.and_eq_true_iff.1 h
      exact Int.add_nonpos (Int.mul_nonpos_of_nonpos_of_nonneg (of_decide_eq_true h.1) (Int.natCast_nonneg z)) (ih τ h.2)
noncomputable def Z4p (f : LF) : Bool := f.p.all (· == 0) && (f.q.all (decide <| · ≤ 0) && decide (f.k < 0))
noncomputable def Z2r (cs : List (Nat × LC)) : LF → Bool := List.rec Z4p (fun c _ ih f => ih (f.add (c.2.nf.mul c.1))) cs
noncomputable def Z2s (cs : List (Nat × LC)) : Prop := List.rec False (fun c _ ih => c.2.den ρ τ → ih) cs
theorem Ztn (cs : List (Nat × LC)) : ∀ f : LF, 0 ≤ f.val ρ τ → Z2r cs f = true → Z2s ρ τ cs := by
  induction cs with
  | nil =>
    intro f h e
    have e1 := Bool.and_eq_true_iff.1 e
    have e2 := Bool.and_eq_true_iff.1 e1.2
    refine absurd h (Int.not_le.2 ?_)
    show Zd1 f.p ρ + Zd1 f.q _ + f.k < 0
    rw [Zpj _ _ e1.1, Int.zero_add]
    exact Int.lt_of_le_of_lt (Int.add_le_add_right (Zro f.q τ e2.1) f.k) (by rw [Int.zero_add]; exact of_decide_eq_true e2.2)
  | cons c cs ih => intro f h e hc; exact ih _ (by rw [Zbp, Za7]; exact Int.add_nonneg h (Int.mul_nonneg (Int.natCast_nonneg _) (LC.nf_val ρ τ _ hc))) e
theorem far (cs : List (Nat × LC)) (h : Z2r cs ⟨[], [], 0⟩ = true) : Z2s ρ τ cs := Ztn ρ τ cs _ (Int.le_refl _) h
end
noncomputable def n0 : LN := .v 0
noncomputable def i0 : LI := .v 0
noncomputable def n1 : LN := .v 1
noncomputable def i1 : LI := .v 1
noncomputable def n2 : LN := .v 2
noncomputable def i2 : LI := .v 2
noncomputable def n3 : LN := .v 3
noncomputable def i3 : LI := .v 3
noncomputable def n4 : LN := .v 4
noncomputable def i4 : LI := .v 4
noncomputable def n5 : LN := .v 5
noncomputable def i5 : LI := .v 5
noncomputable def n6 : LN := .v 6
noncomputable def i6 : LI := .v 6
theorem Zc8 {a b : Nat} (h : ¬b ≤ a) : a < b := Nat.not_le.1 h
theorem Xa {a b : Nat} (h : ¬b < a) : a ≤ b := Nat.not_lt.1 h
theorem Zkw {a b : Int} (h : ¬b ≤ a) : a < b := Int.not_le.1 h
theorem Zao {a b : Int} (h : ¬b < a) : a ≤ b := Int.not_lt.1 h
theorem Z4m {a : Int} {b : Nat} (h0 : a < 0) (h1 : 0 ≤ a + (b : Int) ∧ a + (b : Int) < (b : Int)) : (Int.toNat (a + (b : Int))) < b := by clear h0; omega
theorem Z4l {b : Int} {a : Nat} (h0 : 0 ≤ b + (a : Int) ∧ b + (a : Int) < (a : Int)) : (-(a : Int)) ≤ b := Zao fun z => far [b] [a] [(1, .l (.n 0) (.a i0 (.c n0))), (1, .t i0 (.g (.c n0)))] rfl h0.1 z
theorem Z4k {a : Int} {b : Nat} (h0 : ¬(a < 0)) (h1 : 0 ≤ a ∧ a < (b : Int)) : (Int.toNat a) < b := by omega
theorem Z4i {a : Int} {b c : Nat} (h0 : b = c) (h1 : b ≤ 1000000) (h2 : (Int.toNat a) < b) : a < 9223372036854775808 := by omega
theorem Z4h {a : Int} {b c : Nat} (h0 : b = c) (h1 : b ≤ 1000000) (h2 : (-(b : Int)) ≤ a) : (-9223372036854775808) ≤ a := Zao fun z => far [a] [b] [(1, .L n0 (.n 1000000)), (1, .l (.g (.c n0)) i0), (1, .t i0 (.g (.n 9223372036854775808)))] rfl h1 h2 z
theorem Z4g {a : Int} {b c d : Nat} (h0 : b = c) (h1 : 0 ≤ a ∧ d = (Int.toNat a) ∨ a < 0 ∧ (-(b : Int)) ≤ a ∧ d = (Int.toNat (a + (b : Int)))) (h2 : b ≤ 1000000) : (-9223372036854775808) ≤ a := by omega
theorem Z4f {a : Int} {b c d : Nat} (h0 : b = c) (h1 : d < b) (h2 : 0 ≤ a ∧ d = (Int.toNat a) ∨ a < 0 ∧ (-(b : Int)) ≤ a ∧ d = (Int.toNat (a + (b : Int)))) (h3 : b ≤ 1000000) : a < 9223372036854775808 := by omega
theorem Z4e {a : Int} {b c : Nat} : (min ((Int.toNat a)) b) - c ≤ b := Nat.le_trans (Nat.sub_le _ _) (Nat.min_le_right _ _)
theorem Z4d : ¬(1 < (0 : Int)) := fun z => far [] [] [(1, .t (.n 1) (.n 0))] rfl z
theorem Z39 {a : Int} {b c d e : Nat} (h0 : b = c) (h1 : d - e = b) : (min ((Int.toNat a)) b) ≤ b := by omega
theorem Z37 {b : Int} {a c : Nat} (h0 : a = c) (h1 : (min ((Int.toNat b)) a) - 0 = a) : a ≤ (Int.toNat b) := Nat.le_trans (Nat.le_of_eq h1.symm) (Nat.min_le_left _ _)
theorem Z3z {a : Int} {b : Nat} : a + ((b : Int) + 1) = a + (b : Int) + 1 := Int.le_antisymm (Zao fun z => far [a] [b] [(1, .t (.a (.a i0 (.c n0)) (.n 1)) (.a i0 (.a (.c n0) (.n 1))))] rfl z) (Zao fun z => far [a] [b] [(1, .t (.a i0 (.a (.c n0) (.n 1))) (.a (.a i0 (.c n0)) (.n 1)))] rfl z)
theorem Z1v {a b : Int} {c d : Nat} (h0 : c + 1 < d) (h1 : c = d) : a = b := Int.le_antisymm (Zao fun z => far [] [c, d] [(1, .T (.a n0 (.n 1)) n1), (1, .L n1 n0)] rfl h0 (Nat.le_of_eq h1.symm)) (Zao fun z => far [] [c, d] [(1, .T (.a n0 (.n 1)) n1), (1, .L n1 n0)] rfl h0 (Nat.le_of_eq h1.symm))
theorem Z1u {a b : Int} {c d : Nat} (h0 : c + 1 = d) (h1 : c = d) : a = b := Int.le_antisymm (Zao fun z => far [] [c, d] [(1, .L (.a n0 (.n 1)) n1), (1, .L n1 n0)] rfl (Nat.le_of_eq h0) (Nat.le_of_eq h1.symm)) (Zao fun z => far [] [c, d] [(1, .L (.a n0 (.n 1)) n1), (1, .L n1 n0)] rfl (Nat.le_of_eq h0) (Nat.le_of_eq h1.symm))
theorem Z1t (h0 : 0 < (0 : Nat)) : False := far [] [] [(1, .T (.n 0) (.n 0))] rfl h0
theorem Z1j (h0 : (0 + 1) % 2 = (0 % 2 : Nat)) : False := by omega
theorem Zu7 {a : Int} {b : Nat} (h0 : 0 ≤ a) (h1 : a < (b : Int)) : (Int.toNat a) < b := by omega
theorem Z1a {a : Int} {b c : Nat} (h0 : c ≤ b) (h1 : a < (c : Int)) : a < (b : Int) := Zkw fun z => far [a] [b, c] [(1, .L n1 n0), (1, .t i0 (.c n1)), (1, .l (.c n0) i0)] rfl h0 h1 z
theorem Z09 {b c : Int} {a : Nat} (h0 : b < c) (h1 : b = c) : a ≤ 1 := Xa fun z => far [b, c] [] [(1, .t i0 i1), (1, .l i1 i0)] rfl h0 (Int.le_of_eq h1.symm)
theorem Z06 {a : Int} {b c : Nat} (h0 : b = c) (h1 : a < (c : Int)) : a < (b : Int) := Zkw fun z => far [a] [b, c] [(1, .L n1 n0), (1, .t i0 (.c n1)), (1, .l (.c n0) i0)] rfl (Nat.le_of_eq h0.symm) h1 z
theorem Z05 {a : Int} {b c : Nat} (h0 : b ≤ c) (h1 : c ≤ b + 1) (h2 : b < c) (h3 : a < (c : Int)) : a ≤ (b : Int) := Zao fun z => far [a] [b, c] [(1, .L n1 (.a n0 (.n 1))), (1, .t i0 (.c n1)), (1, .t (.c n0) i0)] rfl h1 h3 z
theorem Z04 {a : Int} {b : Nat} (h0 : a ≤ (b : Int)) (h1 : a ≠ (b : Int)) : a < (b : Int) := by omega
theorem Zu5 {a : Int} {b : Nat} (h0 : a < (b : Int)) : a ≤ (b : Int) := Zao fun z => far [a] [b] [(1, .t i0 (.c n0)), (1, .t (.c n0) i0)] rfl h0 z
theorem Zu4 {b : Int} {a : Nat} (h0 : 0 ≤ b) (h1 : (a : Int) ≤ b) : a ≤ (Int.toNat b) := by omega
theorem Z0z {b : Int} {a : Nat} (h0 : 0 ≤ b) (h1 : (a : Int) = b) : a = (Int.toNat b) := by omega
theorem Z0v {e f i : Int} {a b c d : Nat} (h0 : c ≠ d ∧ e < f) (h1 : e = i) (h2 : f = i) : a ≠ b := fun z => far [e, f, i] [] [(1, .t i0 i1), (1, .l i2 i0), (1, .l i1 i2)] rfl h0.2 (Int.le_of_eq h1.symm) (Int.le_of_eq h2)
theorem Z0u {b : Int} {a : Nat} (h0 : 0 ≤ b) (h1 : a ≤ 3 + (Int.toNat b)) : a + 1 ≤ 3 + (Int.toNat (b + 1)) := by rw [Int.toNat_add h0 (by decide)]; exact Nat.succ_le_succ h1
theorem Z0r {a : Int} {b : Nat} : a + 1 + (b : Int) = a + ((b + 1 : Nat) : Int) := Int.le_antisymm (Zao fun z => far [a] [b] [(1, .t (.a i0 (.c (.a n0 (.n 1)))) (.a (.a i0 (.n 1)) (.c n0)))] rfl z) (Zao fun z => far [a] [b] [(1, .t (.a (.a i0 (.n 1)) (.c n0)) (.a i0 (.c (.a n0 (.n 1)))))] rfl z)
theorem Z0h {a : Int} {b : Nat} (h0 : 0 ≤ a ∧ a < (b : Int)) (h1 : a = (b : Int)) : False := far [a] [b] [(1, .t i0 (.c n0)), (1, .l (.c n0) i0)] rfl h0.2 (Int.le_of_eq h1.symm)
theorem Zz9 {a : Int} {b c : Nat} (h0 : 0 ≤ a) (h1 : a ≤ 8) (h2 : 8 = (Int.toNat a) + c) : a ≤ (((Int.toNat a) + b : Nat) : Int) := by clear h2 h1 h0; omega
theorem Zz8 {b : Int} {a c : Nat} (h0 : 8 = (Int.toNat b) + c) (h1 : a < (Int.toNat b)) : (a : Int) < b := by omega
theorem Zz4 {a : Int} {b c : Nat} (h0 : b ≤ 1000 * c) (h1 : (Int.toNat a) ≤ 1000) : (Int.toNat a) + b ≤ 1000 * (c + 1) := by omega
theorem Zz2 {b : Int} {a c : Nat} (h0 : 0 ≤ b ∧ b ≤ 1000) (h1 : a ≤ 1000 * c) (h2 : c ≤ 2) : a + 1 + (Int.toNat b) ≤ 1000000 := by omega
theorem Zzn {b : Int} {a : Nat} (h0 : b < 1000) (h1 : 0 ≤ b ∧ b ≤ 1000) (h2 : a ≤ 3 + (Int.toNat b)) : a + 1 ≤ 1000000 := by omega
theorem Zzf {a b c d e f i x7 x8 : Int} (h0 : c = d ∧ e = f ∧ b = i) (h1 : b = x7 + 1) (h2 : x8 = a) (h3 : x8 < x7) : a < b := Zkw fun z => far [a, b, x7, x8] [] [(1, .l (.a i2 (.n 1)) i1), (1, .l i0 i3), (1, .t i3 i2), (1, .l i1 i0)] rfl (Int.le_of_eq h1.symm) (Int.le_of_eq h2.symm) h3 z
theorem Zze {a b c d e f i x7 x8 x9 x10 x11 : Int} (h0 : c = d ∧ e = f ∧ b = i) (h1 : b = x7 + 1) (h2 : a = x7 ∧ x8 = x9 ∧ x10 = x11) : a < b := Zkw fun z => far [a, b, x7] [] [(1, .l (.a i2 (.n 1)) i1), (1, .l i0 i2), (1, .l i1 i0)] rfl (Int.le_of_eq h1.symm) (Int.le_of_eq h2.1) z
theorem Zy9 {a : Int} {b : Nat} (h0 : a < (b : Int)) : ¬(a = (b : Int)) := fun z => far [a] [b] [(1, .t i0 (.c n0)), (1, .l (.c n0) i0)] rfl h0 (Int.le_of_eq z.symm)
theorem Zyo {a c : Int} {b : Nat} (h0 : (b : Int) = c) (h1 : a < ((b + 1 : Nat) : Int)) (h2 : a ≠ c) : a < (b : Int) := by omega
theorem Zyn {c : Int} {a b d : Nat} (h0 : (b : Int) = c) (h1 : a ≤ b * 10000 + d * 100) (h2 : d ≤ 100) : a ≤ (b + 1) * 10000 := by omega
theorem Zym {d : Int} {a b c e : Nat} (h0 : (b : Int) = d) (h1 : a ≤ b * 10000 + c * 100 + e) (h2 : e ≤ 100) : a ≤ b * 10000 + (c + 1) * 100 := by omega
theorem Zyl {c : Int} {a b d e : Nat} (h0 : b < 2) (h1 : (b : Int) = c) (h2 : d < 100) (h3 : a ≤ b * 10000 + d * 100 + e) (h4 : e < 100) : a + 1 ≤ 1000000 := by omega
theorem Zyk {e : Int} {a b c d : Nat} (h0 : (b : Int) = e) (h1 : a ≤ b * 10000 + c * 100 + d) : a + 1 ≤ b * 10000 + c * 100 + (d + 1) := by omega
theorem Zyj {b : Int} {a c : Nat} (h0 : b ≤ (a : Int)) (h1 : b = (c : Int)) (h2 : a ≤ c) : (a : Int) = b := Int.le_antisymm (Zao fun z => far [b] [a, c] [(1, .l (.c n1) i0), (1, .L n0 n1), (1, .t i0 (.c n0))] rfl (Int.le_of_eq h1.symm) h2 z) (Zao fun z => far [b] [a] [(1, .l i0 (.c n0)), (1, .t (.c n0) i0)] rfl h0 z)
theorem Zx9 {b : Int} {a : Nat} (h0 : (a : Int) ≤ b) (h1 : 1 ≤ b ∧ b < 64) : a < 64 := Zc8 fun z => far [b] [a] [(1, .l (.c n0) i0), (1, .t i0 (.n 64)), (1, .L (.n 64) n0)] rfl h0 h1.2 z
theorem Zx5 {b : Int} {a : Nat} (h0 : (a : Int) ≤ b) (h1 : ¬((a : Int) = b)) : (a : Int) < b := by omega
theorem Zx3 {b : Int} {a : Nat} (h0 : b ≤ (a : Int)) : (a : Int) ≤ b ↔ b = (a : Int) := by omega
theorem Zxo {b : Int} {a : Nat} (h0 : 1 ≤ b ∧ b ≤ 8) : 8 * a + (Int.toNat b) + 0 ≤ 8 * (a + 1) := by omega
theorem Zxn {b : Int} {a : Nat} (h0 : 1 ≤ b ∧ b ≤ 8) (h1 : a < (Int.toNat b)) : (a : Int) < b := by omega
theorem Zxm {e f : Int} {a b c d i : Nat} (h0 : 70 ≤ b) (h1 : c + b ≤ 95000) (h2 : d < 2) (h3 : (d : Int) = e) (h4 : 1 ≤ f ∧ f ≤ 8) (h5 : (i : Int) < f) (h6 : a ≤ c + (8 * d + i)) : a ≤ 100000 := Xa fun z => far [f] [a, b, c, d, i] [(1, .L (.n 70) n1), (1, .L (.a n2 n1) (.n 95000)), (8, .T n3 (.n 2)), (1, .l i0 (.n 8)), (1, .t (.c n4) i0), (1, .L n0 (.a n2 (.a (.m 8 n3) n4))), (1, .T (.n 100000) n0)] rfl h0 h1 h2 h4.2 h5 h6 z
theorem Zw9 {a : Int} {b : Nat} (h0 : a ≤ (b : Int)) : a ≤ ((b + 1 : Nat) : Int) := Zao fun z => far [a] [b] [(1, .l i0 (.c n0)), (1, .t (.c (.a n0 (.n 1))) i0)] rfl h0 z
theorem Zw4 {f : Int} {a b c d e : Nat} (h0 : b + c ≤ 24) (h1 : d + 1000 * c ≤ 24000) (h2 : a ≤ d + 500 * e) (h3 : e < 2) (h4 : (e : Int) = f) : a ≤ 80000 := Xa fun z => far [] [a, c, d, e] [(1, .L (.a n2 (.m 1000 n1)) (.n 24000)), (1, .L n0 (.a n2 (.m 500 n3))), (500, .T n3 (.n 2)), (1, .T (.n 80000) n0)] rfl h1 h2 h3 z
theorem Zw3 {e : Int} {a b c d : Nat} (h0 : d ≤ b + 500 * c) (h1 : (c : Int) = e) (h2 : a ≤ d + 500) : a ≤ b + 500 * (c + 1) := Xa fun z => far [] [a, b, c, d] [(1, .L n3 (.a n1 (.m 500 n2))), (1, .L n0 (.a n3 (.n 500))), (1, .T (.a n1 (.m 500 (.a n2 (.n 1)))) n0)] rfl h0 h2 z
theorem Zw0 {a : Int} {b c : Nat} (h0 : b + (c + 1) ≤ 24) (h1 : 0 ≤ a ∧ a ≤ 1000) (h2 : a ≤ (b : Int)) : a < 1000 := Zkw fun z => far [a] [b, c] [(1, .L (.a n0 (.a n1 (.n 1))) (.n 24)), (1, .l i0 (.c n0)), (1, .l (.n 1000) i0)] rfl h0 h2 z
section
variable {a b c d e f i : Int}
theorem Z4j (h0 : ¬(a < 0)) : 0 ≤ a := Zao fun z => far [a] [] [(1, .l (.n 0) i0), (1, .t i0 (.n 0))] rfl (Int.not_lt.1 h0) z
theorem Z3s (h0 : b > c) (h1 : a ≤ c) : a ≤ b := Zao fun z => far [a, b, c] [] [(1, .t i2 i1), (1, .l i0 i2), (1, .t i1 i0)] rfl h0 h1 z
theorem Zwn : a ≤ a := Zao fun z => far [a] [] [(1, .t i0 i0)] rfl z
theorem Z3r (h0 : ¬(a > b)) : a ≤ b := Zao fun z => far [a, b] [] [(1, .l i0 i1), (1, .t i1 i0)] rfl (Int.not_lt.1 h0) z
theorem Z3q (h0 : a < c) (h1 : c ≤ b) : a ≤ b := Zao fun z => far [a, b, c] [] [(1, .t i0 i2), (1, .l i2 i1), (1, .t i1 i0)] rfl h0 h1 z
theorem Z2l (h0 : ¬(b < a)) : a ≤ b := Zao fun z => far [a, b] [] [(1, .l i0 i1), (1, .t i1 i0)] rfl (Int.not_lt.1 h0) z
theorem Z3p (h0 : (Int.toNat a) ≤ 1000000) (h1 : (Int.toNat (a - 0)) = (Int.toNat a)) : a < 4611686018427387904 := by omega
theorem Zv7 (h0 : 0 ≤ a) : a = (((Int.toNat a) : Nat) : Int) := by omega
theorem Z3c (h0 : 0 ≤ a) : (-4611686018427387904) ≤ a := Zao fun z => far [a] [] [(1, .l (.n 0) i0), (1, .t i0 (.g (.n 4611686018427387904)))] rfl h0 z
theorem Z3b (h0 : (Int.toNat a) ≤ 1000000) : a < 4611686018427387904 := by omega
theorem Z3a (h0 : (Int.toNat a) ≤ 1000000) : (Int.toNat a) ≤ 16777216 := by omega
theorem Z26 (h0 : a < b) : a ≤ b := Zao fun z => far [a, b] [] [(1, .t i0 i1), (1, .t i1 i0)] rfl h0 z
theorem Z25 (h0 : a ≤ c) (h1 : c ≤ b) : a ≤ b := Zao fun z => far [a, b, c] [] [(1, .l i0 i2), (1, .l i2 i1), (1, .t i1 i0)] rfl h0 h1 z
theorem Z2z : a = a + b - b := Int.le_antisymm (Zao fun z => far [a, b] [] [(1, .t (.s (.a i0 i1) i1) i0)] rfl z) (Zao fun z => far [a, b] [] [(1, .t i0 (.s (.a i0 i1) i1))] rfl z)
theorem Z2y : a = b + a - b := Int.le_antisymm (Zao fun z => far [a, b] [] [(1, .t (.s (.a i1 i0) i1) i0)] rfl z) (Zao fun z => far [a, b] [] [(1, .t i0 (.s (.a i1 i0) i1))] rfl z)
theorem Z1g (h0 : 0 ≤ a) : (max a 0) = a := by omega
theorem Z03 (h0 : b < a) : ¬(a = b) := fun z => far [a, b] [] [(1, .t i1 i0), (1, .l i0 i1)] rfl h0 (Int.le_of_eq z)
theorem Z02 (h0 : b < a) (h1 : a ≤ b) : a = b := Int.le_antisymm (Zao fun z => far [a, b] [] [(1, .t i1 i0), (1, .l i0 i1)] rfl h0 h1) (Zao fun z => far [a, b] [] [(1, .t i1 i0), (1, .l i0 i1)] rfl h0 h1)
theorem Z01 (h0 : a < b) : a < (((Int.toNat b) : Nat) : Int) := by omega
theorem Zu3 (h0 : a = 0) : (Int.toNat a) = 0 := by omega
theorem Z00 (h0 : 0 ≤ a ∧ a < (((Int.toNat b) : Nat) : Int)) : a < b := by omega
theorem Z0o : 0 ≤ (Int.toNat a) := by omega
theorem Zrf (h0 : a < b) : a ≠ b := fun z => far [a, b] [] [(1, .t i0 i1), (1, .l i1 i0)] rfl h0 (Int.le_of_eq z.symm)
theorem Z0b (h0 : 1 ≤ a ∧ a ≤ 8) : (Int.toNat a) ≤ 1000 := by omega
theorem Z0a (h0 : 0 ≤ a) (h1 : a ≤ 8) : 8 = (Int.toNat a) + (8 - (Int.toNat a)) := by omega
theorem Zc7 (h0 : 1 ≤ a ∧ a ≤ 8) : 0 ≤ a := Zao fun z => far [a] [] [(1, .l (.n 1) i0), (1, .t i0 (.n 0))] rfl h0.1 z
theorem Zz6 (h0 : a ≤ b) (h1 : c = b) (h2 : b < a) : False := far [a, b] [] [(1, .l i0 i1), (1, .t i1 i0)] rfl h0 h2
theorem Zz5 (h0 : 0 ≤ a ∧ a ≤ 1000) : (Int.toNat a) ≤ 1000000 := by omega
theorem Zzp (h0 : 1 ≤ a) (h1 : a ≤ 8) (h2 : 1 ≤ b) (h3 : b ≤ 8) : (1 ≤ a ∧ a ≤ 8) ∧ 1 ≤ b ∧ b ≤ 8 := ⟨⟨Zao fun z => far [a] [] [(1, .l (.n 1) i0), (1, .t i0 (.n 1))] rfl h0 z, Zao fun z => far [a] [] [(1, .l i0 (.n 8)), (1, .t (.n 8) i0)] rfl h1 z⟩, ⟨Zao fun z => far [b] [] [(1, .l (.n 1) i0), (1, .t i0 (.n 1))] rfl h2 z, Zao fun z => far [b] [] [(1, .l i0 (.n 8)), (1, .t (.n 8) i0)] rfl h3 z⟩⟩
theorem Zzl (h0 : b = a ∧ c = d) (h1 : 1 ≤ a ∧ a ≤ 8) : 0 ≤ a := Zao fun z => far [a] [] [(1, .l (.n 1) i0), (1, .t i0 (.n 0))] rfl h1.1 z
theorem Zzk (h0 : b = a ∧ c = d) (h1 : 1 ≤ a ∧ a ≤ 8) : a ≤ 1000 := Zao fun z => far [a] [] [(1, .l i0 (.n 8)), (1, .t (.n 1000) i0)] rfl h1.2 z
theorem Zzj (h0 : b = c ∧ d = a) (h1 : 1 ≤ a ∧ a ≤ 8) : 0 ≤ a := Zao fun z => far [a] [] [(1, .l (.n 1) i0), (1, .t i0 (.n 0))] rfl h1.1 z
theorem Zzi (h0 : b = c ∧ d = a) (h1 : 1 ≤ a ∧ a ≤ 8) : a ≤ 1000 := Zao fun z => far [a] [] [(1, .l i0 (.n 8)), (1, .t (.n 1000) i0)] rfl h1.2 z
theorem Zzg (h0 : a < 1000) (h1 : 0 ≤ a ∧ a ≤ 1000) (h2 : b = c ∧ d = e ∧ f = i) (h3 : f = a + 1) : 0 ≤ a + 1 ∧ a + 1 ≤ 1000 := ⟨Zao fun z => far [a] [] [(1, .l (.n 0) i0), (1, .t (.a i0 (.n 1)) (.n 0))] rfl h1.1 z, Zao fun z => far [a] [] [(1, .t i0 (.n 1000)), (1, .t (.n 1000) (.a i0 (.n 1)))] rfl h0 z⟩
theorem Zev (h0 : 1 ≤ a ∧ a ≤ 8) : a ≤ 1000 := Zao fun z => far [a] [] [(1, .l i0 (.n 8)), (1, .t (.n 1000) i0)] rfl h0.2 z
theorem Ztj (h0 : 1 ≤ a ∧ a ≤ 8) : a ≤ 1000000 := Zao fun z => far [a] [] [(1, .l i0 (.n 8)), (1, .t (.n 1000000) i0)] rfl h0.2 z
theorem Zy6 (h0 : c = b) (h1 : d = a) (h2 : c < d) : a ≠ b := fun z => far [a, b, c, d] [] [(1, .l i1 i2), (1, .l i3 i0), (1, .t i2 i3), (1, .l i0 i1)] rfl (Int.le_of_eq h0.symm) (Int.le_of_eq h1) h2 (Int.le_of_eq z)
theorem Zy3 (h0 : 0 ≤ a) (h1 : a ≤ 1000000) : (-18446744073709551616) < a := Zkw fun z => far [a] [] [(1, .l (.n 0) i0), (1, .l i0 (.g (.n 18446744073709551616)))] rfl h0 z
theorem Zy2 (h0 : 0 ≤ a) (h1 : a ≤ 1000000) : a < 18446744073709551616 := Zkw fun z => far [a] [] [(1, .l i0 (.n 1000000)), (1, .l (.n 18446744073709551616) i0)] rfl h1 z
theorem Zy1 (h0 : 0 ≤ a) (h1 : a < 8) : 1 ≤ 1 + a ∧ 1 + a ≤ 8 := ⟨Zao fun z => far [a] [] [(1, .l (.n 0) i0), (1, .t (.a (.n 1) i0) (.n 1))] rfl h0 z, Zao fun z => far [a] [] [(1, .t i0 (.n 8)), (1, .t (.n 8) (.a (.n 1) i0))] rfl h1 z⟩
theorem Zyf (h0 : a = b) (h1 : 1 ≤ a) (h2 : a ≤ 8) : 0 ≤ a := Zao fun z => far [a] [] [(1, .l (.n 1) i0), (1, .t i0 (.n 0))] rfl h1 z
theorem Zye (h0 : a = b) (h1 : 1 ≤ a) (h2 : a ≤ 8) : (Int.toNat a) ≤ 1000000 := by omega
theorem Zuv (h0 : b = c) (h1 : 1 ≤ b) (h2 : b ≤ 8) (h3 : 0 ≤ a ∧ a < (((Int.toNat b) : Nat) : Int)) : 0 ≤ a ∧ a < b := by clear h2 h1 h0; omega
theorem Zya (h0 : a = b) (h1 : 1 ≤ a) (h2 : a ≤ 8) (h3 : a ≤ 0) : False := far [a] [] [(1, .l (.n 1) i0), (1, .l i0 (.n 0))] rfl h1 h3
theorem Zx6 (h0 : 1 ≤ a ∧ a < 64) (h1 : 0 = a) : False := far [a] [] [(1, .l (.n 1) i0), (1, .l i0 (.n 0))] rfl h0.1 (Int.le_of_eq h1.symm)
theorem Zxz (h0 : a < 3) (h1 : ¬(a < 2)) : a = 2 := Int.le_antisymm (Zao fun z => far [a] [] [(1, .t i0 (.n 3)), (1, .t (.n 2) i0)] rfl h0 z) (Zao fun z => far [a] [] [(1, .l (.n 2) i0), (1, .t i0 (.n 2))] rfl (Int.not_lt.1 h1) z)
theorem Zw2 (h0 : 0 ≤ a ∧ a ≤ 1000) (h1 : 0 ≤ b ∧ b ≤ 1000) : 0 ≤ a + 5 * b := Zao fun z => far [a, b] [] [(1, .l (.n 0) i0), (5, .l (.n 0) i1), (1, .t (.a i0 (.m 5 i1)) (.n 0))] rfl h0.1 h1.1 z
theorem Zw1 (h0 : 0 ≤ a ∧ a ≤ 1000) (h1 : 0 ≤ b ∧ b ≤ 1000) : a + 5 * b ≤ 1000000 := Zao fun z => far [a, b] [] [(1, .l i0 (.n 1000)), (5, .l i1 (.n 1000)), (1, .t (.n 1000000) (.a i0 (.m 5 i1)))] rfl h0.2 h1.2 z
theorem Zwz (h0 : 0 ≤ a) (h1 : a < 2) : a = 0 ∨ a = 1 := by omega
end
section
variable {a b c d e f i : Nat}
theorem om0 (h0 : a ≤ 1000000) (h1 : b = 16777216) : a ≤ b := Xa fun z => far [] [a, b] [(1, .L n0 (.n 1000000)), (1, .L (.n 16777216) n1), (1, .T n1 n0)] rfl h0 (Nat.le_of_eq h1.symm) z
theorem om1 (h0 : a ≤ 1000000) : (a : Int) < 9223372036854775808 := Zkw fun z => far [] [a] [(1, .L n0 (.n 1000000)), (1, .l (.n 9223372036854775808) (.c n0))] rfl h0 z
theorem om2 (h0 : b ≤ d) (h1 : a + 2 * d + 110 < c) : a + 2 * b + 110 < c := Zc8 fun z => far [] [a, b, c, d] [(2, .L n1 n3), (1, .T (.a (.a n0 (.m 2 n3)) (.n 110)) n2), (1, .L n2 (.a (.a n0 (.m 2 n1)) (.n 110)))] rfl h0 h1 z
theorem om3 (h0 : b ≤ d) (h1 : a + 20 * d + 100 < c) : a + 20 * b + 100 < c := Zc8 fun z => far [] [a, b, c, d] [(20, .L n1 n3), (1, .T (.a (.a n0 (.m 20 n3)) (.n 100)) n2), (1, .L n2 (.a (.a n0 (.m 20 n1)) (.n 100)))] rfl h0 h1 z
theorem om4 (h0 : a + 2 * (b + 1) + 110 < c) : a + 1 + 2 * b + 110 < c := Zc8 fun z => far [] [a, b, c] [(1, .T (.a (.a n0 (.m 2 (.a n1 (.n 1)))) (.n 110)) n2), (1, .L n2 (.a (.a (.a n0 (.n 1)) (.m 2 n1)) (.n 110)))] rfl h0 z
theorem om5 (h0 : a + 20 * (b + 1) + 100 < c) : a + 3 + 20 * b + 100 < c := Zc8 fun z => far [] [a, b, c] [(1, .T (.a (.a n0 (.m 20 (.a n1 (.n 1)))) (.n 100)) n2), (1, .L n2 (.a (.a (.a n0 (.n 3)) (.m 20 n1)) (.n 100)))] rfl h0 z
theorem om6 (h0 : a + 2 * c + 110 < b) : a < b := Zc8 fun z => far [] [a, b, c] [(1, .T (.a (.a n0 (.m 2 n2)) (.n 110)) n1), (1, .L n1 n0)] rfl h0 z
theorem om7 (h0 : a + 20 * c + 100 < b) : a + 50 < b := Zc8 fun z => far [] [a, b, c] [(1, .T (.a (.a n0 (.m 20 n2)) (.n 100)) n1), (1, .L n1 (.a n0 (.n 50)))] rfl h0 z
theorem om8 (h0 : b + 1 = a) : a ≠ 0 := fun z => far [] [a, b] [(1, .L (.a n1 (.n 1)) n0), (1, .L n0 (.n 0))] rfl (Nat.le_of_eq h0) (Nat.le_of_eq z)
theorem om9 (h0 : (a : Int) < 9223372036854775808) : ¬((a : Int) ≥ 9223372036854775808) := fun z => far [] [a] [(1, .t (.c n0) (.n 9223372036854775808)), (1, .l (.n 9223372036854775808) (.c n0))] rfl h0 z
theorem Z2p (h0 : a + 50 < d) (h1 : b ≤ 20) : a + (min b c) < d := Nat.lt_of_le_of_lt (Nat.add_le_add_left (Nat.le_trans (Nat.min_le_left _ _) (Nat.le_trans h1 (by decide))) _) h0
theorem Z2o (h0 : a + 1 ≤ 20) : a ≤ 20 := Xa fun z => far [] [a] [(1, .L (.a n0 (.n 1)) (.n 20)), (1, .T (.n 20) n0)] rfl h0 z
theorem Zv9 (h0 : a + 50 < d) (h1 : b ≤ 20) : a + 1 + (min b c) < d := by omega
theorem Zua (h0 : a + 50 < b) : a + 1 < b := Zc8 fun z => far [] [a, b] [(1, .T (.a n0 (.n 50)) n1), (1, .L n1 (.a n0 (.n 1)))] rfl h0 z
theorem Z4n (h0 : a + 2 * c + 110 < b) : a + 100 < b := Zc8 fun z => far [] [a, b, c] [(1, .T (.a (.a n0 (.m 2 n2)) (.n 110)) n1), (1, .L n1 (.a n0 (.n 100)))] rfl h0 z
theorem Z4c (h0 : c ≤ b) (h1 : d ≤ e) (h2 : e = c) (h3 : a = d) : a ≤ b := Xa fun z => far [] [a, b, c, d, e] [(1, .L n2 n1), (1, .L n3 n4), (1, .L n4 n2), (1, .L n0 n3), (1, .T n1 n0)] rfl h0 h1 (Nat.le_of_eq h2) (Nat.le_of_eq h3) z
theorem Z4b (h0 : ((((min a b) : Nat) : Int) = 0 ∧ True) ∧ c - (min a b) = b) : (min a b) = 0 := by omega
theorem Z4a : 0 + a = (Int.toNat (((0 : Nat) : Int) + (a : Int) * 1)) := (Nat.zero_add a).trans (congrArg Int.toNat ((Int.zero_add _).trans (Int.mul_one (a : Int)))).symm
theorem Z38 (h0 : b = c) (h1 : d - a = b) (h2 : d ≤ b) (h3 : ¬(b = 0)) : a = 0 := by omega
theorem Z36 (h0 : a + (c + 1) ≤ b) : a < b := Zc8 fun z => far [] [a, b, c] [(1, .L (.a n0 (.a n2 (.n 1))) n1), (1, .L n1 n0)] rfl h0 z
theorem Z33 (h0 : a + (b + 1) ≤ c) : a + 1 + b ≤ c := Xa fun z => far [] [a, b, c] [(1, .L (.a n0 (.a n1 (.n 1))) n2), (1, .T n2 (.a (.a n0 (.n 1)) n1))] rfl h0 z
theorem Zv8 : a + (b + 1) = a + 1 + b := Nat.le_antisymm (Xa fun z => far [] [a, b] [(1, .T (.a (.a n0 (.n 1)) n1) (.a n0 (.a n1 (.n 1))))] rfl z) (Xa fun z => far [] [a, b] [(1, .T (.a n0 (.a n1 (.n 1))) (.a (.a n0 (.n 1)) n1))] rfl z)
theorem Z32 : 0 + a ≤ a := Xa fun z => far [] [a] [(1, .T n0 (.a (.n 0) n0))] rfl z
theorem Z31 (h0 : c ≤ b) (h1 : c = a) : a ≤ b := Xa fun z => far [] [a, b, c] [(1, .L n2 n1), (1, .L n0 n2), (1, .T n1 n0)] rfl h0 (Nat.le_of_eq h1.symm) z
theorem Z30 (h0 : b < a) : 0 < (a : Int) - (b : Int) := Zkw fun z => far [] [a, b] [(1, .T n1 n0), (1, .l (.s (.c n0) (.c n1)) (.n 0))] rfl h0 z
theorem Z3y : (a : Int) - ((b : Int) + 1) = (a : Int) - (b : Int) - 1 := Int.le_antisymm (Zao fun z => far [] [a, b] [(1, .t (.s (.s (.c n0) (.c n1)) (.n 1)) (.s (.c n0) (.a (.c n1) (.n 1))))] rfl z) (Zao fun z => far [] [a, b] [(1, .t (.s (.c n0) (.a (.c n1) (.n 1))) (.s (.s (.c n0) (.c n1)) (.n 1)))] rfl z)
theorem Z3x (h0 : a ≤ b) : (a : Int) - (b : Int) ≤ 0 := Zao fun z => far [] [a, b] [(1, .L n0 n1), (1, .t (.n 0) (.s (.c n0) (.c n1)))] rfl h0 z
theorem Z2n (h0 : b < a) : a - (b + 1) < a - b := Nat.sub_lt_sub_left h0 (Nat.lt_succ_self b)
theorem Z3w (h0 : b = a + 1) : a ≠ b := fun z => far [] [a, b] [(1, .L (.a n0 (.n 1)) n1), (1, .L n1 n0)] rfl (Nat.le_of_eq h0.symm) (Nat.le_of_eq z.symm)
theorem Z2m (h0 : b = a + 1) : a ≤ b := Xa fun z => far [] [a, b] [(1, .L (.a n0 (.n 1)) n1), (1, .T n1 n0)] rfl (Nat.le_of_eq h0.symm) z
theorem Z3v (h0 : a ≤ b) : a ≤ b + 1 := Xa fun z => far [] [a, b] [(1, .L n0 n1), (1, .T (.a n1 (.n 1)) n0)] rfl h0 z
theorem Z3u (h0 : c ≤ d) (h1 : d < e) (h2 : c = a) (h3 : e ≤ b) : a ≤ b := Xa fun z => far [] [a, b, c, d, e] [(1, .L n2 n3), (1, .T n3 n4), (1, .L n0 n2), (1, .L n4 n1), (1, .T n1 n0)] rfl h0 h1 (Nat.le_of_eq h2.symm) h3 z
theorem Zwp (h0 : a ≤ b) : a ≤ b := Xa fun z => far [] [a, b] [(1, .L n0 n1), (1, .T n1 n0)] rfl h0 z
theorem Z3t (h0 : c ≤ b) (h1 : a ≤ c) (h2 : c ≥ b) : a ≤ b := Xa fun z => far [] [a, b, c] [(1, .L n2 n1), (1, .L n0 n2), (1, .T n1 n0)] rfl h0 h1 z
theorem Zwo (h0 : a ≤ 0) : a = 0 := Nat.le_antisymm (Xa fun z => far [] [a] [(1, .L n0 (.n 0)), (1, .T (.n 0) n0)] rfl h0 z) (Xa fun z => far [] [a] [(1, .T n0 (.n 0))] rfl z)
theorem Zt9 (h0 : a < b + 1) : a ≤ b := Xa fun z => far [] [a, b] [(1, .T n0 (.a n1 (.n 1))), (1, .T n1 n0)] rfl h0 z
theorem Zt8 (h0 : a ≤ b + 1) (h1 : a ≥ b + 1) : a = b + 1 := Nat.le_antisymm (Xa fun z => far [] [a, b] [(1, .L n0 (.a n1 (.n 1))), (1, .T (.a n1 (.n 1)) n0)] rfl h0 z) (Xa fun z => far [] [a, b] [(1, .L (.a n1 (.n 1)) n0), (1, .T n0 (.a n1 (.n 1)))] rfl h1 z)
theorem Z2k (h0 : b = a) (h1 : 0 < b) : 0 < a := Zc8 fun z => far [] [a, b] [(1, .L n1 n0), (1, .T (.n 0) n1), (1, .L n0 (.n 0))] rfl (Nat.le_of_eq h0) h1 z
theorem Z2j (h0 : b = c) (h1 : 0 < b) (h2 : a ≤ c - 1) : a < b := by omega
theorem Z2i (h0 : c = b) (h1 : 0 < c) (h2 : a < c) : a ≤ b - 1 := by omega
theorem Z3o (h0 : b - a = 0) (h1 : a ≤ b) : a = b := by omega
theorem Z3n (h0 : b - a = c + 1) (h1 : a ≤ b) : a < b := by omega
theorem Z3m (h0 : a - b = c + 1) (h1 : b < a) : a - (b + 1) = c := congrArg Nat.pred h0
theorem Z3l : 0 + (a : Int) = (a : Int) := Int.le_antisymm (Zao fun z => far [] [a] [(1, .t (.c n0) (.a (.n 0) (.c n0)))] rfl z) (Zao fun z => far [] [a] [(1, .t (.a (.n 0) (.c n0)) (.c n0))] rfl z)
theorem Z3k : a - 0 = a := by omega
theorem Z2h : 0 ≤ a := Xa fun z => far [] [a] [(1, .T n0 (.n 0))] rfl z
theorem Z2g (h0 : a ≤ 1) : (max 0 a) ≤ 1 := by omega
theorem Zwm (h0 : a ≤ 1) : a + 1 ≤ 20 := Xa fun z => far [] [a] [(1, .L n0 (.n 1)), (1, .T (.n 20) (.a n0 (.n 1)))] rfl h0 z
theorem Z3j (h0 : a ≤ 3) : a + 1 ≤ 20 := Xa fun z => far [] [a] [(1, .L n0 (.n 3)), (1, .T (.n 20) (.a n0 (.n 1)))] rfl h0 z
theorem Zwl : ¬((a : Int) < 0) := fun z => far [] [a] [(1, .t (.c n0) (.n 0))] rfl z
theorem Z3i (h0 : a < b) : a < b := Zc8 fun z => far [] [a, b] [(1, .T n0 n1), (1, .L n1 n0)] rfl h0 z
theorem Z3h (h0 : a ≤ c + 1) (h1 : c + 1 ≤ b) : a ≤ b + 1 := Xa fun z => far [] [a, b, c] [(1, .L n0 (.a n2 (.n 1))), (1, .L (.a n2 (.n 1)) n1), (1, .T (.a n1 (.n 1)) n0)] rfl h0 h1 z
theorem Z3g (h0 : a + 20 * (b + 1) + 100 < c) : a + 1 + 20 * b + 100 < c := Zc8 fun z => far [] [a, b, c] [(1, .T (.a (.a n0 (.m 20 (.a n1 (.n 1)))) (.n 100)) n2), (1, .L n2 (.a (.a (.a n0 (.n 1)) (.m 20 n1)) (.n 100)))] rfl h0 z
theorem Z2f (h0 : (a : Int) < (b : Int)) : a < b := Zc8 fun z => far [] [a, b] [(1, .t (.c n0) (.c n1)), (1, .L n1 n0)] rfl h0 z
theorem Zwk : 0 ≤ (a : Int) := Zao fun z => far [] [a] [(1, .t (.c n0) (.n 0))] rfl z
theorem Z3f (h0 : a < b) (h1 : b = c) (h2 : b ≤ 1000000) : (a : Int) < 9223372036854775808 := Zkw fun z => far [] [a, b] [(1, .T n0 n1), (1, .L n1 (.n 1000000)), (1, .l (.n 9223372036854775808) (.c n0))] rfl h0 h2 z
theorem Z3e (h0 : a < c) (h1 : c = b) : (a : Int) < (b : Int) := Zkw fun z => far [] [a, b, c] [(1, .T n0 n2), (1, .L n2 n1), (1, .l (.c n1) (.c n0))] rfl h0 (Nat.le_of_eq h1) z
theorem Z3d : ((a + (b + 1) : Nat) : Int) = ((a + 1 + b : Nat) : Int) := Int.le_antisymm (Zao fun z => far [] [a, b] [(1, .t (.c (.a (.a n0 (.n 1)) n1)) (.c (.a n0 (.a n1 (.n 1)))))] rfl z) (Zao fun z => far [] [a, b] [(1, .t (.c (.a n0 (.a n1 (.n 1)))) (.c (.a (.a n0 (.n 1)) n1)))] rfl z)
theorem Z29 : 0 + (a : Int) * 1 = (a : Int) := by omega
theorem Z28 (h0 : b - (a + 1) = 0) (h1 : a + 1 ≤ b) : a + 1 = b := Nat.le_antisymm h1 (Nat.le_of_sub_eq_zero h0)
theorem Z27 (h0 : b - (a + 1) = c + 1) (h1 : a + 1 ≤ b) : a + 1 < b := by omega
theorem Z2e (h0 : a - (b + 1) = c + 1) (h1 : b + 1 < a) : a - (b + 1 + 1) = c := congrArg Nat.pred h0
theorem Z24 (h0 : c = a) (h1 : c = b) : a = b := Nat.le_antisymm (Xa fun z => far [] [a, b, c] [(1, .L n0 n2), (1, .L n2 n1), (1, .T n1 n0)] rfl (Nat.le_of_eq h0.symm) (Nat.le_of_eq h1) z) (Xa fun z => far [] [a, b, c] [(1, .L n2 n0), (1, .L n1 n2), (1, .T n0 n1)] rfl (Nat.le_of_eq h0) (Nat.le_of_eq h1.symm) z)
theorem Z23 (h0 : a + 50 < b) : a + 1 + 1 < b := Zc8 fun z => far [] [a, b] [(1, .T (.a n0 (.n 50)) n1), (1, .L n1 (.a (.a n0 (.n 1)) (.n 1)))] rfl h0 z
theorem Z22 (h0 : c = b) (h1 : 0 < b) (h2 : a < c) : a ≤ b - 1 := by omega
theorem Z21 (h0 : b < 64) (h1 : b = a) : a < 64 := Zc8 fun z => far [] [a, b] [(1, .T n1 (.n 64)), (1, .L n0 n1), (1, .L (.n 64) n0)] rfl h0 (Nat.le_of_eq h1.symm) z
theorem Z20 (h0 : a + 50 < b) : a < b := Zc8 fun z => far [] [a, b] [(1, .T (.a n0 (.n 50)) n1), (1, .L n1 n0)] rfl h0 z
theorem Z2d (h0 : a % 2 = 0) : ¬((a + 1) % 2 = 0) := by omega
theorem Z2c (h0 : a % 2 = 1) : (a + 1) % 2 = 0 := by rw [Nat.add_mod, h0]
theorem Zv6 (h0 : a % 2 = 1) : ¬(a % 2 = 0) := by omega
theorem Z2x (h0 : a % 2 = 0) (h1 : b % 2 = 0) : a % 2 = b % 2 := by omega
theorem Z2w (h0 : a % 2 = 1) (h1 : b % 2 = 1) : a % 2 = b % 2 := by omega
theorem Z2b (h0 : a < b) : a ≤ b := Xa fun z => far [] [a, b] [(1, .T n0 n1), (1, .T n1 n0)] rfl h0 z
theorem Zva (h0 : b < a) : 1 ≤ a - b := by omega
theorem Z1s (h0 : 0 % 2 = (b + 1) % 2) (h1 : b ≥ a) : a ≤ b + 1 := Xa fun z => far [] [a, b] [(1, .L n0 n1), (1, .T (.a n1 (.n 1)) n0)] rfl h1 z
theorem Z1r (h0 : 0 % 2 = (a + 1) % 2) : (a + 1) % 2 = 0 := by omega
theorem Z1q (h0 : 0 % 2 = (a + 1) % 2) : ¬(a % 2 = 0) := by omega
theorem Z1p (h0 : a + 1 < 0) : False := far [] [a] [(1, .T (.a n0 (.n 1)) (.n 0))] rfl h0
theorem Zu9 (h0 : b ≥ a) : a ≤ b + 1 := Xa fun z => far [] [a, b] [(1, .L n0 n1), (1, .T (.a n1 (.n 1)) n0)] rfl h0 z
theorem Z1o (h0 : a + 1 < b + 1) (h1 : (a + 1) % 2 = (b + 1) % 2) : a < b := Zc8 fun z => far [] [a, b] [(1, .T (.a n0 (.n 1)) (.a n1 (.n 1))), (1, .L n1 n0)] rfl h0 z
theorem Zu8 (h0 : (a + 1) % 2 = (b + 1) % 2) : a % 2 = b % 2 := (Nat.add_mod_right a 2).symm.trans ((Nat.add_mod (a + 1) 1 2).trans ((congrArg (fun x => (x + 1 % 2) % 2) h0).trans ((Nat.add_mod (b + 1) 1 2).symm.trans (Nat.add_mod_right b 2))))
theorem Z1n : a % 2 = (a + 1 + 1) % 2 := (Nat.add_mod_right a 2).symm
theorem Z1m (h0 : b ≥ a) : a ≤ b := Xa fun z => far [] [a, b] [(1, .L n0 n1), (1, .T n1 n0)] rfl h0 z
theorem Z1l (h0 : b < a) (h1 : a ≤ b + 1) : a = b + 1 := Nat.le_antisymm (Xa fun z => far [] [a, b] [(1, .L n0 (.a n1 (.n 1))), (1, .T (.a n1 (.n 1)) n0)] rfl h1 z) (Xa fun z => far [] [a, b] [(1, .T n1 n0), (1, .T n0 (.a n1 (.n 1)))] rfl h0 z)
theorem Z1k (h0 : (a + 1) % 2 = 0 % 2) : ¬(a % 2 = 0) := by omega
theorem Z1i (h0 : (a + 1 + 1) % 2 = 0 % 2) : ¬((a + 1) % 2 = 0) := by omega
theorem Z1h (h0 : (a + 1 + 1) % 2 = 0 % 2) : a % 2 = 0 := by omega
theorem Z1f (h0 : a ≤ b) : a < b + 1 := Zc8 fun z => far [] [a, b] [(1, .L n0 n1), (1, .L (.a n1 (.n 1)) n0)] rfl h0 z
theorem Z1e (h0 : a < b) : a < b + 1 := Zc8 fun z => far [] [a, b] [(1, .T n0 n1), (1, .L (.a n1 (.n 1)) n0)] rfl h0 z
theorem Z1d (h0 : a < b) : a + 1 < b + 1 := Zc8 fun z => far [] [a, b] [(1, .T n0 n1), (1, .L (.a n1 (.n 1)) (.a n0 (.n 1)))] rfl h0 z
theorem Z1c (h0 : a ≤ b) (h1 : b ≤ c) (h2 : c < a) : False := far [] [a, b, c] [(1, .L n0 n1), (1, .L n1 n2), (1, .T n2 n0)] rfl h0 h1 h2
theorem Zrg (h0 : a = 0) : a ≤ b := Xa fun z => far [] [a, b] [(1, .L n0 (.n 0)), (1, .T n1 n0)] rfl (Nat.le_of_eq h0) z
theorem Zu6 (h0 : c = a) (h1 : c ≤ b) : a ≤ b := Xa fun z => far [] [a, b, c] [(1, .L n0 n2), (1, .L n2 n1), (1, .T n1 n0)] rfl (Nat.le_of_eq h0.symm) h1 z
theorem Z1b (h0 : c = a) (h1 : c + d ≤ b) : a ≤ b := Xa fun z => far [] [a, b, c, d] [(1, .L n0 n2), (1, .L (.a n2 n3) n1), (1, .T n1 n0)] rfl (Nat.le_of_eq h0.symm) h1 z
theorem Z08 (h0 : a = c + d) (h1 : c = b) (h2 : d ≤ 1) : a ≤ b + 1 := Xa fun z => far [] [a, b, c, d] [(1, .L n0 (.a n2 n3)), (1, .L n2 n1), (1, .L n3 (.n 1)), (1, .T (.a n1 (.n 1)) n0)] rfl (Nat.le_of_eq h0) (Nat.le_of_eq h1) h2 z
theorem Z07 (h0 : b ≤ a) (h1 : a = 0) : a ≤ b + 1 := Xa fun z => far [] [a, b] [(1, .L n0 (.n 0)), (1, .T (.a n1 (.n 1)) n0)] rfl (Nat.le_of_eq h1) z
theorem Zu2 (h0 : a < b) : (min a b) = a := by omega
theorem Z0y (h0 : b = a + 1) : a + 1 - 1 < a + 1 := by omega
theorem Z0x : a ≤ a + b := Xa fun z => far [] [a, b] [(1, .T (.a n0 n1) n0)] rfl z
theorem Z0w : a ≤ b + a := Xa fun z => far [] [a, b] [(1, .T (.a n1 n0) n0)] rfl z
theorem Z0t : a ≤ a + 1 := Xa fun z => far [] [a] [(1, .T (.a n0 (.n 1)) n0)] rfl z
theorem Z0s (h0 : a ≤ d + c) (h1 : d ≤ b + 1) : a ≤ b + (c + 1) := Xa fun z => far [] [a, b, c, d] [(1, .L n0 (.a n3 n2)), (1, .L n3 (.a n1 (.n 1))), (1, .T (.a n1 (.a n2 (.n 1))) n0)] rfl h0 h1 z
theorem Ztk : a + 1 = 1 + a := Nat.le_antisymm (Xa fun z => far [] [a] [(1, .T (.a (.n 1) n0) (.a n0 (.n 1)))] rfl z) (Xa fun z => far [] [a] [(1, .T (.a n0 (.n 1)) (.a (.n 1) n0))] rfl z)
theorem Z0q : a = 0 + a := Nat.le_antisymm (Xa fun z => far [] [a] [(1, .T (.a (.n 0) n0) n0)] rfl z) (Xa fun z => far [] [a] [(1, .T n0 (.a (.n 0) n0))] rfl z)
theorem Z0p : 2 * a + 1 + 1 = 2 * (a + 1) := Nat.le_antisymm (Xa fun z => far [] [a] [(1, .T (.m 2 (.a n0 (.n 1))) (.a (.a (.m 2 n0) (.n 1)) (.n 1)))] rfl z) (Xa fun z => far [] [a] [(1, .T (.a (.a (.m 2 n0) (.n 1)) (.n 1)) (.m 2 (.a n0 (.n 1))))] rfl z)
theorem Z0n (h0 : c = a) (h1 : b ≥ c) : a ≤ b := Xa fun z => far [] [a, b, c] [(1, .L n0 n2), (1, .L n2 n1), (1, .T n1 n0)] rfl (Nat.le_of_eq h0.symm) h1 z
theorem Z0m (h0 : c = b) (h1 : a < c) : a < b := Zc8 fun z => far [] [a, b, c] [(1, .L n2 n1), (1, .T n0 n2), (1, .L n1 n0)] rfl (Nat.le_of_eq h0) h1 z
theorem Z0l (h0 : b = c) (h1 : a < c) : a < b := Zc8 fun z => far [] [a, b, c] [(1, .L n2 n1), (1, .T n0 n2), (1, .L n1 n0)] rfl (Nat.le_of_eq h0.symm) h1 z
theorem Z0k (h0 : a ≤ d + 2 * c) (h1 : d ≤ e + 1) (h2 : e ≤ b + 1) : a ≤ b + 2 * (c + 1) := Xa fun z => far [] [a, b, c, d, e] [(1, .L n0 (.a n3 (.m 2 n2))), (1, .L n3 (.a n4 (.n 1))), (1, .L n4 (.a n1 (.n 1))), (1, .T (.a n1 (.m 2 (.a n2 (.n 1)))) n0)] rfl h0 h1 h2 z
theorem Z0j : (-1) + ((a + 1 : Nat) : Int) = (a : Int) := Int.le_antisymm (Zao fun z => far [] [a] [(1, .t (.c n0) (.a (.g (.n 1)) (.c (.a n0 (.n 1)))))] rfl z) (Zao fun z => far [] [a] [(1, .t (.a (.g (.n 1)) (.c (.a n0 (.n 1)))) (.c n0))] rfl z)
theorem Z0i : (a : Int) < (a : Int) + 1 := Zkw fun z => far [] [a] [(1, .l (.a (.c n0) (.n 1)) (.c n0))] rfl z
theorem Zre (h0 : a < 2) : a = 0 ∨ a = 1 := by omega
theorem Z0g : a ≤ a + 2 := Xa fun z => far [] [a] [(1, .T (.a n0 (.n 2)) n0)] rfl z
theorem Z0f : a ≤ a + 3 := Xa fun z => far [] [a] [(1, .T (.a n0 (.n 3)) n0)] rfl z
theorem Z0e (h0 : a ≤ 5) : a + 1 ≤ 20 := Xa fun z => far [] [a] [(1, .L n0 (.n 5)), (1, .T (.n 20) (.a n0 (.n 1)))] rfl h0 z
theorem Z0d (h0 : b ≤ 5) (h1 : a ≤ 1) : (max (a + 1) b) ≤ 5 := by omega
theorem Z0c (h0 : a ≤ b + c) : a + 1 ≤ b + (c + 1) := Xa fun z => far [] [a, b, c] [(1, .L n0 (.a n1 n2)), (1, .T (.a n1 (.a n2 (.n 1))) (.a n0 (.n 1)))] rfl h0 z
theorem Zz7 (h0 : a = 0) (h1 : 0 < a) : False := far [] [a] [(1, .L n0 (.n 0)), (1, .T (.n 0) n0)] rfl (Nat.le_of_eq h0) h1
theorem Zz3 (h0 : a + (b + 1) = 2) : a ≤ 2 := Xa fun z => far [] [a, b] [(1, .L (.a n0 (.a n1 (.n 1))) (.n 2)), (1, .T (.n 2) n0)] rfl (Nat.le_of_eq h0) z
theorem Zz1 (h0 : a ≤ 1000) : 0 ≤ (a : Int) := Zao fun z => far [] [a] [(1, .t (.c n0) (.n 0))] rfl z
theorem Zz0 (h0 : a ≤ 1000) : (Int.toNat ((a : Int))) ≤ 1000000 := by omega
theorem Zzz (h0 : a ≤ 1000) : (Int.toNat ((a : Int))) = a := by omega
theorem Zzy (h0 : b < 64) (h1 : a + 1 ≤ c) (h2 : c = b) : a ≤ 999999 := Xa fun z => far [] [a, b, c] [(1, .T n1 (.n 64)), (1, .L (.a n0 (.n 1)) n2), (1, .L n2 n1), (1, .T (.n 999999) n0)] rfl h0 h1 (Nat.le_of_eq h2) z
theorem Zu1 (h0 : b + 1 ≤ a) : a - (b + 1) < a - b := by omega
theorem Zzx (h0 : a ≤ 2 * b * c + 2 * b) : a ≤ 2 * b * c + 2 * b * 1 := by omega
theorem Zzw (h0 : c ≤ b) (h1 : a + (d + 1) = c) : a ≤ b := Xa fun z => far [] [a, b, c, d] [(1, .L n2 n1), (1, .L (.a n0 (.a n3 (.n 1))) n2), (1, .T n1 n0)] rfl h0 (Nat.le_of_eq h1) z
theorem Zzv (h0 : a ≤ b) : 2 * a ≤ 2 * b := Xa fun z => far [] [a, b] [(2, .L n0 n1), (1, .T (.m 2 n1) (.m 2 n0))] rfl h0 z
theorem Zzu (h0 : a ≤ 2 * c * d + 2 * e) (h1 : e ≤ b) (h2 : 2 * c * d ≤ 2 * b * b) : a ≤ 2 * b * b + 2 * b := by omega
theorem Zzt (h0 : a ≤ 100) : 2 * a ≤ 2 * 100 := Xa fun z => far [] [a] [(2, .L n0 (.n 100)), (1, .T (.n 200) (.m 2 n0))] rfl h0 z
theorem Zzs (h0 : b ≤ 100) (h1 : a ≤ 2 * b * b + 2 * b) (h2 : 2 * b * b ≤ 2 * 100 * 100) : a ≤ 999999 := by omega
theorem Zzr (h0 : b ≤ 100) (h1 : a ≤ 2 * b * b + 2 * b) (h2 : 2 * b * b ≤ 2 * 100 * 100) : a ≤ 999998 := by omega
theorem Zzq (h0 : a ≤ 2 * b * c + 2 * d) : a + 1 + 1 ≤ 2 * b * c + 2 * (d + 1) := by omega
theorem Zzo (h0 : a < 40) : ¬(40 ≤ (a : Int)) := fun z => far [] [a] [(1, .T n0 (.n 40)), (1, .l (.n 40) (.c n0))] rfl h0 z
theorem Zzm (h0 : a < 40) : a + 1 < 64 := Zc8 fun z => far [] [a] [(1, .T n0 (.n 40)), (1, .L (.n 64) (.a n0 (.n 1)))] rfl h0 z
theorem Zzh (h0 : b < 40) (h1 : a ≤ b + 1) : a ≤ 100 := Xa fun z => far [] [a, b] [(1, .T n1 (.n 40)), (1, .L n0 (.a n1 (.n 1))), (1, .T (.n 100) n0)] rfl h0 h1 z
theorem Zzd (h0 : b < 64) (h1 : a + (c + 1) = b) : a ≤ 999999 := Xa fun z => far [] [a, b, c] [(1, .T n1 (.n 64)), (1, .L (.a n0 (.a n2 (.n 1))) n1), (1, .T (.n 999999) n0)] rfl h0 (Nat.le_of_eq h1) z
theorem Zzc (h0 : ¬(a = 0)) : ¬(a = 0) := by omega
theorem Zu0 : (a : Int) = (b : Int) ↔ a = b := by omega
theorem Zzb (h0 : a ≤ b) (h1 : ¬(a < b)) : ¬((a : Int) < (b : Int)) := fun z => far [] [a, b] [(1, .L n1 n0), (1, .t (.c n0) (.c n1))] rfl (Nat.not_lt.1 h1) z
theorem Zza (h0 : a ≤ b) (h1 : ¬(a < b)) : a = b := Nat.le_antisymm (Xa fun z => far [] [a, b] [(1, .L n0 n1), (1, .T n1 n0)] rfl h0 z) (Xa fun z => far [] [a, b] [(1, .L n1 n0), (1, .T n0 n1)] rfl (Nat.not_lt.1 h1) z)
theorem Zuz (h0 : a < b) : (a : Int) < (b : Int) := Zkw fun z => far [] [a, b] [(1, .T n0 n1), (1, .l (.c n1) (.c n0))] rfl h0 z
theorem Zy8 (h0 : a + (b + 1) ≤ 64) : a + b ≤ 64 := Xa fun z => far [] [a, b] [(1, .L (.a n0 (.a n1 (.n 1))) (.n 64)), (1, .T (.n 64) (.a n0 n1))] rfl h0 z
theorem Zy7 (h0 : b < 64) (h1 : a ≤ b) : a ≤ 100 := Xa fun z => far [] [a, b] [(1, .T n1 (.n 64)), (1, .L n0 n1), (1, .T (.n 100) n0)] rfl h0 h1 z
theorem Zy5 (h0 : a + (b + 1) ≤ 64) : a ≤ 999999 := Xa fun z => far [] [a, b] [(1, .L (.a n0 (.a n1 (.n 1))) (.n 64)), (1, .T (.n 999999) n0)] rfl h0 z
theorem Zy4 (h0 : a + (b + 1) ≤ 64) : a + 1 + b ≤ 64 := Xa fun z => far [] [a, b] [(1, .L (.a n0 (.a n1 (.n 1))) (.n 64)), (1, .T (.n 64) (.a (.a n0 (.n 1)) n1))] rfl h0 z
theorem Zuy (h0 : b < 64) (h1 : a ≤ b) : a ≤ 64 := Xa fun z => far [] [a, b] [(1, .T n1 (.n 64)), (1, .L n0 n1), (1, .T (.n 64) n0)] rfl h0 h1 z
theorem Zy0 (h0 : b < 64) (h1 : a ≤ 2 * b) : a ≤ 126 := Xa fun z => far [] [a, b] [(2, .T n1 (.n 64)), (1, .L n0 (.m 2 n1)), (1, .T (.n 126) n0)] rfl h0 h1 z
theorem Zyz (h0 : a ≤ 126) : 1 + a ≤ 1000000 := Xa fun z => far [] [a] [(1, .L n0 (.n 126)), (1, .T (.n 1000000) (.a (.n 1) n0))] rfl h0 z
theorem Zyy (h0 : b < 64) (h1 : b = a + (c + 1)) : 2 * a ≤ 126 := Xa fun z => far [] [a, b, c] [(2, .T n1 (.n 64)), (2, .L (.a n0 (.a n2 (.n 1))) n1), (1, .T (.n 126) (.m 2 n0))] rfl h0 (Nat.le_of_eq h1.symm) z
theorem Zyx (h0 : b ≤ 130) (h1 : a ≤ b) : a + 1 ≤ 1000000 := Xa fun z => far [] [a, b] [(1, .L n1 (.n 130)), (1, .L n0 n1), (1, .T (.n 1000000) (.a n0 (.n 1)))] rfl h0 h1 z
theorem Zyw (h0 : b < 64) (h1 : b = a + (c + 1)) : a < 64 := Zc8 fun z => far [] [a, b, c] [(1, .T n1 (.n 64)), (1, .L (.a n0 (.a n2 (.n 1))) n1), (1, .L (.n 64) n0)] rfl h0 (Nat.le_of_eq h1.symm) z
theorem Zyv (h0 : b < 64) (h1 : a ≤ 2 * b) : a + 2 ≤ 1000000 := Xa fun z => far [] [a, b] [(2, .T n1 (.n 64)), (1, .L n0 (.m 2 n1)), (1, .T (.n 1000000) (.a n0 (.n 2)))] rfl h0 h1 z
theorem Zyu : a + 1 ≤ a + 2 := Xa fun z => far [] [a] [(1, .T (.a n0 (.n 2)) (.a n0 (.n 1)))] rfl z
theorem Zyt (h0 : a ≤ b + 1) : a + 1 ≤ b + 2 := Xa fun z => far [] [a, b] [(1, .L n0 (.a n1 (.n 1))), (1, .T (.a n1 (.n 2)) (.a n0 (.n 1)))] rfl h0 z
theorem Zys (h0 : a ≤ 100) : 0 ≤ (a : Int) := Zao fun z => far [] [a] [(1, .t (.c n0) (.n 0))] rfl z
theorem Zyr (h0 : a ≤ 100) : (Int.toNat ((a : Int))) ≤ 1000000 := by omega
theorem Zyq (h0 : a ≤ 100) : (Int.toNat ((a : Int))) = a := by omega
theorem Zyp (h0 : a + 1 ≤ b) (h1 : b < 64) : a ≤ 999999 := Xa fun z => far [] [a, b] [(1, .L (.a n0 (.n 1)) n1), (1, .T n1 (.n 64)), (1, .T (.n 999999) n0)] rfl h0 h1 z
theorem Zux (h0 : b ≤ 100) (h1 : b = a + (c + 1)) : a < 100 := Zc8 fun z => far [] [a, b, c] [(1, .L n1 (.n 100)), (1, .L (.a n0 (.a n2 (.n 1))) n1), (1, .L (.n 100) n0)] rfl h0 (Nat.le_of_eq h1.symm) z
theorem Zyi (h0 : a ≤ b) (h1 : b < 64) : 2 + a ≤ 1000000 := Xa fun z => far [] [a, b] [(1, .L n0 n1), (1, .T n1 (.n 64)), (1, .T (.n 1000000) (.a (.n 2) n0))] rfl h0 h1 z
theorem Zyh (h0 : a < 60) : a + 1 < 64 := Zc8 fun z => far [] [a] [(1, .T n0 (.n 60)), (1, .L (.n 64) (.a n0 (.n 1)))] rfl h0 z
theorem Zyg (h0 : b < 60) (h1 : a ≤ b + 1) : a ≤ 100 := Xa fun z => far [] [a, b] [(1, .T n1 (.n 60)), (1, .L n0 (.a n1 (.n 1))), (1, .T (.n 100) n0)] rfl h0 h1 z
theorem Zuw (h0 : b = a) (h1 : a < 2) : a = 0 ∨ a = 1 := by omega
theorem Zyd (h0 : 0 < a) : 0 < (a : Int) := Zkw fun z => far [] [a] [(1, .T (.n 0) n0), (1, .l (.c n0) (.n 0))] rfl h0 z
theorem Zyc (h0 : 0 < (a : Int)) : (a : Int) ≠ 0 := fun z => far [] [a] [(1, .t (.n 0) (.c n0)), (1, .l (.c n0) (.n 0))] rfl h0 (Int.le_of_eq z)
theorem Zyb (h0 : a = b) (h1 : b < 2) : a ≤ 999999 := Xa fun z => far [] [a, b] [(1, .L n0 n1), (1, .T n1 (.n 2)), (1, .T (.n 999999) n0)] rfl (Nat.le_of_eq h0) h1 z
theorem Zx8 (h0 : b = a) (h1 : 0 < a) : 0 < (a : Int) := Zkw fun z => far [] [a] [(1, .T (.n 0) n0), (1, .l (.c n0) (.n 0))] rfl h1 z
theorem Zx7 (h0 : b = a) (h1 : 0 < (a : Int)) : (a : Int) ≠ 0 := fun z => far [] [a] [(1, .t (.n 0) (.c n0)), (1, .l (.c n0) (.n 0))] rfl h1 (Int.le_of_eq z)
theorem Zx4 (h0 : b < 60) (h1 : c = b) (h2 : a ≤ b) : a < 60 := Zc8 fun z => far [] [a, b] [(1, .T n1 (.n 60)), (1, .L n0 n1), (1, .L (.n 60) n0)] rfl h0 h2 z
theorem Zuu (h0 : b < 60) (h1 : a = b) : a < 64 := Zc8 fun z => far [] [a, b] [(1, .T n1 (.n 60)), (1, .L n0 n1), (1, .L (.n 64) n0)] rfl h0 (Nat.le_of_eq h1) z
theorem Zti (h0 : b < 64) (h1 : a = b) (h2 : c = b) : a < 64 := Zc8 fun z => far [] [a, b] [(1, .T n1 (.n 64)), (1, .L n0 n1), (1, .L (.n 64) n0)] rfl h0 (Nat.le_of_eq h1) z
theorem Zx2 (h0 : b < 64) (h1 : c = b) (h2 : a = b) : a < 64 := Zc8 fun z => far [] [a, b] [(1, .T n1 (.n 64)), (1, .L n0 n1), (1, .L (.n 64) n0)] rfl h0 (Nat.le_of_eq h2) z
theorem Zx1 (h0 : 70 ≤ b) (h1 : a + b ≤ 95000) : a ≤ 999999 := Xa fun z => far [] [a, b] [(1, .L (.n 70) n1), (1, .L (.a n0 n1) (.n 95000)), (1, .T (.n 999999) n0)] rfl h0 h1 z
theorem Zx0 (h0 : 70 ≤ a) : 0 + 1 + 0 ≤ a := Xa fun z => far [] [a] [(1, .L (.n 70) n0), (1, .T n0 (.n 1))] rfl h0 z
theorem Zxy (h0 : a + c ≤ 95000) (h1 : 1 + b ≤ c) : a + 1 + b ≤ 95000 := Xa fun z => far [] [a, b, c] [(1, .L (.a n0 n2) (.n 95000)), (1, .L (.a (.n 1) n1) n2), (1, .T (.n 95000) (.a (.a n0 (.n 1)) n1))] rfl h0 h1 z
theorem Zxx (h0 : 1 + a ≤ b) : 0 + 1 + a ≤ b := Xa fun z => far [] [a, b] [(1, .L (.a (.n 1) n0) n1), (1, .T n1 (.a (.n 1) n0))] rfl h0 z
theorem Zut (h0 : b < 64) (h1 : c = b) (h2 : d = b) (h3 : a = b) : a ≤ 999999 := Xa fun z => far [] [a, b] [(1, .T n1 (.n 64)), (1, .L n0 n1), (1, .T (.n 999999) n0)] rfl h0 (Nat.le_of_eq h3) z
theorem Zxw (h0 : a < 64) : 0 ≤ (a : Int) := Zao fun z => far [] [a] [(1, .t (.c n0) (.n 0))] rfl z
theorem Zxv (h0 : 70 ≤ b) (h1 : a < 64) : (Int.toNat ((a : Int))) + 0 ≤ b := by omega
theorem Zxu (h0 : b < 64) (h1 : a < (Int.toNat ((b : Int)))) : a < b := by omega
theorem Zxt (h0 : b < 64) (h1 : c = b) (h2 : d = b) (h3 : a ≤ c) : a < 64 := Zc8 fun z => far [] [a, b, c] [(1, .T n1 (.n 64)), (1, .L n2 n1), (1, .L n0 n2), (1, .L (.n 64) n0)] rfl h0 (Nat.le_of_eq h1) h3 z
theorem Zxs (h0 : b < 64) (h1 : c = b) (h2 : d = b) (h3 : e ≤ c) (h4 : e = a) : a ≤ 1000 := Xa fun z => far [] [a, b, c, e] [(1, .T n1 (.n 64)), (1, .L n2 n1), (1, .L n3 n2), (1, .L n0 n3), (1, .T (.n 1000) n0)] rfl h0 (Nat.le_of_eq h1) h3 (Nat.le_of_eq h4.symm) z
theorem Zxr (h0 : 70 ≤ b) (h1 : c + b ≤ 95000) (h2 : d < 64) (h3 : e < d) (h4 : a ≤ c + e) : a ≤ 100000 := Xa fun z => far [] [a, b, c, d, e] [(1, .L (.n 70) n1), (1, .L (.a n2 n1) (.n 95000)), (1, .T n3 (.n 64)), (1, .T n4 n3), (1, .L n0 (.a n2 n4)), (1, .T (.n 100000) n0)] rfl h0 h1 h2 h3 h4 z
theorem Zxq : a + (0 + 1) ≤ a + 1 := Xa fun z => far [] [a] [(1, .T (.a n0 (.n 1)) (.a n0 (.n 1)))] rfl z
theorem Zxp (h0 : 70 ≤ a) : 8 * 2 + 0 ≤ a := Xa fun z => far [] [a] [(1, .L (.n 70) n0), (1, .T n0 (.n 16))] rfl h0 z
theorem Zxl : 8 * a + b + (0 + 1) ≤ 8 * a + (b + 1) := Xa fun z => far [] [a, b] [(1, .T (.a (.m 8 n0) (.a n1 (.n 1))) (.a (.a (.m 8 n0) n1) (.n 1)))] rfl z
theorem Zxk (h0 : 70 ≤ b) (h1 : a + b ≤ 95000) : a ≤ 100000 := Xa fun z => far [] [a, b] [(1, .L (.n 70) n1), (1, .L (.a n0 n1) (.n 95000)), (1, .T (.n 100000) n0)] rfl h0 h1 z
theorem Zxj (h0 : 70 ≤ b) (h1 : c + b ≤ 95000) (h2 : a ≤ c + 1) : a ≤ 100000 := Xa fun z => far [] [a, b, c] [(1, .L (.n 70) n1), (1, .L (.a n2 n1) (.n 95000)), (1, .L n0 (.a n2 (.n 1))), (1, .T (.n 100000) n0)] rfl h0 h1 h2 z
theorem Zxi (h0 : 70 ≤ a) : 2 + 0 ≤ a := Xa fun z => far [] [a] [(1, .L (.n 70) n0), (1, .T n0 (.n 2))] rfl h0 z
theorem Zxh (h0 : b ≤ 6) (h1 : a < b) : a < 6 := Zc8 fun z => far [] [a, b] [(1, .L n1 (.n 6)), (1, .T n0 n1), (1, .L (.n 6) n0)] rfl h0 h1 z
theorem Zxg (h0 : b ≤ 80000) (h1 : c < 6) (h2 : a ≤ b + 71 * c) : a + 71 ≤ 95000 := Xa fun z => far [] [a, b, c] [(1, .L n1 (.n 80000)), (71, .T n2 (.n 6)), (1, .L n0 (.a n1 (.m 71 n2))), (1, .T (.n 95000) (.a n0 (.n 71)))] rfl h0 h1 h2 z
theorem Zxf : 71 * (0 + a) + 71 ≤ 71 * (0 + a + 1) := Xa fun z => far [] [a] [(1, .T (.m 71 (.a (.a (.n 0) n0) (.n 1))) (.a (.m 71 (.a (.n 0) n0)) (.n 71)))] rfl z
theorem Zxe (h0 : a ≤ 6) : 71 * (0 + a) + 0 ≤ 500 := Xa fun z => far [] [a] [(71, .L n0 (.n 6)), (1, .T (.n 500) (.a (.m 71 (.a (.n 0) n0)) (.n 0)))] rfl h0 z
theorem Zxd (h0 : a ≤ 40) (h1 : b = a) : a < 64 := Zc8 fun z => far [] [a] [(1, .L n0 (.n 40)), (1, .L (.n 64) n0)] rfl h0 z
theorem Zxc (h0 : b ≤ 40) (h1 : a = b) : a < 60 := Zc8 fun z => far [] [a, b] [(1, .L n1 (.n 40)), (1, .L n0 n1), (1, .L (.n 60) n0)] rfl h0 (Nat.le_of_eq h1) z
theorem Zxb (h0 : b ≤ 40) (h1 : a = b) (h2 : b < 40) (h3 : c = b + 1) : a < 60 := Zc8 fun z => far [] [a, b] [(1, .L n1 (.n 40)), (1, .L n0 n1), (1, .L (.n 60) n0)] rfl h0 (Nat.le_of_eq h1) z
theorem Zxa (h0 : b ≤ 40) (h1 : c = b) (h2 : b < 40) (h3 : a = b + 1) : a ≤ 40 := Xa fun z => far [] [a, b] [(1, .T n1 (.n 40)), (1, .L n0 (.a n1 (.n 1))), (1, .T (.n 40) n0)] rfl h2 (Nat.le_of_eq h3) z
theorem Zw8 (h0 : a ≤ 63) : (min 26 a) ≤ 26 := by omega
theorem Zw7 (h0 : a ≤ 24) : 0 + a ≤ 24 := Xa fun z => far [] [a] [(1, .L n0 (.n 24)), (1, .T (.n 24) (.a (.n 0) n0))] rfl h0 z
theorem Zw6 (h0 : a ≤ 24) : 1000 * a ≤ 24000 := Xa fun z => far [] [a] [(1000, .L n0 (.n 24)), (1, .T (.n 24000) (.m 1000 n0))] rfl h0 z
theorem Zw5 : a ≤ a + 500 * 0 := Xa fun z => far [] [a] [(1, .T (.a n0 (.n 0)) n0)] rfl z
theorem Zwy (h0 : b = 2) : a + 500 * b ≤ a + 1000 := Xa fun z => far [] [a, b] [(500, .L n1 (.n 2)), (1, .T (.a n0 (.n 1000)) (.a n0 (.m 500 n1)))] rfl (Nat.le_of_eq h0) z
theorem Zwx (h0 : a + (b + 1) ≤ 24) : a + 1 + b ≤ 24 := Xa fun z => far [] [a, b] [(1, .L (.a n0 (.a n1 (.n 1))) (.n 24)), (1, .T (.n 24) (.a (.a n0 (.n 1)) n1))] rfl h0 z
theorem Zww (h0 : c + 1000 * (b + 1) ≤ 24000) (h1 : a + 500 * d ≤ c + 1000) : a + 1000 * b ≤ 24000 := Xa fun z => far [] [a, b, c, d] [(1000, .L (.a n2 (.m 1000 (.a n1 (.n 1)))) (.n 24000)), (1000, .L (.a n0 (.m 500 n3)) (.a n2 (.n 1000))), (1000, .T (.n 24000) (.a n0 (.m 1000 n1)))] rfl h0 h1 z
theorem Zwv (h0 : b + (c + 1) ≤ 24) (h1 : d + 1000 * (c + 1) ≤ 24000) (h2 : a + 500 * (e + 1) ≤ d + 1000) : a ≤ 80000 := Xa fun z => far [] [a, c, d, e] [(1, .L (.a n2 (.m 1000 (.a n1 (.n 1)))) (.n 24000)), (1, .L (.a n0 (.m 500 (.a n3 (.n 1)))) (.a n2 (.n 1000))), (1, .T (.n 80000) n0)] rfl h1 h2 z
theorem Zwu (h0 : d + 500 * (b + 1) ≤ c + 1000) (h1 : a ≤ d + 500) : a + 500 * b ≤ c + 1000 := Xa fun z => far [] [a, b, c, d] [(500, .L (.a n3 (.m 500 (.a n1 (.n 1)))) (.a n2 (.n 1000))), (500, .L n0 (.a n3 (.n 500))), (500, .T (.a n2 (.n 1000)) (.a n0 (.m 500 n1)))] rfl h0 h1 z
theorem Zwt (h0 : b ≤ 40) (h1 : a = b) : (a : Int) ≤ 40 := Zao fun z => far [] [a, b] [(1, .L n1 (.n 40)), (1, .L n0 n1), (1, .t (.n 40) (.c n0))] rfl h0 (Nat.le_of_eq h1) z
theorem Zws (h0 : a ≤ 40) (h1 : b = a) (h2 : (b : Int) < 40) : a < 40 := Zc8 fun z => far [] [a, b] [(1, .L n0 n1), (1, .t (.c n1) (.n 40)), (1, .L (.n 40) n0)] rfl (Nat.le_of_eq h1.symm) h2 z
theorem Zth (h0 : 7 ≤ a) : 2 ≤ a := Xa fun z => far [] [a] [(1, .L (.n 7) n0), (1, .T n0 (.n 2))] rfl h0 z
theorem Zrd (h0 : 7 ≤ a) : 4 ≤ a := Xa fun z => far [] [a] [(1, .L (.n 7) n0), (1, .T n0 (.n 4))] rfl h0 z
theorem Zwr (h0 : 7 ≤ a) : 3 ≤ a := Xa fun z => far [] [a] [(1, .L (.n 7) n0), (1, .T n0 (.n 3))] rfl h0 z
theorem Zus (h0 : 7 ≤ a) : 6 ≤ a := Xa fun z => far [] [a] [(1, .L (.n 7) n0), (1, .T n0 (.n 6))] rfl h0 z
theorem Zwq (h0 : 7 ≤ a) : 5 ≤ a := Xa fun z => far [] [a] [(1, .L (.n 7) n0), (1, .T n0 (.n 5))] rfl h0 z
theorem Z35 (h0 : ¬(((63 : Nat) : Int) < (a : Int))) : a ≤ 63 := Xa fun z => far [] [a] [(1, .l (.c n0) (.c (.n 63))), (1, .T (.n 63) n0)] rfl (Int.not_lt.1 h0) z
theorem Z34 (h0 : ¬(((63 : Nat) : Int) < (a : Int))) : a ≤ 1000 := Xa fun z => far [] [a] [(1, .l (.c n0) (.c (.n 63))), (1, .T (.n 1000) n0)] rfl (Int.not_lt.1 h0) z
end
section
open PySem PySem.W PyProof.Rows
noncomputable def top (i : Nat) : Stmt := (PySem.Challenge.pw_uf040033_04.main.body[i]?).getD (.Pass ⟨0, 0, 0, 0⟩)
noncomputable def Zb1 : Stmt → Nat → Stmt
  | .ClassDef _ _ _ b _ _ _ _ _ _ _, i => (b[i]?).getD (.Pass ⟨0, 0, 0, 0⟩)
  | s, _ => s
noncomputable def fnO (s : Stmt) (q : String) (m : Value) (c : Nat) : Obj := match s with
  | .FunctionDef n as b _ _ _ sc _ _ _ => { cls := .type "function", data := .func { name := n, qualname := Str.ofString q, params := as, body := .stmts b, scope := sc, globals := 3, closure := [], defaults := .none, kwdefaults := .none, pyModule := m, code := .ref c } }
  | _ => { cls := .none, data := .dict #[] 0 }
noncomputable def ent (P : Params) (n : String) (t : Nat) (v : Value) : DictEntry := ⟨PyData.keyHash P (Str.ofString n), .str (Str.ofString n) t, v⟩
noncomputable def cdO (n q : String) (t l a b f r k u : Nat) : Obj :=
  let st (x : String) (y : Nat) : Value := .str (Str.ofString x) y
  { cls := .type "code", data := .fields #[st n t, st q (t + 1), st "/claim/cut.py" (t + 2), .int l 0, .int a 0, .int 0 0, .int 0 0, .int f 0, .ref r, .bool true, .int b 0, .ref (r + 1), .none, .ref (r + 2), .ref (r + 3), .ref (r + 4), .int k 0, .int l 0, st "/claim/cut.py" u] }
noncomputable def cdN (n q : String) (t l a b f r k u : Nat) : Obj :=
  let st (x : String) (y : Nat) : Value := .str (Str.ofString x) y
  { cls := .type "code", data := .fields #[st n t, st q (t + 1), st "/claim/cut.py" (t + 2), .int l 0, .int a 0, .int 0 0, .int 0 0, .int f 0, .ref r, .bool true, .int b 0, .ref (r + 1), .none, .none, .none, .ref (r + 2), .int k 0, .int l 0, st "/claim/cut.py" u] }
noncomputable def KK (P : Params) : Frag :=
  [(2, { cls := Value.none, data := Data.dict #[] }),
   (3, { cls := Value.type "dict", data := Data.dict #[ent P "__name__" 165 (Value.str (Str.ofString "law_uf040033_04") 567), ent P "__doc__" 166 (Value.none), ent P "__package__" 167 (Value.none), ent P "__loader__" 168 (Value.builtin "__main__.__loader__#opaque"), ent P "__spec__" 169 (Value.none), ent P "__annotations__" 170 (Value.ref 6), ent P "__builtins__" 171 (Value.ref 4), ent P "__file__" 173 (Value.str (Str.ofString "/claim/cut.py") 172), ent P "__cached__" 174 (Value.none), ent P "PairError" 206 (Value.ref 24), ent P "BadCount" 222 (Value.ref 37), ent P "BadSide" 238 (Value.ref 49), ent P "BadEnd" 254 (Value.ref 61), ent P "TooMany" 270 (Value.ref 73), ent P "NoPair" 286 (Value.ref 85), ent P "BadHue" 302 (Value.ref 97), ent P "NotFree" 318 (Value.ref 109), ent P "MOST_ENDS" 322 (Value.int 8 321), ent P "MOST_PAIRS" 324 (Value.int 40 323), ent P "LEFT" 326 (Value.str (Str.ofString "left") 325), ent P "RIGHT" 328 (Value.str (Str.ofString "right") 327), ent P "is_number" 335 (Value.ref 118), ent P "other_side" 342 (Value.ref 125), ent P "Hall" 566 (Value.ref 277), ent P "_law_cell_at" 576 (Value.ref 288), ent P "_law_mixed" 584 (Value.ref 295), ent P "_law_whole" 591 (Value.ref 302), ent P "_law_count" 601 (Value.ref 309), ent P "_law_index" 610 (Value.ref 316), ent P "_law_free" 616 (Value.ref 321), ent P "_law_chain" 630 (Value.ref 328), ent P "_law_sizes" 643 (Value.ref 335), ent P "_law_is_way" 657 (Value.ref 342), ent P "_law_put" 663 (Value.ref 347), ent P "_law_come" 674 (Value.ref 354), ent P "_law_gone" 680 (Value.ref 359), ent P "_law_sizes_by" 688 (Value.ref 366), ent P "_law_ends" 694 (Value.ref 371), ent P "_law_deed" 704 (Value.ref 378), ent P "_law_list" 710 (Value.ref 383), ent P "_law_fullest" 716 (Value.ref 388), ent P "_law_told" 722 (Value.ref 393), ent P "_law_stands" 728 (Value.ref 398), ent P "_law_done" 738 (Value.ref 405), ent P "law" 744 (Value.ref 410)] 45 }),
   (117, cdO "is_number" "is_number" 329 23 1 181 3 112 333 334),
   (118, fnO (top 14) "is_number" (Value.str (Str.ofString "pairhues.halls") 319) 117),
   (124, cdO "other_side" "other_side" 336 25 1 181 3 119 340 341),
   (125, fnO (top 15) "other_side" (Value.str (Str.ofString "pairhues.halls") 319) 124),
   (138, cdO "__init__" "Hall.__init__" 355 31 3 181 3 133 362 363),
   (139, fnO (Zb1 (top 16) 0) "Hall.__init__" (Value.str (Str.ofString "pairhues.halls") 319) 138),
   (145, cdO "need_end" "Hall.need_end" 365 39 3 181 3 140 371 372),
   (146, fnO (Zb1 (top 16) 1) "Hall.need_end" (Value.str (Str.ofString "pairhues.halls") 319) 145),
   (152, cdO "need_place" "Hall.need_place" 374 43 3 181 3 147 380 381),
   (153, fnO (Zb1 (top 16) 2) "Hall.need_place" (Value.str (Str.ofString "pairhues.halls") 319) 152),
   (159, cdO "end_of" "Hall.end_of" 383 48 3 181 3 154 389 390),
   (160, fnO (Zb1 (top 16) 3) "Hall.end_of" (Value.str (Str.ofString "pairhues.halls") 319) 159),
   (164, cdN "met" "Hall.met" 392 53 3 181 3 161 395 396),
   (165, fnO (Zb1 (top 16) 4) "Hall.met" (Value.str (Str.ofString "pairhues.halls") 319) 164),
   (169, cdN "count" "Hall.count" 398 56 1 181 3 166 401 402),
   (170, fnO (Zb1 (top 16) 5) "Hall.count" (Value.str (Str.ofString "pairhues.halls") 319) 169),
   (174, cdN "open_hues" "Hall.open_hues" 404 62 4 181 3 171 407 408),
   (175, fnO (Zb1 (top 16) 6) "Hall.open_hues" (Value.str (Str.ofString "pairhues.halls") 319) 174),
   (181, cdO "with_hue" "Hall.with_hue" 410 66 4 181 3 176 418 419),
   (182, fnO (Zb1 (top 16) 7) "Hall.with_hue" (Value.str (Str.ofString "pairhues.halls") 319) 181),
   (188, cdO "chain_from" "Hall.chain_from" 421 72 5 181 3 183 432 433),
   (189, fnO (Zb1 (top 16) 8) "Hall.chain_from" (Value.str (Str.ofString "pairhues.halls") 319) 188),
   (195, cdO "turn" "Hall.turn" 435 83 4 181 3 190 443 444),
   (196, fnO (Zb1 (top 16) 9) "Hall.turn" (Value.str (Str.ofString "pairhues.halls") 319) 195),
   (202, cdO "ways" "Hall.ways" 446 87 4 181 3 197 457 458),
   (203, fnO (Zb1 (top 16) 10) "Hall.ways" (Value.str (Str.ofString "pairhues.halls") 319) 202),
   (207, cdN "hued" "Hall.hued" 460 97 5 181 3 204 463 464),
   (208, fnO (Zb1 (top 16) 11) "Hall.hued" (Value.str (Str.ofString "pairhues.halls") 319) 207),
   (214, cdO "come" "Hall.come" 466 108 3 181 3 209 473 474),
   (215, fnO (Zb1 (top 16) 12) "Hall.come" (Value.str (Str.ofString "pairhues.halls") 319) 214),
   (221, cdO "need_pair" "Hall.need_pair" 476 118 2 181 3 216 481 482),
   (222, fnO (Zb1 (top 16) 13) "Hall.need_pair" (Value.str (Str.ofString "pairhues.halls") 319) 221),
   (228, cdO "go" "Hall.go" 484 122 2 181 3 223 493 494),
   (229, fnO (Zb1 (top 16) 14) "Hall.go" (Value.str (Str.ofString "pairhues.halls") 319) 228),
   (235, cdO "pairs" "Hall.pairs" 496 134 1 181 3 230 505 506),
   (236, fnO (Zb1 (top 16) 15) "Hall.pairs" (Value.str (Str.ofString "pairhues.halls") 319) 235),
   (242, cdO "hue_of" "Hall.hue_of" 508 141 2 181 3 237 513 514),
   (243, fnO (Zb1 (top 16) 16) "Hall.hue_of" (Value.str (Str.ofString "pairhues.halls") 319) 242),
   (249, cdO "is_hue" "Hall.is_hue" 516 145 2 181 3 244 521 522),
   (250, fnO (Zb1 (top 16) 17) "Hall.is_hue" (Value.str (Str.ofString "pairhues.halls") 319) 249),
   (254, cdN "of_hue" "Hall.of_hue" 524 148 2 181 3 251 527 528),
   (255, fnO (Zb1 (top 16) 18) "Hall.of_hue" (Value.str (Str.ofString "pairhues.halls") 319) 254),
   (261, cdO "free" "Hall.free" 530 153 3 181 3 256 536 537),
   (262, fnO (Zb1 (top 16) 19) "Hall.free" (Value.str (Str.ofString "pairhues.halls") 319) 261),
   (266, cdN "fullest" "Hall.fullest" 539 157 1 181 3 263 542 543),
   (267, fnO (Zb1 (top 16) 20) "Hall.fullest" (Value.str (Str.ofString "pairhues.halls") 319) 266),
   (273, cdO "chain" "Hall.chain" 545 165 5 181 3 268 553 554),
   (274, fnO (Zb1 (top 16) 21) "Hall.chain" (Value.str (Str.ofString "pairhues.halls") 319) 273),
   (276, { cls := Value.type "dict", data := Data.dict #[ent P "__module__" 350 (Value.str (Str.ofString "pairhues.halls") 319), ent P "__firstlineno__" 354 (Value.int 29 353), ent P "__init__" 364 (Value.ref 139), ent P "need_end" 373 (Value.ref 146), ent P "need_place" 382 (Value.ref 153), ent P "end_of" 391 (Value.ref 160), ent P "met" 397 (Value.ref 165), ent P "count" 403 (Value.ref 170), ent P "open_hues" 409 (Value.ref 175), ent P "with_hue" 420 (Value.ref 182), ent P "chain_from" 434 (Value.ref 189), ent P "turn" 445 (Value.ref 196), ent P "ways" 459 (Value.ref 203), ent P "hued" 465 (Value.ref 208), ent P "come" 475 (Value.ref 215), ent P "need_pair" 483 (Value.ref 222), ent P "go" 495 (Value.ref 229), ent P "pairs" 507 (Value.ref 236), ent P "hue_of" 515 (Value.ref 243), ent P "is_hue" 523 (Value.ref 250), ent P "of_hue" 529 (Value.ref 255), ent P "free" 538 (Value.ref 262), ent P "fullest" 544 (Value.ref 267), ent P "chain" 555 (Value.ref 274), ent P "__static_attributes__" 559 (Value.ref 275), ent P "__dict__" 561 (Value.ref 278), ent P "__weakref__" 563 (Value.ref 279), ent P "__doc__" 564 (Value.none)] 4 }),
   (277, { cls := Value.type "type", data := Data.cls { name := Str.ofString "Hall", bases := [Value.type "object"], mro := [Value.ref 277, Value.type "object"], ns := 276, qualname := Str.ofString "Hall" }, slots := #[none, none, some (Value.str (Str.ofString "Hall") 343), some (Value.str (Str.ofString "Hall") 351), some (Value.builtin "object.__new__"), some (Value.bool true)] }),
   (287, cdO "_law_cell_at" "_law_cell_at" 569 173 2 181 3 282 574 575),
   (288, fnO (top 18) "_law_cell_at" (Value.str (Str.ofString "law_uf040033_04") 567) 287),
   (294, cdO "_law_mixed" "_law_mixed" 577 177 2 181 3 289 582 583),
   (295, fnO (top 19) "_law_mixed" (Value.str (Str.ofString "law_uf040033_04") 567) 294),
   (301, cdO "_law_whole" "_law_whole" 585 179 1 181 3 296 589 590),
   (302, fnO (top 20) "_law_whole" (Value.str (Str.ofString "law_uf040033_04") 567) 301),
   (308, cdO "_law_count" "_law_count" 592 181 1 181 3 303 599 600),
   (309, fnO (top 21) "_law_count" (Value.str (Str.ofString "law_uf040033_04") 567) 308),
   (315, cdO "_law_index" "_law_index" 602 187 1 181 3 310 608 609),
   (316, fnO (top 22) "_law_index" (Value.str (Str.ofString "law_uf040033_04") 567) 315),
   (320, cdN "_law_free" "_law_free" 611 193 4 181 3 317 614 615),
   (321, fnO (top 23) "_law_free" (Value.str (Str.ofString "law_uf040033_04") 567) 320),
   (327, cdO "_law_chain" "_law_chain" 617 196 5 181 3 322 628 629),
   (328, fnO (top 24) "_law_chain" (Value.str (Str.ofString "law_uf040033_04") 567) 327),
   (334, cdO "_law_sizes" "_law_sizes" 631 206 3 181 3 329 641 642),
   (335, fnO (top 25) "_law_sizes" (Value.str (Str.ofString "law_uf040033_04") 567) 334),
   (341, cdO "_law_is_way" "_law_is_way" 644 213 6 181 3 336 655 656),
   (342, fnO (top 26) "_law_is_way" (Value.str (Str.ofString "law_uf040033_04") 567) 341),
   (346, cdN "_law_put" "_law_put" 658 221 5 181 3 343 661 662),
   (347, fnO (top 27) "_law_put" (Value.str (Str.ofString "law_uf040033_04") 567) 346),
   (353, cdO "_law_come" "_law_come" 664 241 4 181 3 348 672 673),
   (354, fnO (top 28) "_law_come" (Value.str (Str.ofString "law_uf040033_04") 567) 353),
   (358, cdN "_law_gone" "_law_gone" 675 245 3 181 3 355 678 679),
   (359, fnO (top 29) "_law_gone" (Value.str (Str.ofString "law_uf040033_04") 567) 358),
   (365, cdO "_law_sizes_by" "_law_sizes_by" 681 260 1 181 3 360 686 687),
   (366, fnO (top 30) "_law_sizes_by" (Value.str (Str.ofString "law_uf040033_04") 567) 365),
   (370, cdN "_law_ends" "_law_ends" 689 263 3 181 3 367 692 693),
   (371, fnO (top 31) "_law_ends" (Value.str (Str.ofString "law_uf040033_04") 567) 370),
   (377, cdO "_law_deed" "_law_deed" 695 271 4 181 3 372 702 703),
   (378, fnO (top 32) "_law_deed" (Value.str (Str.ofString "law_uf040033_04") 567) 377),
   (382, cdN "_law_list" "_law_list" 705 275 4 181 3 379 708 709),
   (383, fnO (top 33) "_law_list" (Value.str (Str.ofString "law_uf040033_04") 567) 382),
   (387, cdN "_law_fullest" "_law_fullest" 711 283 2 181 3 384 714 715),
   (388, fnO (top 34) "_law_fullest" (Value.str (Str.ofString "law_uf040033_04") 567) 387),
   (392, cdN "_law_told" "_law_told" 717 287 6 181 3 389 720 721),
   (393, fnO (top 35) "_law_told" (Value.str (Str.ofString "law_uf040033_04") 567) 392),
   (397, cdN "_law_stands" "_law_stands" 723 321 5 181 3 394 726 727),
   (398, fnO (top 36) "_law_stands" (Value.str (Str.ofString "law_uf040033_04") 567) 397),
   (404, cdO "_law_done" "_law_done" 729 324 4 181 3 399 736 737),
   (405, fnO (top 37) "_law_done" (Value.str (Str.ofString "law_uf040033_04") 567) 404),
   (409, cdN "law" "law" 739 328 1 181 3 406 742 743),
   (410, fnO (top 38) "law" (Value.str (Str.ofString "law_uf040033_04") 567) 409)]
theorem Z19 (P : Params) : [2, 3, 117, 118, 124, 125, 138, 139, 145, 146, 152, 153, 159, 160, 164, 165, 169, 170, 174, 175, 181, 182, 188, 189, 195, 196, 202, 203, 207, 208, 214, 215, 221, 222, 228, 229, 235, 236, 242, 243, 249, 250, 254, 255, 261, 262, 266, 267, 273, 274, 276, 277, 287, 288, 294, 295, 301, 302, 308, 309, 315, 316, 320, 321, 327, 328, 334, 335, 341, 342, 346, 347, 353, 354, 358, 359, 365, 366, 370, 371, 377, 378, 382, 383, 387, 388, 392, 393, 397, 398, 404, 405, 409, 410] = (KK P).map (·.1) := rfl
noncomputable def HKK : Hook := kHook KK _ Z19
noncomputable def qq : Program := view PySem.Challenge.pw_uf040033_04 [38]
noncomputable def LL : List Str := [Str.ofString "__name__", Str.ofString "PairError", Str.ofString "BadCount", Str.ofString "BadSide", Str.ofString "BadEnd", Str.ofString "TooMany", Str.ofString "NoPair", Str.ofString "BadHue", Str.ofString "NotFree", Str.ofString "MOST_ENDS", Str.ofString "MOST_PAIRS", Str.ofString "LEFT", Str.ofString "RIGHT", Str.ofString "is_number", Str.ofString "other_side", Str.ofString "Hall", Str.ofString "_law_cell_at", Str.ofString "_law_mixed", Str.ofString "_law_whole", Str.ofString "_law_count", Str.ofString "_law_index", Str.ofString "_law_free", Str.ofString "_law_chain", Str.ofString "_law_sizes", Str.ofString "_law_is_way", Str.ofString "_law_put", Str.ofString "_law_come", Str.ofString "_law_gone", Str.ofString "_law_sizes_by", Str.ofString "_law_ends", Str.ofString "_law_deed", Str.ofString "_law_list", Str.ofString "_law_fullest", Str.ofString "_law_told", Str.ofString "_law_stands", Str.ofString "_law_done"]
theorem Zvc (w : World) (os : OsState) : (topFrom treeTable PySem.Challenge.pw_uf040033_04 w 8000 ⟨boot_heap (w).params, Array.mk [], boot_drawn, boot_toks, os⟩).map (fun s => (openSeen qq LL (importedModules PySem.Challenge.pw_uf040033_04.main.body) (fun s => xlAt qq [] s && recOk [] s) true s, Hook.obs HKK s)) = some (openGood qq LL, Hook.val HKK w) := by unfold topFrom; rw [PySem.W.Fast.te14082659384304107361, PySem.W.Fast.te4187177175401517315, PySem.W.Fast.te14364793385576792824]; kernel_rfl
theorem Zoo {s : Shared} {h : Heap} {gs : Array GenState} {d : Drawn} {k : Nat} (e : (s.heap, s.gens, s.drawn, s.toks) = (h, gs, d, k)) : s = ⟨h, gs, d, k, s.os⟩ := by cases s; cases e; rfl
theorem Ztm (w : World) (h : ∀ os, (topFrom treeTable PySem.Challenge.pw_uf040033_04 w 8000 ⟨boot_heap w.params, Array.mk [], boot_drawn, boot_toks, os⟩).map (fun s => (openSeen qq LL (importedModules PySem.Challenge.pw_uf040033_04.main.body) (fun s => xlAt qq [] s && recOk [] s) true s, Hook.obs HKK s)) = some (openGood qq LL, Hook.val HKK w)) :
    (openEnds treeTable PySem.Challenge.pw_uf040033_04 w 8000).map (fun s => (openSeen qq LL (importedModules PySem.Challenge.pw_uf040033_04.main.body) (fun s => xlAt qq [] s && recOk [] s) true s, Hook.obs HKK s)) = some (openGood qq LL, Hook.val HKK w) := by
  obtain ⟨s, e, v⟩ := Option.map_eq_some_iff.mp (boot_open (p := PySem.Challenge.pw_uf040033_04) (N := 8000) (by kernel_rfl) (by kernel_rfl) (fun _ => by kernel_rfl) w)
  have q := h s.os
  rw [← Zoo v] at q
  unfold openEnds
  rw [e]
  exact q
theorem left : LeftO PySem.Challenge.pw_uf040033_04 qq LL (fun s => xlAt qq [] s && recOk [] s) (Hook.obs HKK) (Hook.val HKK) 8000 := fun w => Ztm w (Zvc w)
theorem said : PySem.Challenge.rw_uf040033_04.wellSaid = true := by kernel_rfl
end
section
open PySem
inductive V where
  | none
  | bool (b : Bool)
  | int (i : Int)
  | str (x : Str)
  | ref (a : Addr)
  | tup (xs : List V)
  | frz (xs : List V)
inductive AO where
  | list (xs : List V)
  | dictI (kvs : List (Int × V)) (ep : Nat)
  | dictS (kvs : List (Str × V)) (ep : Nat)
  | dictT (kvs : List (List Int × V)) (ep : Nat)
  | inst (C d : Addr)
  | attrs (kvs : List (Str × V))
noncomputable abbrev AH := Addr → Option AO
noncomputable abbrev Loc := String → Option V
noncomputable def AH.set (σ : AH) (a : Addr) (o : AO) : AH := fun b => if b = a then some o else σ b
noncomputable def Loc.set (ℓ : Loc) (i : String) (v : V) : Loc := fun j => cond (j == i) (some v) (ℓ j)
theorem Zad {ℓ : Loc} {i j : String} {v : V} : (ℓ.set i v) j = if j = i then some v else ℓ j := by
  unfold Loc.set
  by_cases h : j = i
  · rw [if_pos h, beq_iff_eq.mpr h]; rfl
  · rw [if_neg h, beq_eq_false_iff_ne.mpr h]; rfl
structure Gr where
  prog : Program
  w : World
  b0 : Heap
  /-- tuples that the interpreter keeps to itself: no value is one of them -/
  hid : Addr → Prop
noncomputable def Gr.wh (g : Gr) (H : Addr → Prop) : Gr := { g with hid := H }
noncomputable def Xv (n : Nat) : Prop := n ≤ 1000000
theorem Yh {n : Nat} (h : Nat.ble n 1000000 = true) : Xv n := Nat.le_of_ble_eq_true h
theorem Xv.line {n : Nat} (h : Xv n) : n ≤ sizeLine := by unfold Xv at h; have : sizeLine = 16777216 := rfl; exact om0 h this
theorem Xv.le {n m : Nat} (h : Xv n) (k : m ≤ n) : Xv m := Nat.le_trans k h
theorem Xv.fit {n : Nat} (h : Xv n) : (n : Int) < 2 ^ 63 := by unfold Xv at h; exact om1 h
mutual
noncomputable def VR (g : Gr) (h : Heap) : V → Value → Prop
  | .none, v => v = .none
  | .bool b, v => v = .bool b
  | .int i, v => ∃ t, v = .int i t
  | .str x, v => Xv x.length ∧ ∃ t, v = .str x t
  | .ref a, v => v = .ref a
  | .tup xs, v => Xv xs.length ∧ ∃ a o vs n, v = .ref a ∧ ¬ g.hid a ∧ h.get? a = some o ∧ o.cls = .type "tuple" ∧ o.data = .seq vs n ∧ VRs g h xs vs.toList
  | .frz xs, v => Xv xs.length ∧ ∃ a o vs n, v = .ref a ∧ g.b0.get? a = some o ∧ o.cls = .type "list" ∧ o.data = .seq vs n ∧ VRs g h xs vs.toList
noncomputable def VRs (g : Gr) (h : Heap) : List V → List Value → Prop
  | [], vs => vs = []
  | x :: xs, vs => ∃ v r, vs = v :: r ∧ VR g h x v ∧ VRs g h xs r
end
section
variable {g : Gr} {h h' : Heap}
theorem W6 {v : Value} : VR g h .none v ↔ v = .none := by unfold VR; exact Iff.rfl
theorem Wo {b : Bool} {v : Value} : VR g h (.bool b) v ↔ v = .bool b := by unfold VR; exact Iff.rfl
theorem Z9 {i : Int} {v : Value} : VR g h (.int i) v ↔ ∃ t, v = .int i t := by unfold VR; exact Iff.rfl
theorem Y9 {x : Str} {v : Value} : VR g h (.str x) v ↔ Xv x.length ∧ ∃ t, v = .str x t := by unfold VR; exact Iff.rfl
theorem Yi {a : Addr} {v : Value} : VR g h (.ref a) v ↔ v = .ref a := by unfold VR; exact Iff.rfl
inductive Zvv (g : Gr) (h : Heap) (xs : List V) (v : Value) : Prop
  | mk (hf : Xv xs.length) (a : Addr) (o : Obj) (vs : Array Value) (n : Nat) (e : v = .ref a) (nh : ¬ g.hid a) (ho : h.get? a = some o) (hc : o.cls = .type "tuple") (hd : o.data = .seq vs n) (r : VRs g h xs vs.toList) : Zvv g h xs v
inductive Zv3 (g : Gr) (h : Heap) (xs : List V) (v : Value) : Prop
  | mk (hf : Xv xs.length) (a : Addr) (o : Obj) (vs : Array Value) (n : Nat) (e : v = .ref a) (ho : g.b0.get? a = some o) (hc : o.cls = .type "list") (hd : o.data = .seq vs n) (r : VRs g h xs vs.toList) : Zv3 g h xs v
inductive Zsz (g : Gr) (h : Heap) (x : V) (xs : List V) (vs : List Value) : Prop
  | mk (v : Value) (r : List Value) (e : vs = v :: r) (a : VR g h x v) (b : VRs g h xs r) : Zsz g h x xs vs
theorem Wq {xs : List V} {v : Value} : VR g h (.tup xs) v ↔ Zvv g h xs v := by
  rw [VR]; exact ⟨fun ⟨a, b, c, d, e, f, g, h, i, j, k⟩ => ⟨a, b, c, d, e, f, g, h, i, j, k⟩, fun ⟨a, b, c, d, e, f, g, h, i, j, k⟩ => ⟨a, b, c, d, e, f, g, h, i, j, k⟩⟩
theorem Zc5 {xs : List V} {v : Value} : VR g h (.frz xs) v ↔ Zv3 g h xs v := by
  rw [VR]; exact ⟨fun ⟨a, b, c, d, e, f, g, h, i, j⟩ => ⟨a, b, c, d, e, f, g, h, i, j⟩, fun ⟨a, b, c, d, e, f, g, h, i, j⟩ => ⟨a, b, c, d, e, f, g, h, i, j⟩⟩
theorem Xq : VRs g h [] [] := by unfold VRs; rfl
theorem Ys {x : V} {xs : List V} {v : Value} {vs : List Value} (a : VR g h x v) (b : VRs g h xs vs) : VRs g h (x :: xs) (v :: vs) := by
  unfold VRs; exact ⟨v, vs, rfl, a, b⟩
theorem Zn {x : V} {xs : List V} {vs : List Value} (a : VRs g h (x :: xs) vs) : Zsz g h x xs vs := by
  unfold VRs at a; exact let ⟨v, r, e, a, b⟩ := a; ⟨v, r, e, a, b⟩
theorem Z2 {vs : List Value} (a : VRs g h [] vs) : vs = [] := by
  unfold VRs at a; exact a
theorem Zz : ∀ {xs : List V} {vs : List Value}, VRs g h xs vs → xs.length = vs.length
  | [], vs, a => by rw [Z2 a]; rfl
  | x :: xs, vs, a => by obtain ⟨v, r, rfl, _, b⟩ := Zn a; simp [Zz b]
theorem Zee : ∀ {xs : List V} {vs : List Value}, VRs g h xs vs → ∀ {i : Nat} {x : V}, xs[i]? = some x → ∃ v, vs[i]? = some v ∧ VR g h x v
  | [], vs, a, i, x, e => by simp at e
  | y :: xs, vs, a, i, x, e => by
    obtain ⟨v, r, rfl, hv, b⟩ := Zn a
    cases i with
    | zero => simp at e; subst e; exact ⟨v, by simp, hv⟩
    | succ i => simp at e; obtain ⟨w, h1, h2⟩ := Zee b e; exact ⟨w, by simpa using h1, h2⟩
theorem Zbn : ∀ {xs ys : List V} {vs us : List Value}, VRs g h xs vs → VRs g h ys us → VRs g h (xs ++ ys) (vs ++ us)
  | [], ys, vs, us, a, b => by rw [Z2 a]; exact b
  | x :: xs, ys, vs, us, a, b => by obtain ⟨v, r, rfl, hv, c⟩ := Zn a; exact Ys hv (Zbn c b)
theorem Zmj {xs : List V} {x : V} {vs : List Value} {v : Value} (a : VRs g h xs vs) (b : VR g h x v) : VRs g h (xs ++ [x]) (vs ++ [v]) :=
  Zbn a (Ys b Xq)
theorem Zi9 : ∀ {xs : List V} {vs : List Value} (n : Nat), VRs g h xs vs → VRs g h (xs.drop n) (vs.drop n)
  | xs, vs, 0, a => a
  | [], vs, n + 1, a => by rw [Z2 a]; exact Xq
  | x :: xs, vs, n + 1, a => by obtain ⟨v, r, rfl, hv, b⟩ := Zn a; exact Zi9 n b
theorem Zmi : ∀ {xs : List V} {vs : List Value} (n : Nat), VRs g h xs vs → VRs g h (xs.take n) (vs.take n)
  | xs, vs, 0, a => Xq
  | [], vs, n + 1, a => by rw [Z2 a]; exact Xq
  | x :: xs, vs, n + 1, a => by obtain ⟨v, r, rfl, hv, b⟩ := Zn a; exact Ys hv (Zmi n b)
end
noncomputable def Zlh (h' : Heap) (a : Addr) (o : Obj) : Prop := h'.get? a = some o ∨ ∃ es n sl, o.data = .dict es n ∧ h'.get? a = some { o with slots := sl }
theorem Zlh.of {h' : Heap} {a : Addr} {o : Obj} (e : h'.get? a = some o) : Zlh h' a o := .inl e
theorem Zlh.sl {h' : Heap} {a : Addr} {o : Obj} (x : Zlh h' a o) : ∃ sl, h'.get? a = some { o with slots := sl } := by
  rcases x with e | ⟨_, _, sl, _, e⟩
  · exact ⟨o.slots, e⟩
  · exact ⟨sl, e⟩
theorem Zlh.exact {h' : Heap} {a : Addr} {o : Obj} (x : Zlh h' a o) (hd : ∀ es n, o.data ≠ .dict es n) : h'.get? a = some o := by
  rcases x with e | ⟨es, n, _, e, _⟩
  · exact e
  · exact absurd e (hd es n)
theorem Zlh.then {h' h'' : Heap} {a : Addr} {o : Obj} (x : Zlh h' a o) (k : ∀ o', h'.get? a = some o' → Zlh h'' a o') : Zlh h'' a o := by
  rcases x with e | ⟨es, n, sl, d, e⟩
  · exact k o e
  · obtain ⟨sl', e'⟩ := (k _ e).sl
    exact .inr ⟨es, n, sl', d, e'⟩
noncomputable def Y2 (g : Gr) (h h' : Heap) : Prop := ∀ a o vs n, ¬ g.hid a → h.get? a = some o → o.cls = .type "tuple" → o.data = .seq vs n → Zlh h' a o
mutual
theorem VR.mono {g : Gr} {h h' : Heap} (k : Y2 g h h') : ∀ {x : V} {v : Value}, VR g h x v → VR g h' x v
  | .none, v, a => by rw [W6] at a ⊢; exact a
  | .bool b, v, a => by rw [Wo] at a ⊢; exact a
  | .int i, v, a => by rw [Z9] at a ⊢; exact a
  | .str x, v, a => by rw [Y9] at a ⊢; exact a
  | .ref b, v, a => by rw [Yi] at a ⊢; exact a
  | .tup xs, v, a => by
    rw [Wq] at a ⊢
    obtain ⟨hf, b, o, vs, n, e, nh, ho, hc, hd, r⟩ := a
    have ho' := (k _ _ _ _ nh ho hc hd).exact (by rw [hd]; intros; exact Data.noConfusion)
    exact ⟨hf, b, _, vs, n, e, nh, ho', hc, hd, VRs.mono k r⟩
  | .frz xs, v, a => by
    rw [Zc5] at a ⊢
    obtain ⟨hf, b, o, vs, n, e, ho, hc, hd, r⟩ := a
    exact ⟨hf, b, o, vs, n, e, ho, hc, hd, VRs.mono k r⟩
theorem VRs.mono {g : Gr} {h h' : Heap} (k : Y2 g h h') : ∀ {xs : List V} {vs : List Value}, VRs g h xs vs → VRs g h' xs vs
  | [], vs, a => by rw [Z2 a]; exact Xq
  | x :: xs, vs, a => by
    obtain ⟨v, r, rfl, hv, c⟩ := Zn a
    exact Ys (VR.mono k hv) (VRs.mono k c)
end
noncomputable def Zll (g : Gr) (h : Heap) (d : Addr) (xs : List (List Int × Addr × Value)) (ep : Nat) : Prop :=
  ∃ o es, h.get? d = some o ∧ o.ExactDict ∧ o.data = .dict es ep ∧ es.toList = xs.map (entryOfKey (tupleKind (intKind g.prog g.w))) ∧ (∀ x ∈ xs, ¬ g.hid x.2.1 ∧ IsTupleKey (intKind g.prog g.w) h x.1 x.2.1) ∧ (xs.map (·.1)).Nodup
inductive Zsv (g : Gr) (h : Heap) (a : Addr) (xs : List V) : Prop
  | mk (hf : Xv xs.length) (vs : Array Value) (n : Nat) (e : h.get? a = some { cls := .type "list", data := .seq vs n }) (r : VRs g h xs vs.toList) : Zsv g h a xs
inductive Zqt (g : Gr) (h : Heap) (a : Addr) (kvs : List (Int × V)) (ep : Nat) : Prop
  | mk (hf : Xv kvs.length) (us : List (Int × Value)) (e : h.DictAt (intKind g.prog g.w) a us ep) (k : us.map (·.1) = kvs.map (·.1)) (r : VRs g h (kvs.map (·.2)) (us.map (·.2))) : Zqt g h a kvs ep
inductive Zqs (g : Gr) (h : Heap) (a : Addr) (kvs : List (Str × V)) (ep : Nat) : Prop
  | mk (hf : Xv kvs.length) (us : List (Str × Value)) (e : h.DictAt (strKind g.prog g.w) a us ep) (k : us.map (·.1) = kvs.map (·.1)) (r : VRs g h (kvs.map (·.2)) (us.map (·.2))) : Zqs g h a kvs ep
inductive Zqr (g : Gr) (h : Heap) (a : Addr) (kvs : List (List Int × V)) (ep : Nat) : Prop
  | mk (hf : Xv kvs.length) (us : List (List Int × Addr × Value)) (e : Zll g h a us ep) (k : us.map (·.1) = kvs.map (·.1)) (r : VRs g h (kvs.map (·.2)) (us.map (·.2.2))) : Zqr g h a kvs ep
noncomputable def OR (g : Gr) (h : Heap) (a : Addr) : AO → Prop
  | .list xs => Zsv g h a xs
  | .dictI kvs ep => Zqt g h a kvs ep
  | .dictS kvs ep => Zqs g h a kvs ep
  | .dictT kvs ep => Zqr g h a kvs ep
  | .inst C d => h.get? a = some { cls := .ref C, dict := some d, data := .plain }
  | .attrs kvs => Xv kvs.length ∧ ∃ m, h.Ns1 a m ∧ ∀ x, (∀ v, kvs.lookup x = some v → ∃ u, m x = some u ∧ VR g h v u) ∧ (kvs.lookup x = none → m x = none)
theorem Zby {g : Gr} {h : Heap} {a : Addr} {ao : AO} (x : OR g h a ao) : ∃ o, h.get? a = some o ∧ ∀ vs n, o.cls = .type "tuple" → o.data ≠ .seq vs n := by
  cases ao with
  | list xs => obtain ⟨_, vs, n, e, _⟩ := x; exact ⟨_, e, fun _ _ q => absurd q (by simp)⟩
  | dictI kvs ep => obtain ⟨_, us, ⟨o, es, ho, hc, _⟩, _⟩ := x; exact ⟨o, ho, fun _ _ q => absurd q (by rw [hc.1]; decide)⟩
  | dictS kvs ep => obtain ⟨_, us, ⟨o, es, ho, hc, _⟩, _⟩ := x; exact ⟨o, ho, fun _ _ q => absurd q (by rw [hc.1]; decide)⟩
  | dictT kvs ep => obtain ⟨_, us, ⟨o, es, ho, hc, _⟩, _⟩ := x; exact ⟨o, ho, fun _ _ q => absurd q (by rw [hc.1]; decide)⟩
  | inst C d => exact ⟨_, x, fun _ _ q => absurd q (by simp)⟩
  | attrs kvs => obtain ⟨_, m, ⟨o, es, ep, e, hd, _⟩, _⟩ := x; exact ⟨o, e, fun _ _ _ q => by rw [hd] at q; cases q⟩
theorem Zih {g : Gr} {h h' : Heap} (k : Y2 g h h') {ks : List Int} {a : Addr} (nh : ¬ g.hid a) (x : IsTupleKey (intKind g.prog g.w) h ks a) : IsTupleKey (intKind g.prog g.w) h' ks a := by
  obtain ⟨o, items, n, ho, hc, hd, hi⟩ := x
  have ho' := (k _ _ _ _ nh ho hc hd).exact (by rw [hd]; intros; exact Data.noConfusion)
  exact ⟨_, items, n, ho', hc, hd, hi⟩
theorem Zc3 {g : Gr} {h h' : Heap} {a : Addr} {ao : AO} (k : Y2 g h h') (e : ∀ o, h.get? a = some o → h'.get? a = some o) (x : OR g h a ao) : OR g h' a ao := by
  cases ao with
  | list xs => obtain ⟨hf, vs, n, ho, r⟩ := x; exact ⟨hf, vs, n, e _ ho, VRs.mono k r⟩
  | dictI kvs ep => obtain ⟨hf, us, ⟨o, es, ho, r⟩, q, p⟩ := x; exact ⟨hf, us, ⟨o, es, e _ ho, r⟩, q, VRs.mono k p⟩
  | dictS kvs ep => obtain ⟨hf, us, ⟨o, es, ho, r⟩, q, p⟩ := x; exact ⟨hf, us, ⟨o, es, e _ ho, r⟩, q, VRs.mono k p⟩
  | dictT kvs ep => obtain ⟨hf, us, ⟨o, es, ho, h1, h2, h3, h4, h5⟩, q, p⟩ := x; exact ⟨hf, us, ⟨o, es, e _ ho, h1, h2, h3, fun y hy => ⟨(h4 y hy).1, Zih k (h4 y hy).1 (h4 y hy).2⟩, h5⟩, q, VRs.mono k p⟩
  | inst C d => exact e _ x
  | attrs kvs => obtain ⟨hf, m, ⟨o, es, ep, ho, hr⟩, r⟩ := x; exact ⟨hf, m, ⟨o, es, ep, e _ ho, hr⟩, fun y => ⟨fun v q => let ⟨u, h1, h2⟩ := (r y).1 v q; ⟨u, h1, VR.mono k h2⟩, (r y).2⟩⟩
structure Rel (g : Gr) (h : Heap) (σ : AH) : Prop where
  hid : ∀ a, g.hid a → ∃ o, h.get? a = some o
  base : ∀ a o, g.b0.get? a = some o → h.get? a = some o
  own : ∀ a ao, σ a = some ao → g.b0.get? a = none ∧ OR g h a ao
structure Ext (W : Addr → Prop) (h : Heap) (σ : AH) (h' : Heap) (σ' : AH) : Prop where
  keep : ∀ a o, h.get? a = some o → σ a = none → ¬ W a → Zlh h' a o
  pres : ∀ a o, h.get? a = some o → ∃ o', h'.get? a = some o'
  dom : ∀ a, σ' a ≠ none → σ a ≠ none ∨ h.get? a = none
noncomputable abbrev No : Addr → Prop := fun _ => False
theorem Ext.refl {W : Addr → Prop} {h : Heap} {σ : AH} : Ext W h σ h σ :=
  ⟨fun _ _ e _ _ => .of e, fun _ o e => ⟨o, e⟩, fun _ e => .inl e⟩
theorem Ext.off {W : Addr → Prop} {h h' : Heap} {σ σ' : AH} (x : Ext W h σ h' σ') {a : Addr} {o : Obj} (e : h.get? a = some o) (n : σ a = none) : σ' a = none := by
  cases q : σ' a with
  | none => rfl
  | some _ =>
    rcases x.dom a (by rw [q]; simp) with z | z
    · exact absurd n z
    · rw [e] at z; cases z
theorem Ext.trans {W : Addr → Prop} {h h' h'' : Heap} {σ σ' σ'' : AH} (x : Ext W h σ h' σ') (y : Ext W h' σ' h'' σ'') : Ext W h σ h'' σ'' := by
  refine ⟨fun a o e n w => ?_, fun a o e => ?_, fun a q => ?_⟩
  · exact (x.keep a o e n w).then fun o' e' => y.keep a o' e' (x.off e n) w
  · obtain ⟨o', e'⟩ := x.pres a o e; exact y.pres a o' e'
  · rcases y.dom a q with z | z
    · exact x.dom a z
    · cases e : h.get? a with
      | none => exact .inr rfl
      | some o => obtain ⟨o', e'⟩ := x.pres a o e; rw [e'] at z; cases z
theorem Ext.weaken {W W' : Addr → Prop} {h h' : Heap} {σ σ' : AH} (x : Ext W h σ h' σ') (k : ∀ a, W a → W' a) : Ext W' h σ h' σ' :=
  ⟨fun a o e n w => x.keep a o e n fun q => w (k a q), x.pres, x.dom⟩
noncomputable def Zn0 (W : Addr → Prop) (h : Heap) : Prop := ∀ a o, W a → h.get? a = some o → ∀ vs n, o.data ≠ .seq vs n
theorem Ext.tuples {g : Gr} {W : Addr → Prop} {h h' : Heap} {σ σ' : AH} (x : Ext W h σ h' σ') (R : Rel g h σ) (hw : Zn0 W h) : Y2 g h h' := fun a o vs n _ e c d => by
  refine x.keep a o e ?_ fun w => hw a o w e vs n d
  cases q : σ a with
  | none => rfl
  | some ao => obtain ⟨o', e', c'⟩ := Zby (R.own a ao q).2; rw [e] at e'; cases e'; exact absurd d (c' _ _ c)
theorem Ext.vr {g : Gr} {W : Addr → Prop} {h h' : Heap} {σ σ' : AH} (x : Ext W h σ h' σ') (R : Rel g h σ) (hw : Zn0 W h) {v : V} {u : Value} (k : VR g h v u) : VR g h' v u :=
  VR.mono (x.tuples R hw) k
theorem Ext.vrs {g : Gr} {W : Addr → Prop} {h h' : Heap} {σ σ' : AH} (x : Ext W h σ h' σ') (R : Rel g h σ) (hw : Zn0 W h) {v : List V} {u : List Value} (k : VRs g h v u) : VRs g h' v u :=
  VRs.mono (x.tuples R hw) k
theorem Xo {h : Heap} : Zn0 No h := fun _ _ n => n.elim
theorem Rel.forget {g : Gr} {h : Heap} {σ σ' : AH} (R : Rel g h σ) (k : ∀ a o, σ' a = some o → σ a = some o) : Rel g h σ' :=
  ⟨R.hid, R.base, fun a ao e => R.own a ao (k a ao e)⟩
theorem Ext.forget {W : Addr → Prop} {h h' : Heap} {σ σ' σ'' : AH} (x : Ext W h σ h' σ') (k : ∀ a o, σ'' a = some o → σ' a = some o) : Ext W h σ h' σ'' :=
  ⟨x.keep, x.pres, fun a q => x.dom a (by
    cases e : σ'' a with
    | none => exact absurd e q
    | some o => rw [k a o e]; simp)⟩
theorem Rel.keeps {g : Gr} {h h' : Heap} {σ : AH} (R : Rel g h σ) (k : ∀ a o, h.get? a = some o → h'.get? a = some o) : Rel g h' σ :=
  ⟨fun a ha => let ⟨o, e⟩ := R.hid a ha; ⟨o, k a o e⟩, fun a o e => k a o (R.base a o e), fun a ao e => ⟨(R.own a ao e).1, Zc3 (fun a o _ _ _ e _ _ => .of (k a o e)) (k a) (R.own a ao e).2⟩⟩
theorem Ext.keeps {W : Addr → Prop} {h h' : Heap} {σ : AH} (k : ∀ a o, h.get? a = some o → h'.get? a = some o) : Ext W h σ h' σ :=
  ⟨fun a o e _ _ => .of (k a o e), fun a o e => ⟨o, k a o e⟩, fun _ e => .inl e⟩
theorem Xg (h : Heap) (o' : Obj) : ∀ a o, h.get? a = some o → (h.push o').get? a = some o := fun _ _ e => Heap.get?_push_of_some _ e
theorem Rel.alloc {g : Gr} {h h' : Heap} {σ : AH} {a : Addr} {ao : AO} (R : Rel g h σ) (k : ∀ a o, h.get? a = some o → h'.get? a = some o) (hn : h.get? a = none) (x : OR g h' a ao) : Rel g h' (σ.set a ao) := by
  refine ⟨fun a ha => let ⟨o, e⟩ := R.hid a ha; ⟨o, k a o e⟩, fun b o e => k b o (R.base b o e), fun b bo e => ?_⟩
  unfold AH.set at e
  split at e
  · rename_i q; subst q; cases e
    refine ⟨?_, x⟩
    cases q : g.b0.get? b with
    | none => rfl
    | some o => rw [R.base b o q] at hn; cases hn
  · exact (R.keeps k).own b bo e
theorem Ext.alloc {W : Addr → Prop} {h h' : Heap} {σ : AH} {a : Addr} {ao : AO} (k : ∀ a o, h.get? a = some o → h'.get? a = some o) (hn : h.get? a = none) : Ext W h σ h' (σ.set a ao) :=
  ⟨fun a o e _ _ => .of (k a o e), fun a o e => ⟨o, k a o e⟩, fun b q => by
    unfold AH.set at q
    by_cases z : b = a
    · subst z; exact .inr hn
    · rw [if_neg z] at q; exact .inl q⟩
theorem Rel.upd {g : Gr} {h h' : Heap} {σ : AH} {a : Addr} {ao ao' : AO} (R : Rel g h σ) (e : σ a = some ao) (k : Heap.SameBut a h h') (x : OR g h' a ao') : Rel g h' (σ.set a ao') := by
  have pr : ∃ o, h'.get? a = some o := let ⟨o, q, _⟩ := Zby x; ⟨o, q⟩
  have ho := R.own a ao e
  obtain ⟨o₀, e₀, c₀⟩ := Zby ho.2
  refine ⟨fun b hb => ?_, fun b o q => (k.2 b fun z => ?_).trans (R.base b o q), fun b bo q => ?_⟩
  · by_cases z : b = a
    · rw [z]; exact pr
    · obtain ⟨o, q⟩ := R.hid b hb; exact ⟨o, (k.2 b z).trans q⟩
  · subst z; rw [ho.1] at q; cases q
  · unfold AH.set at q
    split at q
    · rename_i z; subst z; cases q; exact ⟨ho.1, x⟩
    · rename_i z
      refine ⟨(R.own b bo q).1, Zc3 (fun c o _ _ _ y t dd => .of ((k.2 c fun w => ?_).trans y)) (fun o y => (k.2 b z).trans y) (R.own b bo q).2⟩
      subst w; rw [e₀] at y; cases y; exact c₀ _ _ t dd
theorem Ext.upd {W : Addr → Prop} {h h' : Heap} {σ : AH} {a : Addr} {ao ao' : AO} (e : σ a = some ao) (k : Heap.SameBut a h h') (p : ∃ o, h'.get? a = some o) : Ext W h σ h' (σ.set a ao') := by
  refine ⟨fun b o q n _ => .of ((k.2 b fun z => ?_).trans q), fun b o q => ?_, fun b q => ?_⟩
  · subst z; rw [e] at n; cases n
  · by_cases z : b = a
    · subst z; exact p
    · exact ⟨o, (k.2 b z).trans q⟩
  · unfold AH.set at q
    by_cases z : b = a
    · subst z; rw [e]; simp
    · rw [if_neg z] at q; exact .inl q
theorem Rel.owned_some {g : Gr} {h : Heap} {σ : AH} (R : Rel g h σ) {a : Addr} {ao : AO} (e : σ a = some ao) : ∃ o, h.get? a = some o := let ⟨o, h1, _⟩ := Zby (R.own a ao e).2; ⟨o, h1⟩
theorem Rel.fresh {g : Gr} {h : Heap} {σ : AH} (R : Rel g h σ) {a : Addr} (e : h.get? a = none) : σ a = none := by
  cases q : σ a with
  | none => rfl
  | some ao => obtain ⟨o, z⟩ := R.owned_some q; rw [e] at z; cases z
theorem Z4 (h : Heap) : h.get? h.objs.size = none := Heap.get?_none_of_le (Nat.le_refl _)
section
variable {g : Gr} {H : Addr → Prop} {h : Heap}
mutual
theorem VR.less (k : ∀ a, g.hid a → H a) : ∀ {x : V} {v : Value}, VR (g.wh H) h x v → VR g h x v
  | .none, v, a => by rw [W6] at a ⊢; exact a
  | .bool b, v, a => by rw [Wo] at a ⊢; exact a
  | .int i, v, a => by rw [Z9] at a ⊢; exact a
  | .str x, v, a => by rw [Y9] at a ⊢; exact a
  | .ref b, v, a => by rw [Yi] at a ⊢; exact a
  | .tup xs, v, a => by
    rw [Wq] at a ⊢
    obtain ⟨hf, b, o, vs, n, e, nh, ho, hc, hd, r⟩ := a
    exact ⟨hf, b, o, vs, n, e, fun z => nh (k b z), ho, hc, hd, VRs.less k r⟩
  | .frz xs, v, a => by
    rw [Zc5] at a ⊢
    obtain ⟨hf, b, o, vs, n, e, ho, hc, hd, r⟩ := a
    exact ⟨hf, b, o, vs, n, e, ho, hc, hd, VRs.less k r⟩
theorem VRs.less (k : ∀ a, g.hid a → H a) : ∀ {xs : List V} {vs : List Value}, VRs (g.wh H) h xs vs → VRs g h xs vs
  | [], vs, a => by rw [Z2 a]; exact Xq
  | x :: xs, vs, a => by
    obtain ⟨v, r, rfl, hv, c⟩ := Zn a
    exact Ys (VR.less k hv) (VRs.less k c)
end
mutual
theorem VR.more (k : ∀ a o, h.get? a = some o → H a → g.hid a) : ∀ {x : V} {v : Value}, VR g h x v → VR (g.wh H) h x v
  | .none, v, a => by rw [W6] at a ⊢; exact a
  | .bool b, v, a => by rw [Wo] at a ⊢; exact a
  | .int i, v, a => by rw [Z9] at a ⊢; exact a
  | .str x, v, a => by rw [Y9] at a ⊢; exact a
  | .ref b, v, a => by rw [Yi] at a ⊢; exact a
  | .tup xs, v, a => by
    rw [Wq] at a ⊢
    obtain ⟨hf, b, o, vs, n, e, nh, ho, hc, hd, r⟩ := a
    exact ⟨hf, b, o, vs, n, e, fun z => nh (k b o ho z), ho, hc, hd, VRs.more k r⟩
  | .frz xs, v, a => by
    rw [Zc5] at a ⊢
    obtain ⟨hf, b, o, vs, n, e, ho, hc, hd, r⟩ := a
    exact ⟨hf, b, o, vs, n, e, ho, hc, hd, VRs.more k r⟩
theorem VRs.more (k : ∀ a o, h.get? a = some o → H a → g.hid a) : ∀ {xs : List V} {vs : List Value}, VRs g h xs vs → VRs (g.wh H) h xs vs
  | [], vs, a => by rw [Z2 a]; exact Xq
  | x :: xs, vs, a => by
    obtain ⟨v, r, rfl, hv, c⟩ := Zn a
    exact Ys (VR.more k hv) (VRs.more k c)
end
theorem OR.less (k : ∀ a, g.hid a → H a) {a : Addr} {ao : AO} (x : OR (g.wh H) h a ao) : OR g h a ao := by
  cases ao with
  | list xs => obtain ⟨hf, vs, n, ho, r⟩ := x; exact ⟨hf, vs, n, ho, VRs.less k r⟩
  | dictI kvs ep => obtain ⟨hf, us, d, q, p⟩ := x; exact ⟨hf, us, d, q, VRs.less k p⟩
  | dictS kvs ep => obtain ⟨hf, us, d, q, p⟩ := x; exact ⟨hf, us, d, q, VRs.less k p⟩
  | dictT kvs ep => obtain ⟨hf, us, ⟨o, es, ho, h1, h2, h3, h4, h5⟩, q, p⟩ := x; exact ⟨hf, us, ⟨o, es, ho, h1, h2, h3, fun y hy => ⟨fun z => (h4 y hy).1 (k _ z), (h4 y hy).2⟩, h5⟩, q, VRs.less k p⟩
  | inst C d => exact x
  | attrs kvs => obtain ⟨hf, m, hn, r⟩ := x; exact ⟨hf, m, hn, fun y => ⟨fun v q => let ⟨u, h1, h2⟩ := (r y).1 v q; ⟨u, h1, VR.less k h2⟩, (r y).2⟩⟩
theorem OR.more (k : ∀ a o, h.get? a = some o → H a → g.hid a) {a : Addr} {ao : AO} (x : OR g h a ao) : OR (g.wh H) h a ao := by
  cases ao with
  | list xs => obtain ⟨hf, vs, n, ho, r⟩ := x; exact ⟨hf, vs, n, ho, VRs.more k r⟩
  | dictI kvs ep => obtain ⟨hf, us, d, q, p⟩ := x; exact ⟨hf, us, d, q, VRs.more k p⟩
  | dictS kvs ep => obtain ⟨hf, us, d, q, p⟩ := x; exact ⟨hf, us, d, q, VRs.more k p⟩
  | dictT kvs ep =>
    obtain ⟨hf, us, ⟨o, es, ho, h1, h2, h3, h4, h5⟩, q, p⟩ := x
    refine ⟨hf, us, ⟨o, es, ho, h1, h2, h3, fun y hy => ⟨fun z => ?_, (h4 y hy).2⟩, h5⟩, q, VRs.more k p⟩
    obtain ⟨o', _, _, e, _⟩ := (h4 y hy).2
    exact (h4 y hy).1 (k _ _ e z)
  | inst C d => exact x
  | attrs kvs => obtain ⟨hf, m, hn, r⟩ := x; exact ⟨hf, m, hn, fun y => ⟨fun v q => let ⟨u, h1, h2⟩ := (r y).1 v q; ⟨u, h1, VR.more k h2⟩, (r y).2⟩⟩
theorem Rel.less (k : ∀ a, g.hid a → H a) {σ : AH} (R : Rel (g.wh H) h σ) : Rel g h σ :=
  ⟨fun a ha => R.hid a (k a ha), R.base, fun a ao e => ⟨(R.own a ao e).1, OR.less k (R.own a ao e).2⟩⟩
theorem Rel.more (k : ∀ a o, h.get? a = some o → H a → g.hid a) {h' : Heap} {σ : AH} (R : Rel g h σ) (kp : ∀ a o, h.get? a = some o → h'.get? a = some o) (hp : ∀ a, H a → ∃ o, h'.get? a = some o) : Rel (g.wh H) h' σ :=
  ⟨hp, fun a o e => kp a o (R.base a o e), fun a ao e => ⟨(R.own a ao e).1, Zc3 (fun a o _ _ _ e _ _ => .of (kp a o e)) (kp a) (OR.more k (R.own a ao e).2)⟩⟩
end
end
section
open PySem
structure Zsb (sc : Scope) (env : Env) : Prop where
  kinds : ∀ x k, (x, k) ∈ sc.names → env.kindOf x = some k ∨ (k = .free ∧ env.kindOf x = some .cell)
  plain : ∀ x k, (x, k) ∈ sc.names → (x == ("__debug__" : Str)) = false ∧ (x == ("__classdict__" : Str)) = false
  kind : env.scope.kind = .function
  globals : env.globals = mainGlobals
  builtins : env.builtins = builtinsNs
structure LR (g : Gr) (h : Heap) (σ : AH) (env : Env) (ℓ : Loc) : Prop where
  ns : ∃ m, h.Ns env.locals m ∧ ∀ n v, ℓ n = some v → env.kindOf (Str.ofString n) = some .local → ∃ u, m (Str.ofString n) = some u ∧ VR g h v u
  cell : ∀ x c, env.cells.lookup x = some c → ∃ o u, h.get? c = some o ∧ o.data = .cell u
  cells : ∀ n v, ℓ n = some v → (env.kindOf (Str.ofString n) = some .cell ∨ env.kindOf (Str.ofString n) = some .free) → ∃ c u, env.cells.lookup (Str.ofString n) = some c ∧ h.IsCell c (some u) ∧ VR g h v u
  off : σ env.locals = none ∧ g.b0.get? env.locals = none
  offc : ∀ x c, env.cells.lookup x = some c → σ c = none ∧ c ≠ env.locals ∧ g.b0.get? c = none
  apart : ∀ x y c, env.cells.lookup x = some c → env.cells.lookup y = some c → x = y
  has : ∀ x, env.kindOf x = some .cell ∨ env.kindOf x = some .free → ∃ c, env.cells.lookup x = some c
noncomputable def Zt3 (g : Gr) (A : Around) (env : Env) (h : Heap) (σ : AH) : Prop :=
  ∃ e0 outer, A.frames = some (e0 :: outer) ∧ e0.frame = env.frame ∧ h.FunFrames g.b0 (e0 :: outer) ∧ (∀ e ∈ e0 :: outer, ∀ f, e.frame = some f → σ f = none) ∧
    e0.scope.isGenerator = false ∧ e0.scope.isCoroutine = false ∧ e0.builtins = builtinsNs ∧ e0.globals = mainGlobals
structure GOk (g : Gr) : Prop where
  nolimit : g.b0.NoLimit
  seer : g.b0.NoSeer
  tree : g.prog.given.tree = none
structure Zki (A : Around) (r : Nat) (c : Bool) : Prop where
  depth : A.depth + 2 * r + 110 < recursionLimit
  units : A.units + 20 * r + 100 < cLine
  calm : c = true → A.handled = none
theorem Zki.le {A : Around} {r r' : Nat} {c : Bool} (x : Zki A r c) (h : r' ≤ r) : Zki A r' c :=
  ⟨by have := x.depth; exact om2 h this, by have := x.units; exact om3 h this, x.calm⟩
theorem Zki.deeper {A : Around} {r : Nat} {c : Bool} (x : Zki A (r + 1) c) (env : Env) : Zki (A.deeper env) r c :=
  ⟨by have := x.depth; show A.depth + 1 + 2 * r + 110 < _; exact om4 this, by have := x.units; show A.units + 3 + 20 * r + 100 < _; exact om5 this, x.calm⟩
theorem Zki.room {A : Around} {r : Nat} {c : Bool} (x : Zki A r c) : A.depth < recursionLimit := by have := x.depth; exact om6 this
theorem Zki.cline {A : Around} {r : Nat} {c : Bool} (x : Zki A r c) : A.units + 50 < cLine := by have := x.units; exact om7 this
structure Cx (g : Gr) (sc : Scope) (r : Nat) (c : Bool) (A : Around) (env : Env) (h : Heap) (σ : AH) (ℓ : Loc) : Prop where
  gok : GOk g
  ok : Zsb sc env
  loc : LR g h σ env ℓ
  fr : Zt3 g A env h σ
  room : Zki A r c
  rel : Rel g h σ
noncomputable def Zbo (s s' : Shared) : Prop := s'.gens = s.gens ∧ s'.os = s.os ∧ s'.drawn = s.drawn
theorem Zbo.refl {s : Shared} : Zbo s s := ⟨rfl, rfl, rfl⟩
theorem Zbo.trans {s s' s'' : Shared} (x : Zbo s s') (y : Zbo s' s'') : Zbo s s'' := ⟨y.1.trans x.1, y.2.1.trans x.2.1, y.2.2.trans x.2.2⟩
theorem Zgv {h h' : Heap} {a : Addr} {m : Str → Option Value} (n : h.Ns a m) (k : ∀ o, h.get? a = some o → Zlh h' a o) : h'.Ns a m := by
  obtain ⟨o, es, ep, ho, hd, r⟩ := n
  obtain ⟨sl, e⟩ := (k o ho).sl
  exact ⟨_, es, ep, e, hd, r⟩
theorem Ze7 {h h' : Heap} {a : Addr} {v : Option Value} (n : h.IsCell a v) (k : ∀ o, h.get? a = some o → Zlh h' a o) : h'.IsCell a v := by
  obtain ⟨o, ho, hd⟩ := n
  obtain ⟨sl, e⟩ := (k o ho).sl
  exact ⟨_, e, hd⟩
theorem LR.step {g : Gr} {h h' : Heap} {σ σ' : AH} {env : Env} {ℓ : Loc} (L : LR g h σ env ℓ) (R : Rel g h σ) (x : Ext No h σ h' σ') : LR g h' σ' env ℓ := by
  have kv : ∀ {v : V} {u : Value}, VR g h v u → VR g h' v u := x.vr R Xo
  obtain ⟨m, hn, hm⟩ := L.ns
  have hl : ∀ o, h.get? env.locals = some o → Zlh h' env.locals o := fun o e => x.keep _ o e L.off.1 id
  refine ⟨⟨m, Zgv hn hl, fun y v a b => let ⟨u, e, f⟩ := hm y v a b; ⟨u, e, kv f⟩⟩, fun y c e => ?_, fun y v a k => ?_, ⟨?_, L.off.2⟩, fun y c e => ⟨?_, (L.offc y c e).2⟩, L.apart, L.has⟩
  · obtain ⟨o, u, ho, hd⟩ := L.cell y c e
    obtain ⟨sl, ho'⟩ := (x.keep _ o ho (L.offc y c e).1 id).sl
    exact ⟨_, u, ho', hd⟩
  · obtain ⟨c, u, e, ho, hv⟩ := L.cells y v a k
    exact ⟨c, u, e, Ze7 ho fun o z => x.keep _ o z (L.offc _ c e).1 id, kv hv⟩
  · obtain ⟨o, es, ep, ho, _⟩ := hn; exact x.off ho L.off.1
  · obtain ⟨o, u, ho, hd⟩ := L.cell y c e
    exact x.off ho (L.offc y c e).1
theorem Zt3.step {g : Gr} {A : Around} {env : Env} {W : Addr → Prop} {h h' : Heap} {σ σ' : AH} (F : Zt3 g A env h σ) (x : Ext W h σ h' σ') (hw : ∀ a o, W a → h.get? a = some o → (∀ vs, o.data ≠ .fields vs) → ∃ o', h'.get? a = some o' ∧ ∀ vs, o'.data ≠ .fields vs) : Zt3 g A env h' σ' := by
  obtain ⟨e0, outer, hA, hf, ff, off, rest⟩ := F
  have key : ∀ l : List Env, h.FunFrames g.b0 l → (∀ e ∈ l, ∀ f, e.frame = some f → σ f = none) → h'.FunFrames g.b0 l ∧ ∀ e ∈ l, ∀ f, e.frame = some f → σ' f = none := by
    intro l
    induction l with
    | nil => exact fun _ _ => ⟨trivial, fun _ z => nomatch z⟩
    | cons e r ih =>
      rintro ⟨hk, ⟨L, o, hfL, hb, ho, hd⟩, hr⟩ hoff
      obtain ⟨i1, i2⟩ := ih hr fun e' he' => hoff e' (.tail _ he')
      have hs : σ L = none := hoff e (.head _) L hfL
      have hx : ∃ o', h'.get? L = some o' ∧ ∀ vs, o'.data ≠ .fields vs := by
        by_cases w : W L
        · exact hw L o w ho hd
        · obtain ⟨sl, e'⟩ := (x.keep L o ho hs w).sl; exact ⟨_, e', hd⟩
      obtain ⟨o', ho', hd'⟩ := hx
      refine ⟨⟨hk, ⟨L, o', hfL, hb, ho', hd'⟩, i1⟩, fun e' he' f hf' => ?_⟩
      cases he' with
      | head => rw [hfL] at hf'; cases hf'; exact x.off ho hs
      | tail _ q => exact i2 e' q f hf'
  obtain ⟨k1, k2⟩ := key _ ff off
  exact ⟨e0, outer, hA, hf, k1, k2, rest⟩
theorem Cx.step {g : Gr} {sc : Scope} {r : Nat} {c : Bool} {A : Around} {env : Env} {h h' : Heap} {σ σ' : AH} {ℓ : Loc} (X : Cx g sc r c A env h σ ℓ) (R : Rel g h' σ') (x : Ext No h σ h' σ') : Cx g sc r c A env h' σ' ℓ :=
  ⟨X.gok, X.ok, X.loc.step X.rel x, X.fr.step x (fun _ _ n => n.elim), X.room, R⟩
noncomputable def XAt (_g : Gr) (_A : Around) (_h : Heap) (_e : Value) (_C : Addr) (_σ : AH) : Prop := False
noncomputable def Zaw (g : Gr) (A : Around) (s : Shared) (σ : AH) (E : Addr → AH → Prop) (e : Value) (s' : Shared) : Prop :=
  ∃ C σ', XAt g A s'.heap e C σ' ∧ Rel g s'.heap σ' ∧ Ext No s.heap σ s'.heap σ' ∧ Zbo s s' ∧ E C σ'
inductive Za3 {α β : Type} (g : Gr) (R : Heap → β → α → Prop) (s : Shared) (σ : AH) (Q : β → AH → Prop) (v : α) (s' : Shared) : Prop
  | mk (x : β) (σ' : AH) (h1 : R s'.heap x v) (h2 : Rel g s'.heap σ') (h3 : Ext No s.heap σ s'.heap σ') (h4 : Zbo s s') (h5 : Q x σ') : Za3 g R s σ Q v s'
theorem Za3.elim {α β : Type} {g : Gr} {R : Heap → β → α → Prop} {s : Shared} {σ : AH} {Q : β → AH → Prop} {v : α} {s' : Shared} {P : Prop} (p : Za3 g R s σ Q v s') (k : ∀ x σ', R s'.heap x v → Rel g s'.heap σ' → Ext No s.heap σ s'.heap σ' → Zbo s s' → Q x σ' → P) : P :=
  let ⟨x, σ', h1, h2, h3, h4, h5⟩ := p; k x σ' h1 h2 h3 h4 h5
noncomputable abbrev Zbj (g : Gr) := Za3 g (fun h => VR g h)
noncomputable abbrev Zt2 (g : Gr) := Za3 g (fun _ (x : Bool) (v : Bool) => x = v)
noncomputable abbrev Z18 (g : Gr) := Za3 g (fun h => VRs g h)
noncomputable abbrev TE := Loc → AH → (V → AH → Prop) → (Addr → AH → Prop) → Prop
noncomputable abbrev TB := Loc → AH → (Bool → AH → Prop) → (Addr → AH → Prop) → Prop
noncomputable abbrev TL := Loc → AH → (List V → AH → Prop) → (Addr → AH → Prop) → Prop
section
variable {α β : Type} {g : Gr} {R : Heap → β → α → Prop} {A : Around} {s s₁ : Shared} {σ σ₁ : AH} {Q : β → AH → Prop} {E : Addr → AH → Prop}
theorem Za3.back (x : Ext No s.heap σ s₁.heap σ₁) (y : Zbo s s₁) {v : α} {s' : Shared} (p : Za3 g R s₁ σ₁ Q v s') : Za3 g R s σ Q v s' :=
  let ⟨z, σ', h1, h2, h3, h4, h5⟩ := p; ⟨z, σ', h1, h2, x.trans h3, y.trans h4, h5⟩
theorem Zaw.back (x : Ext No s.heap σ s₁.heap σ₁) (y : Zbo s s₁) {v : Value} {s' : Shared} (p : Zaw g A s₁ σ₁ E v s') : Zaw g A s σ E v s' :=
  let ⟨z, σ', h1, h2, h3, h4, h5⟩ := p; ⟨z, σ', h1, h2, x.trans h3, y.trans h4, h5⟩
theorem Zbd {M : Model} {t : Sem α} (x : Ext No s.heap σ s₁.heap σ₁) (y : Zbo s s₁) (h : wpAny M A t (Za3 g R s₁ σ₁ Q) (Zaw g A s₁ σ₁ E) s₁) : wpAny M A t (Za3 g R s σ Q) (Zaw g A s σ E) s₁ :=
  wpAny_mono h (fun _ _ p => p.back x y) fun _ _ p => p.back x y
theorem Za3.here {x : β} {v : α} (h1 : R s.heap x v) (h2 : Rel g s.heap σ) (h3 : Q x σ) : Za3 g R s σ Q v s := ⟨x, σ, h1, h2, .refl, .refl, h3⟩
theorem Za3.keeps {x : β} {v : α} {s' : Shared} (k : ∀ a o, s.heap.get? a = some o → s'.heap.get? a = some o) (y : Zbo s s') (h1 : R s'.heap x v) (h2 : Rel g s.heap σ) (h3 : Q x σ) : Za3 g R s σ Q v s' :=
  ⟨x, σ, h1, h2.keeps k, .keeps k, y, h3⟩
end
section
variable (g : Gr) (sc : Scope) (r : Nat) (c : Bool)
structure Xy (e : Expr) (t : TE) : Prop where
  run : ∀ A env s ℓ σ Q E, Cx g sc r c A env s.heap σ ℓ → t ℓ σ Q E → wpAny (model g.prog g.w) A (eval e env) (Zbj g s σ Q) (Zaw g A s σ E) s
structure Zn5 (e : Expr) (t : TB) : Prop where
  run : ∀ A env s ℓ σ Q E, Cx g sc r c A env s.heap σ ℓ → t ℓ σ Q E → wpAny (model g.prog g.w) A (isTrue e env (eval e env)) (Zt2 g s σ Q) (Zaw g A s σ E) s
structure Zml (es : List Expr) (t : TL) : Prop where
  run : ∀ A env pos s ℓ σ Q E, Cx g sc r c A env s.heap σ ℓ → t ℓ σ Q E → wpAny (model g.prog g.w) A (spliced (backTo pos (starEach es env))) (Z18 g s σ Q) (Zaw g A s σ E) s
end
section
variable {g : Gr} {sc : Scope} {r : Nat} {c : Bool} {α β γ δ : Type} {R : Heap → β → α → Prop} {R' : Heap → δ → γ → Prop} {A : Around} {env : Env} {s : Shared} {ℓ : Loc} {σ : AH} {Q : β → AH → Prop} {Q' : δ → AH → Prop} {E : Addr → AH → Prop}
theorem Cx.then {m : Sem γ} {f : γ → Sem α} (X : Cx g sc r c A env s.heap σ ℓ) (h : wpAny (model g.prog g.w) A m (Za3 g R' s σ Q') (Zaw g A s σ E) s)
    (k : ∀ v x s₁ σ₁, R' s₁.heap x v → Cx g sc r c A env s₁.heap σ₁ ℓ → Ext No s.heap σ s₁.heap σ₁ → Q' x σ₁ → wpAny (model g.prog g.w) A (f v) (Za3 g R s₁ σ₁ Q) (Zaw g A s₁ σ₁ E) s₁) :
    wpAny (model g.prog g.w) A m (fun v s₁ => wpAny (model g.prog g.w) A (f v) (Za3 g R s σ Q) (Zaw g A s σ E) s₁) (Zaw g A s σ E) s :=
  wpAny_mono h (fun v s₁ p => let ⟨x, σ₁, h1, h2, h3, h4, h5⟩ := p; Zbd h3 h4 (k v x s₁ σ₁ h1 (X.step h2 h3) h3 h5)) fun _ _ p => p
end
section
variable {g : Gr} {H : Addr → Prop} {h h' : Heap} {σ : AH} {env : Env} {ℓ : Loc}
theorem LR.less (k : ∀ a, g.hid a → H a) (L : LR (g.wh H) h σ env ℓ) : LR g h σ env ℓ := by
  obtain ⟨m, hn, hm⟩ := L.ns
  exact ⟨⟨m, hn, fun y v a b => let ⟨u, e, f⟩ := hm y v a b; ⟨u, e, VR.less k f⟩⟩, L.cell, fun y v a kk => let ⟨c, u, e, hc, hv⟩ := L.cells y v a kk; ⟨c, u, e, hc, VR.less k hv⟩, L.off, L.offc, L.apart, L.has⟩
theorem LR.more (k : ∀ a o, h.get? a = some o → H a → g.hid a) (L : LR g h σ env ℓ) : LR (g.wh H) h σ env ℓ := by
  obtain ⟨m, hn, hm⟩ := L.ns
  exact ⟨⟨m, hn, fun y v a b => let ⟨u, e, f⟩ := hm y v a b; ⟨u, e, VR.more k f⟩⟩, L.cell, fun y v a kk => let ⟨c, u, e, hc, hv⟩ := L.cells y v a kk; ⟨c, u, e, hc, VR.more k hv⟩, L.off, L.offc, L.apart, L.has⟩
theorem GOk.wh (G : GOk g) : GOk (g.wh H) := ⟨G.nolimit, G.seer, G.tree⟩
end
end
section
open PySem PyProof.Rows
variable {g : Gr} {sc : Scope} {r : Nat} {c : Bool}
noncomputable def Zm (v : V) : TE := fun _ σ Q _ => Q v σ
noncomputable def Zk (i : String) : TE := fun ℓ σ Q _ => match ℓ i with | some v => Q v σ | none => False
theorem Zg {i : Int} {k : Nat} {pos : Pos} : Xy g sc r c (.Constant (.int i) k pos) (Zm (.int i)) := .mk fun A env s ℓ σ Q E X h =>
  wpAny_Constant_int (.keeps (s' := { s with toks := s.toks + 1 }) (fun _ _ e => e) ⟨rfl, rfl, rfl⟩ (Z9.mpr ⟨_, rfl⟩) X.rel h)
theorem Zdr {x : Str} {k : Nat} {pos : Pos} (hx : Xv x.length) : Xy g sc r c (.Constant (.str x) k pos) (Zm (.str x)) := .mk fun A env s ℓ σ Q E X h =>
  wpAny_Constant_str (.keeps (s' := { s with toks := s.toks + 1 }) (fun _ _ e => e) ⟨rfl, rfl, rfl⟩ (Y9.mpr ⟨hx, _, rfl⟩) X.rel h)
theorem Y7 {k : Nat} {pos : Pos} : Xy g sc r c (.Constant .none k pos) (Zm .none) := .mk fun A env s ℓ σ Q E X h =>
  wpAny_Constant_none (.here (W6.mpr rfl) X.rel h)
theorem We {b : Bool} {k : Nat} {pos : Pos} : Xy g sc r c (.Constant (.bool b) k pos) (Zm (.bool b)) := .mk fun A env s ℓ σ Q E X h =>
  wpAny_Constant_bool (.here (Wo.mpr rfl) X.rel h)
noncomputable def Zve (k : NameKind) : Bool := k == .local || k == .cell || k == .free
theorem Zok {n : String} {pos : Pos} {k : NameKind} (hm : (Str.ofString n, k) ∈ sc.names) (hk : Zve k = true) : Xy g sc r c (.Name (Str.ofString n) pos) (Zk n) := .mk fun A env s ℓ σ Q E X h => by
  unfold Zk at h
  split at h
  · rename_i v hv
    have hp := X.ok.plain _ _ hm
    have loc : env.kindOf (Str.ofString n) = some .local → wpAny (model g.prog g.w) A (loadName env (Str.ofString n)) (Zbj g s σ Q) (Zaw g A s σ E) s := fun q => by
      obtain ⟨m, hn, hm⟩ := X.loc.ns
      obtain ⟨u, e, hu⟩ := hm n v hv q
      exact wpAny_loadName_local X.ok.kind q hn e (.here hu X.rel h)
    have cel : env.kindOf (Str.ofString n) = some .cell → wpAny (model g.prog g.w) A (loadName env (Str.ofString n)) (Zbj g s σ Q) (Zaw g A s σ E) s := fun q => by
      obtain ⟨cc, u, e, ho, hu⟩ := X.loc.cells n v hv (.inl q)
      exact wpAny_loadName_cell X.ok.kind q e ho (.here hu X.rel h)
    have fre : env.kindOf (Str.ofString n) = some .free → wpAny (model g.prog g.w) A (loadName env (Str.ofString n)) (Zbj g s σ Q) (Zaw g A s σ E) s := fun q => by
      obtain ⟨cc, u, e, ho, hu⟩ := X.loc.cells n v hv (.inr q)
      exact wpAny_loadName_free X.ok.kind q e ho (.here hu X.rel h) hp.2
    refine wpAny_Name ?_ hp.1
    rcases X.ok.kinds _ _ hm with q | ⟨_, q⟩
    · cases k <;> first | exact loc q | exact cel q | exact fre q | cases hk
    · exact cel q
  · exact h.elim
noncomputable def Yj : TL := fun _ σ Q _ => Q [] σ
noncomputable def Zt (t : TE) (ts : TL) : TL := fun ℓ σ Q E => t ℓ σ (fun v σ₁ => ts ℓ σ₁ (fun vs σ₂ => Q (v :: vs) σ₂) E) E
noncomputable def Zfy : Expr → Bool
  | .Starred .. => true
  | _ => false
theorem Xe {e : Expr} {es : List Expr} (env : Env) (h : Zfy e = false) : starEach (e :: es) env = (false, eval e env) :: starEach es env := by
  cases e <;> first | rfl | cases h
theorem Ze : Zml g sc r c [] Yj := .mk fun A env pos s ℓ σ Q E X h => wpAny_items_nil (.here Xq X.rel h)
theorem Za {e : Expr} {es : List Expr} {t : TE} {ts : TL} (h1 : Xy g sc r c e t) (h2 : Zml g sc r c es ts) (hs : Zfy e = false := by rfl) :
    Zml g sc r c (e :: es) (Zt t ts) := .mk fun A env pos s ℓ σ Q E X h => by
  refine wpAny_items_cons ?_ (Xe env hs)
  refine wpAny_mono (h1.run A env s ℓ σ _ E X h) (fun v s₁ p => ?_) fun _ _ p => p
  refine Za3.elim p fun x σ₁ hv hR hx hs1 hq => ?_
  refine wpAny_mono (h2.run A env pos s₁ ℓ σ₁ _ E (X.step hR hx) hq) (fun vs s₂ p => ?_) fun _ _ p => p.back hx hs1
  refine Za3.elim p fun xs σ₂ hvs hR2 hx2 hs2 hq2 => ?_
  exact ⟨x :: xs, σ₂, Ys (hx2.vr hR Xo hv) hvs, hR2, hx.trans hx2, hs1.trans hs2, hq2⟩
noncomputable def Zay (ts : TL) : TE := fun ℓ σ Q E => ts ℓ σ (fun vs σ₁ => Xv vs.length ∧ ∀ a, σ₁ a = none → Q (.ref a) (σ₁.set a (.list vs))) E
noncomputable def Wc (ts : TL) : TE := fun ℓ σ Q E => ts ℓ σ (fun vs σ₁ => Xv vs.length ∧ Q (.tup vs) σ₁) E
theorem Zde {s s₁ : Shared} {σ σ₁ : AH} {Q : V → AH → Prop} {vs : List Value} {xs : List V} {n : Nat} (hx : Ext No s.heap σ s₁.heap σ₁) (hs : Zbo s s₁) (hR : Rel g s₁.heap σ₁) (hv : VRs g s₁.heap xs vs) (hft : Xv xs.length) (hq : ∀ a, σ₁ a = none → Q (.ref a) (σ₁.set a (.list xs))) {s' : Shared}
    (e : s' = { s₁ with heap := s₁.heap.push { cls := .type "list", data := .seq vs.toArray n }, toks := s'.toks }) : Zbj g s σ Q (.ref s₁.heap.objs.size) s' := by
  rw [e]
  have hk := Xg s₁.heap { cls := .type "list", data := .seq vs.toArray n }
  have hf := Z4 s₁.heap
  refine ⟨.ref _, _, Yi.mpr rfl, hR.alloc hk hf ?_, hx.trans (.alloc hk hf), hs.trans ⟨rfl, rfl, rfl⟩, hq _ (hR.fresh hf)⟩
  exact ⟨hft, vs.toArray, n, Heap.get?_push_size _ rfl, VRs.mono (fun a o _ _ _ e _ _ => .of (hk a o e)) hv⟩
theorem Zcu {s s₁ : Shared} {σ σ₁ : AH} {Q : V → AH → Prop} {vs : List Value} {xs : List V} {n : Nat} (hx : Ext No s.heap σ s₁.heap σ₁) (hs : Zbo s s₁) (hR : Rel g s₁.heap σ₁) (hv : VRs g s₁.heap xs vs) (hft : Xv xs.length) (hq : Q (.tup xs) σ₁) {s' : Shared}
    (e : s' = { s₁ with heap := s₁.heap.push { cls := .type "tuple", data := .seq vs.toArray n }, toks := s'.toks }) : Zbj g s σ Q (.ref s₁.heap.objs.size) s' := by
  rw [e]
  have hk := Xg s₁.heap { cls := .type "tuple", data := .seq vs.toArray n }
  refine ⟨.tup xs, σ₁, Wq.mpr ⟨hft, _, _, vs.toArray, n, rfl, fun nh => (by obtain ⟨o, e⟩ := hR.hid _ nh; rw [Z4] at e; cases e), Heap.get?_push_size _ rfl, rfl, rfl, VRs.mono (fun a o _ _ _ e _ _ => .of (hk a o e)) hv⟩, hR.keeps hk, hx.trans (.keeps hk), hs.trans ⟨rfl, rfl, rfl⟩, hq⟩
theorem Zw {es : List Expr} {ts : TL} {pos : Pos} (h1 : Zml g sc r c es ts) : Xy g sc r c (.List es pos) (Zay ts) := .mk fun A env s ℓ σ Q E X h => by
  refine wpAny_List (wpAny_mono (h1.run A env pos s ℓ σ _ E X h) (fun vs s₁ p => ?_) fun _ _ p => p)
  obtain ⟨xs, σ₁, hv, hR, hx, hs, hf, hq⟩ := p
  exact ⟨(Zz hv ▸ hf).line, Zde hx hs hR hv hf hq rfl⟩
theorem Zx {es : List Expr} {ts : TL} {k : Nat} {pos : Pos} (h1 : Zml g sc r c es ts) : Xy g sc r c (.Tuple es k pos) (Wc ts) := .mk fun A env s ℓ σ Q E X h => by
  refine wpAny_Tuple (wpAny_mono (h1.run A env pos s ℓ σ _ E X h) (fun vs s₁ p => ?_) fun _ _ p => p)
  obtain ⟨xs, σ₁, hv, hR, hx, hs, hf, hq⟩ := p
  exact ⟨(Zz hv ▸ hf).line, Zcu hx hs hR hv hf hq rfl⟩
end
section
open PySem PyProof.Rows
variable {g : Gr} {sc : Scope} {r : Nat} {c : Bool}
mutual
noncomputable def Y3 (σ : AH) : PyData → V → Prop
  | .none, v => v = .none
  | .bool b, v => v = .bool b
  | .int i, v => v = .int i
  | .str x, v => v = .str x
  | .list ds, v => ∃ a xs, v = .ref a ∧ σ a = some (.list xs) ∧ X6 σ ds xs
  | .tuple ds, v => ∃ xs, v = .tup xs ∧ X6 σ ds xs
  | .dict _, _ => False
noncomputable def X6 (σ : AH) : List PyData → List V → Prop
  | [], xs => xs = []
  | d :: ds, xs => ∃ x r, xs = x :: r ∧ Y3 σ d x ∧ X6 σ ds r
end
mutual
theorem W9 {h : Heap} {σ : AH} (R : Rel g h σ) : ∀ {d : PyData} {x : V} {v : Value}, Y3 σ d x → VR g h x v → ∃ as, Reads h v d as
  | .none, x, v, hd, hv => by unfold Y3 at hd; subst hd; rw [W6] at hv; subst hv; exact ⟨_, .none⟩
  | .bool b, x, v, hd, hv => by unfold Y3 at hd; subst hd; rw [Wo] at hv; subst hv; exact ⟨_, .bool b⟩
  | .int i, x, v, hd, hv => by unfold Y3 at hd; subst hd; rw [Z9] at hv; obtain ⟨t, rfl⟩ := hv; exact ⟨_, .int i t⟩
  | .str i, x, v, hd, hv => by unfold Y3 at hd; subst hd; rw [Y9] at hv; obtain ⟨_, t, rfl⟩ := hv; exact ⟨_, .str i t⟩
  | .list ds, x, v, hd, hv => by
    unfold Y3 at hd; obtain ⟨a, xs, rfl, e, hds⟩ := hd
    rw [Yi] at hv; subst hv
    obtain ⟨_, _, vs, n, ho, hvs⟩ := R.own a _ e
    obtain ⟨as, q⟩ := Zd8 R hds hvs
    exact ⟨_, .list ho rfl rfl q⟩
  | .tuple ds, x, v, hd, hv => by
    unfold Y3 at hd; obtain ⟨xs, rfl, hds⟩ := hd
    rw [Wq] at hv; obtain ⟨_, a, o, vs, n, rfl, nh, ho, hc, hdt, hvs⟩ := hv
    obtain ⟨as, q⟩ := Zd8 R hds hvs
    exact ⟨_, .tuple ho hc hdt q⟩
  | .dict _, x, v, hd, hv => by unfold Y3 at hd; exact hd.elim
theorem Zd8 {h : Heap} {σ : AH} (R : Rel g h σ) : ∀ {ds : List PyData} {xs : List V} {vs : List Value}, X6 σ ds xs → VRs g h xs vs → ∃ as, ReadsAll h vs ds as
  | [], xs, vs, hd, hv => by unfold X6 at hd; subst hd; rw [Z2 hv]; exact ⟨_, .nil⟩
  | d :: ds, xs, vs, hd, hv => by
    unfold X6 at hd; obtain ⟨x, r, rfl, h1, h2⟩ := hd
    obtain ⟨v, w, rfl, h3, h4⟩ := Zn hv
    obtain ⟨as, p⟩ := W9 R h1 h3
    obtain ⟨bs, q⟩ := Zd8 R h2 h4
    exact ⟨_, .cons p q⟩
end
noncomputable def Lay (d : PyData) : Prop := d.canLay0 = true ∧ d.depth ≤ 20
noncomputable def Xr : V → AH → Option Bool
  | .none, _ => some false
  | .bool b, _ => some b
  | .int i, _ => some (i != 0)
  | .str x, _ => some ((x.length : Int) != 0)
  | .tup xs, _ => some (!xs.isEmpty)
  | .frz xs, _ => some (!xs.isEmpty)
  | .ref a, σ => match σ a with
    | some (.list xs) => some (!xs.isEmpty)
    | some (.dictI kvs _) => some (!kvs.isEmpty)
    | _ => none
theorem Za6 {α β : Type} {xs : List α} {ys : Array β} (h : xs.length = ys.size) : (!ys.isEmpty) = !xs.isEmpty := by
  cases xs with
  | nil => simp at h; have : ys = #[] := by simpa using h.symm
           subst this; rfl
  | cons x xs => have : ys.size ≠ 0 := by simp at h; exact om8 h
                 have h2 : ys.isEmpty = false := by unfold Array.isEmpty; exact decide_eq_false this
                 rw [h2]; rfl
theorem Xk {h : Heap} {σ : AH} (G : GOk g) (R : Rel g h σ) {a : Addr} {ao : AO} (e : σ a = some ao) : (a == sysModules) = false := by
  obtain ⟨mm, ⟨o, es, ep, ho, _⟩, _⟩ := G.seer.mods
  cases q : a == sysModules with
  | false => rfl
  | true =>
    have := (R.own a ao e).1
    rw [show a = sysModules from beq_iff_eq.mp q, ho] at this; cases this
theorem Zdp {A : Around} {E : Value → Shared → Prop} {s : Shared} {σ : AH} {x : V} {v : Value} {b : Bool} {Q : Bool → Shared → Prop} (G : GOk g) (R : Rel g s.heap σ) (hv : VR g s.heap x v) (ht : Xr x σ = some b)
    (hq : ∀ tk, Q b { s with toks := tk }) : wpAny (model g.prog g.w) A (truthy v) Q E s := by
  cases x with
  | none => rw [W6] at hv; subst hv; cases ht; exact truthy_none (hq s.toks)
  | bool b' => rw [Wo] at hv; subst hv; cases ht; exact wpAny_truthy_bool (hq s.toks)
  | int i => rw [Z9] at hv; obtain ⟨t, rfl⟩ := hv; cases ht; exact PySem.P.truthy_int (hq s.toks)
  | str y => rw [Y9] at hv; obtain ⟨hf, t, rfl⟩ := hv; cases ht; exact PySem.P.truthy_str (by have := hf.fit; exact om9 this) (hq _)
  | tup xs =>
    rw [Wq] at hv; obtain ⟨hf, a, o, vs, n, rfl, nh, ho, hc, hd, hvs⟩ := hv
    have hl : xs.length = vs.size := by rw [Zz hvs]; simp
    cases ht
    exact truthy_tuple ⟨o, ho, hc, n, hd⟩ (by rw [← hl]; exact hf.fit) (by rw [Za6 hl]; exact hq _)
  | frz xs =>
    rw [Zc5] at hv; obtain ⟨hf, a, o, vs, n, rfl, ho, hc, hd, hvs⟩ := hv
    have hl : xs.length = vs.size := by rw [Zz hvs]; simp
    cases ht
    exact wpAny_truthy_list ⟨o, R.base _ _ ho, hc, n, hd⟩ (by rw [← hl]; exact hf.fit) (by rw [Za6 hl]; exact hq _)
  | ref a =>
    rw [Yi] at hv; subst hv
    simp only [Xr] at ht
    split at ht
    · rename_i xs e
      obtain ⟨_, hf, vs, n, ho, hvs⟩ := R.own a _ e
      have hl : xs.length = vs.size := by rw [Zz hvs]; simp
      cases ht
      exact wpAny_truthy_list ⟨_, ho, rfl, n, rfl⟩ (by rw [← hl]; exact hf.fit) (by rw [Za6 hl]; exact hq _)
    · rename_i kvs ep e
      obtain ⟨_, hf, us, hd, hk, hvs⟩ := R.own a _ e
      have hl : us.length = kvs.length := by have := congrArg List.length hk; simpa using this
      cases ht
      refine wpAny_truthy_dict (Xk G R e) hd.dictOf (by rw [hl]; exact hf.fit) ?_
      have : us.isEmpty = kvs.isEmpty := by cases us <;> cases kvs <;> simp at hl ⊢
      rw [this]; exact hq _
    · cases ht
noncomputable def Zax (t : TE) : TB := fun ℓ σ Q E => t ℓ σ (fun v σ₁ => match Xr v σ₁ with | some b => Q b σ₁ | none => False) E
theorem Ym {e : Expr} {t : TE} (h1 : Xy g sc r c e t) (he : ∀ env whole, isTrue e env whole = (do let v ← whole; standAt e.pos; holding [v] (truthy v))) : Zn5 g sc r c e (Zax t) := .mk fun A env s ℓ σ Q E X h => by
  refine wpAny_isTrue_value (X.then (h1.run A env s ℓ σ _ E X h) fun v x s₁ σ₁ hv X₁ hx hq => ?_) (he env _)
  split at hq
  · rename_i b hb; exact Zdp X.gok X₁.rel hv hb fun tk => .keeps (fun _ _ e => e) ⟨rfl, rfl, rfl⟩ rfl X₁.rel hq
  · exact hq.elim
noncomputable def Zco (t : TB) : TB := fun ℓ σ Q E => t ℓ σ (fun b σ₁ => Q (!b) σ₁) E
theorem Y5 {e : Expr} {t : TB} {pos : Pos} (h1 : Zn5 g sc r c e t) : Zn5 g sc r c (.UnaryOp .Not e pos) (Zco t) := .mk fun A env s ℓ σ Q E X h =>
  wpAny_isTrue_Not (wpAny_mono (h1.run A env s ℓ σ _ E X h) (fun b s₁ p => let ⟨x, σ₁, h1, h2, h3, h4, h5⟩ := p; ⟨!x, σ₁, by rw [h1], h2, h3, h4, h5⟩) fun _ _ p => p)
structure Zli (g : Gr) (sc : Scope) (r : Nat) (c : Bool) (op : BoolOp) (es : List Expr) (t : TB) : Prop where
  run : ∀ A env s ℓ σ Q E, Cx g sc r c A env s.heap σ ℓ → t ℓ σ Q E → wpAny (model g.prog g.w) A (allTrue op es env) (Zt2 g s σ Q) (Zaw g A s σ E) s
noncomputable def Zs2 (t ts : TB) : TB := fun ℓ σ Q E => t ℓ σ (fun b σ₁ => match b with | true => ts ℓ σ₁ Q E | false => Q false σ₁) E
noncomputable def Zoc (t ts : TB) : TB := fun ℓ σ Q E => t ℓ σ (fun b σ₁ => match b with | true => Q true σ₁ | false => ts ℓ σ₁ Q E) E
noncomputable def Wd (b : Bool) : TB := fun _ σ Q _ => Q b σ
theorem Zep : Zli g sc r c .And [] (Wd true) := .mk fun A env s ℓ σ Q E X h => wpAny_allTrue_And_nil (.here rfl X.rel h)
theorem Xs : Zli g sc r c .Or [] (Wd false) := .mk fun A env s ℓ σ Q E X h => wpAny_allTrue_Or_nil (.here rfl X.rel h)
theorem Zeq {e : Expr} {es : List Expr} {t ts : TB} (h1 : Zn5 g sc r c e t) (h2 : Zli g sc r c .And es ts) : Zli g sc r c .And (e :: es) (Zs2 t ts) := .mk fun A env s ℓ σ Q E X h => by
  refine wpAny_allTrue_And_cons (wpAny_mono (h1.run A env s ℓ σ _ E X h) (fun b s₁ p => ?_) fun _ _ p => p)
  obtain ⟨x, σ₁, rfl, hR, hx, hs, hq⟩ := p
  cases x with
  | true => exact Zbd hx hs (h2.run A env s₁ ℓ σ₁ Q E (X.step hR hx) hq)
  | false => exact ⟨false, σ₁, rfl, hR, hx, hs, hq⟩
theorem Yx {e : Expr} {es : List Expr} {t ts : TB} (h1 : Zn5 g sc r c e t) (h2 : Zli g sc r c .Or es ts) : Zli g sc r c .Or (e :: es) (Zoc t ts) := .mk fun A env s ℓ σ Q E X h => by
  refine wpAny_allTrue_Or_cons (wpAny_mono (h1.run A env s ℓ σ _ E X h) (fun b s₁ p => ?_) fun _ _ p => p)
  obtain ⟨x, σ₁, rfl, hR, hx, hs, hq⟩ := p
  cases x with
  | false => exact Zbd hx hs (h2.run A env s₁ ℓ σ₁ Q E (X.step hR hx) hq)
  | true => exact ⟨true, σ₁, rfl, hR, hx, hs, hq⟩
theorem Xi {op : BoolOp} {es : List Expr} {t : TB} {pos : Pos} (h1 : Zli g sc r c op es t) : Zn5 g sc r c (.BoolOp op es pos) t := .mk fun A env s ℓ σ Q E X h =>
  wpAny_isTrue_BoolOp (h1.run A env s ℓ σ Q E X h)
noncomputable def Zdj : V → Bool
  | .none => true
  | _ => false
noncomputable def eqD (a b : V) (σ : AH) (Q : Bool → Prop) : Prop := match a, b with
  | .int i, .int j => Q (i == j)
  | a, b => ∃ da db, Y3 σ da a ∧ Y3 σ db b ∧ Lay da ∧ Lay db ∧ Q (PyData.eqv da db)
noncomputable def inD (x c : V) (σ : AH) (Q : Bool → Prop) : Prop := match c with
  | .tup xs => ∃ ds d, X6 σ ds xs ∧ Y3 σ d x ∧ Lay (.tuple ds) ∧ Lay d ∧ Q (ds.any fun y => PyData.eqv y d)
  | .ref a => match σ a with
    | some (.list xs) => ∃ ds d, X6 σ ds xs ∧ Y3 σ d x ∧ Lay (.list ds) ∧ Lay d ∧ Q (ds.any fun y => PyData.eqv y d)
    | some (.dictI kvs _) => match x with | .int k => Q (kvs.any fun kv => kv.1 == k) | _ => False
    | some (.dictT kvs _) => ∃ ks : List Int, x = .tup (ks.map V.int) ∧ Q (kvs.any fun kv => kv.1 == ks)
    | _ => False
  | _ => False
noncomputable def Wy (op : CmpOp) (a b : V) (σ : AH) (Q : Bool → Prop) : Prop := match op with
  | .Lt => match a, b with | .int i, .int j => Q (decide (i < j)) | _, _ => False
  | .LtE => match a, b with | .int i, .int j => Q (decide (i ≤ j)) | _, _ => False
  | .Gt => match a, b with | .int i, .int j => Q (decide (j < i)) | _, _ => False
  | .GtE => match a, b with | .int i, .int j => Q (decide (j ≤ i)) | _, _ => False
  | .Eq => eqD a b σ Q
  | .NotEq => eqD a b σ fun r => Q (!r)
  | .Is => match b with | .none => Q (Zdj a) | .bool true => (match a with | .bool x => Q x | _ => False) | _ => False
  | .IsNot => match b with | .none => Q (!Zdj a) | _ => False
  | .In => inD a b σ Q
  | .NotIn => inD a b σ fun r => Q (!r)
end
section
open PySem PyProof.Rows
variable {g : Gr} {sc : Scope} {r : Nat} {c : Bool}
theorem Zjx {h : Heap} {a : V} {u : Value} (hv : VR g h a u) : (u == .none) = Zdj a := by
  cases a with
  | none => rw [W6] at hv; subst hv; rfl
  | bool b => rw [Wo] at hv; subst hv; rfl
  | int i => rw [Z9] at hv; obtain ⟨t, rfl⟩ := hv; rfl
  | str x => rw [Y9] at hv; obtain ⟨_, t, rfl⟩ := hv; rfl
  | ref a => rw [Yi] at hv; subst hv; rfl
  | tup xs => rw [Wq] at hv; obtain ⟨_, a, _, _, _, rfl, _⟩ := hv; rfl
  | frz xs => rw [Zc5] at hv; obtain ⟨_, a, _, _, _, rfl, _⟩ := hv; rfl
theorem Zd4 {us : List (Int × Value)} {kvs : List (Int × V)} (hk : us.map (·.1) = kvs.map (·.1)) (k : Int) : (valueAt us k).isSome = kvs.any fun kv => kv.1 == k := by
  induction us generalizing kvs with
  | nil => cases kvs with
    | nil => rfl
    | cons _ _ => simp at hk
  | cons u us ih => cases kvs with
    | nil => simp at hk
    | cons kv kvs =>
      simp only [List.map_cons, List.cons.injEq] at hk
      have := ih hk.2
      unfold valueAt at this ⊢
      rw [List.find?_cons, List.any_cons, ← hk.1]
      by_cases e : u.1 = k
      · simp [e]
      · have e' : (u.1 == k) = false := by simpa using e
        simp only [e, decide_false, e', Bool.false_or]; exact this
theorem Zdn {us : List (List Int × Addr × Value)} {kvs : List (List Int × V)} (hk : us.map (·.1) = kvs.map (·.1)) (k : List Int) : (atKey us k).isSome = kvs.any fun kv => kv.1 == k := by
  induction us generalizing kvs with
  | nil => cases kvs with
    | nil => rfl
    | cons _ _ => simp at hk
  | cons u us ih => cases kvs with
    | nil => simp at hk
    | cons kv kvs =>
      simp only [List.map_cons, List.cons.injEq] at hk
      have := ih hk.2
      unfold atKey at this ⊢
      rw [List.find?_cons, List.any_cons, ← hk.1]
      by_cases e : u.1 = k
      · simp [e]
      · have e' : (u.1 == k) = false := by simpa using e
        simp only [e, decide_false, e', Bool.false_or]; exact this
theorem Ze0 {h : Heap} : ∀ {ks : List Int} {vs : List Value}, VRs g h (ks.map V.int) vs → ItemsAre (intKind g.prog g.w) ks vs
  | [], vs, a => by rw [Z2 a]; exact .nil
  | k :: ks, vs, a => by
    obtain ⟨v, r, rfl, hv, b⟩ := Zn a
    rw [Z9] at hv; obtain ⟨t, rfl⟩ := hv
    exact .cons (intKind_is _ _ k t) (Ze0 b)
theorem Zbr {h : Heap} {ks : List Int} {v : Value} (hv : VR g h (.tup (ks.map V.int)) v) : ∃ a, v = .ref a ∧ ¬ g.hid a ∧ IsTupleKey (intKind g.prog g.w) h ks a := by
  rw [Wq] at hv; obtain ⟨_, a, o, vs, n, rfl, nh, ho, hc, hd, hvs⟩ := hv
  exact ⟨a, rfl, nh, o, vs, n, ho, hc, hd, Ze0 hvs⟩
theorem Zll.ofH {h : Heap} {d : Addr} {xs : List (List Int × Addr × Value)} {ep : Nat} (x : Zll g h d xs ep) : h.DictOfH (tupleKind (intKind g.prog g.w)) d xs := let ⟨o, es, h1, h2, h3, h4, h5, h6⟩ := x; ⟨o, es, ep, h1, h2, h3, h4, fun y hy => (h5 y hy).2, h6⟩
section
variable {A : Around} {env : Env} {E : Value → Shared → Prop} {s : Shared} {σ : AH} {ℓ : Loc}
inductive Zsk (s : Shared) (Q : Bool → Prop) (v : Value) (s' : Shared) : Prop
  | mk (b : Bool) (tk : Nat) (e : v = .bool b) (f : s' = { s with toks := tk }) (q : Q b) : Zsk s Q v s'
theorem Z17 {a b : V} {u v : Value} {Q : Bool → Prop} (X : Cx g sc r c A env s.heap σ ℓ) (ha : VR g s.heap a u) (hb : VR g s.heap b v) (h : eqD a b σ Q) : wpAny (model g.prog g.w) A (compareOp .Eq u v) (Zsk s Q) E s := by
  have hu := X.room.cline
  have gen : (∃ da db, Y3 σ da a ∧ Y3 σ db b ∧ Lay da ∧ Lay db ∧ Q (PyData.eqv da db)) → wpAny (model g.prog g.w) A (compareOp .Eq u v) (Zsk s Q) E s := by
    rintro ⟨da, db, h1, h2, h3, h4, h5⟩
    obtain ⟨as, ra⟩ := W9 X.rel h1 ha
    obtain ⟨bs, rb⟩ := W9 X.rel h2 hb
    have := h3.2
    exact SeqAt.compareEq_reads ra rb h3.1 h4.1 (by exact Z2p hu this) ⟨_, s.toks, rfl, rfl, h5⟩
  unfold eqD at h
  split at h
  · rw [Z9] at ha hb; obtain ⟨t, rfl⟩ := ha; obtain ⟨t', rfl⟩ := hb
    exact PySem.P.eq_int ⟨_, s.toks, rfl, rfl, h⟩
  · exact gen h
theorem Z1w {a b : V} {u v : Value} {Q : Bool → Prop} (X : Cx g sc r c A env s.heap σ ℓ) (ha : VR g s.heap a u) (hb : VR g s.heap b v) (h : eqD a b σ fun r => Q (!r)) : wpAny (model g.prog g.w) A (compareOp .NotEq u v) (Zsk s Q) E s := by
  have hu := X.room.cline
  have gen : (∃ da db, Y3 σ da a ∧ Y3 σ db b ∧ Lay da ∧ Lay db ∧ Q (!PyData.eqv da db)) → wpAny (model g.prog g.w) A (compareOp .NotEq u v) (Zsk s Q) E s := by
    rintro ⟨da, db, h1, h2, h3, h4, h5⟩
    obtain ⟨as, ra⟩ := W9 X.rel h1 ha
    obtain ⟨bs, rb⟩ := W9 X.rel h2 hb
    have := h3.2
    exact SeqAt.compareNe_reads ra rb h3.1 h4.1 (by exact Z2p hu this) ⟨_, s.toks, rfl, rfl, h5⟩
  unfold eqD at h
  split at h
  · rw [Z9] at ha hb; obtain ⟨t, rfl⟩ := ha; obtain ⟨t', rfl⟩ := hb
    exact PySem.P.ne_int ⟨_, s.toks, rfl, rfl, h⟩
  · exact gen h
theorem Zl6 {ds : List PyData} (h : Lay (.list ds)) : PyData.canLayAll0 ds = true ∧ PyData.depthAll ds ≤ 20 := by
  refine ⟨h.1, ?_⟩
  have := h.2
  unfold PyData.depth at this
  exact Z2o this
theorem Zju {ds : List PyData} (h : Lay (.tuple ds)) : PyData.canLayAll0 ds = true ∧ PyData.depthAll ds ≤ 20 := by
  refine ⟨h.1, ?_⟩
  have := h.2
  unfold PyData.depth at this
  exact Z2o this
theorem Z11 {a b : V} {u v : Value} {Q : Bool → Prop} (X : Cx g sc r c A env s.heap σ ℓ) (ha : VR g s.heap a u) (hb : VR g s.heap b v) (h : inD a b σ Q) : wpAny (model g.prog g.w) A (compareOp .In u v) (Zsk s Q) E s := by
  have hu := X.room.cline
  unfold inD at h
  split at h
  · rename_i xs
    obtain ⟨ds, d, h1, h2, h3, h4, h5⟩ := h
    obtain ⟨bs, rb⟩ := W9 (d := .tuple ds) X.rel (by unfold Y3; exact ⟨xs, rfl, h1⟩) hb
    obtain ⟨as, ra⟩ := W9 X.rel h2 ha
    obtain ⟨k1, k2⟩ := Zju h3
    exact SeqAt.in_tuple_reads rb ra k1 h4.1 (by exact Zv9 hu k2) ⟨_, s.toks, rfl, rfl, h5⟩
  · rename_i l
    split at h
    · rename_i xs e
      obtain ⟨ds, d, h1, h2, h3, h4, h5⟩ := h
      obtain ⟨bs, rb⟩ := W9 (d := .list ds) X.rel (by unfold Y3; exact ⟨l, xs, rfl, e, h1⟩) hb
      obtain ⟨as, ra⟩ := W9 X.rel h2 ha
      obtain ⟨k1, k2⟩ := Zl6 h3
      exact SeqAt.in_list_reads rb ra k1 h4.1 (by exact Zv9 hu k2) ⟨_, s.toks, rfl, rfl, h5⟩
    · rename_i kvs ep e
      split at h
      · rename_i k
        rw [Z9] at ha; obtain ⟨t, rfl⟩ := ha
        rw [Yi] at hb; subst hb
        obtain ⟨_, hf, us, hd, hk, hvs⟩ := X.rel.own l _ e
        exact wpAny_in_of (intKind_is _ _ k t) (Xk X.gok X.rel e) hd.dictOf.mapOf ⟨_, _, rfl, rfl, by rw [Zd4 hk]; exact h⟩
      · exact h.elim
    · rename_i kvs ep e
      obtain ⟨ks, rfl, h⟩ := h
      obtain ⟨ka, rfl, _, hka⟩ := Zbr ha
      rw [Yi] at hb; subst hb
      obtain ⟨_, hf, us, hd, hk, hvs⟩ := X.rel.own l _ e
      exact wpAny_in_heap (knd := tupleKind (intKind g.prog g.w)) (tupleKind_room_in1 (by exact Zua hu)) hka (Xk X.gok X.rel e) hd.ofH ⟨_, _, rfl, rfl, by rw [Zdn hk]; exact h⟩
    · exact h.elim
  · exact h.elim
theorem Zri {a b : V} {u v : Value} {Q : Bool → Prop} (X : Cx g sc r c A env s.heap σ ℓ) (ha : VR g s.heap a u) (hb : VR g s.heap b v) (h : inD a b σ fun r => Q (!r)) : wpAny (model g.prog g.w) A (compareOp .NotIn u v) (Zsk s Q) E s := by
  have hu := X.room.cline
  unfold inD at h
  split at h
  · rename_i xs
    obtain ⟨ds, d, h1, h2, h3, h4, h5⟩ := h
    obtain ⟨bs, rb⟩ := W9 (d := .tuple ds) X.rel (by unfold Y3; exact ⟨xs, rfl, h1⟩) hb
    obtain ⟨as, ra⟩ := W9 X.rel h2 ha
    obtain ⟨k1, k2⟩ := Zju h3
    exact SeqAt.notIn_tuple_reads rb ra k1 h4.1 (by exact Zv9 hu k2) ⟨_, s.toks, rfl, rfl, h5⟩
  · rename_i l
    split at h
    · rename_i xs e
      obtain ⟨ds, d, h1, h2, h3, h4, h5⟩ := h
      obtain ⟨bs, rb⟩ := W9 (d := .list ds) X.rel (by unfold Y3; exact ⟨l, xs, rfl, e, h1⟩) hb
      obtain ⟨as, ra⟩ := W9 X.rel h2 ha
      obtain ⟨k1, k2⟩ := Zl6 h3
      exact SeqAt.notIn_list_reads rb ra k1 h4.1 (by exact Zv9 hu k2) ⟨_, s.toks, rfl, rfl, h5⟩
    · rename_i kvs ep e
      split at h
      · rename_i k
        rw [Z9] at ha; obtain ⟨t, rfl⟩ := ha
        rw [Yi] at hb; subst hb
        obtain ⟨_, hf, us, hd, hk, hvs⟩ := X.rel.own l _ e
        refine wpAny_notIn_of (intKind_is _ _ k t) (Xk X.gok X.rel e) hd.dictOf.mapOf ⟨_, _, rfl, rfl, ?_⟩
        rw [Zd4 hk]; exact h
      · exact h.elim
    · rename_i kvs ep e
      obtain ⟨ks, rfl, h⟩ := h
      obtain ⟨ka, rfl, _, hka⟩ := Zbr ha
      rw [Yi] at hb; subst hb
      obtain ⟨_, hf, us, hd, hk, hvs⟩ := X.rel.own l _ e
      refine wpAny_notIn_heap (knd := tupleKind (intKind g.prog g.w)) (tupleKind_room_in1 (by exact Zua hu)) hka (Xk X.gok X.rel e) hd.ofH ⟨_, _, rfl, rfl, ?_⟩
      rw [Zdn hk]; exact h
    · exact h.elim
  · exact h.elim
theorem Zk2 (b : Bool) : isSame (.bool b) (.bool true) = pure b := by cases b <;> rfl
theorem Zh8 {op : CmpOp} {a b : V} {u v : Value} {Q : Bool → Prop} (X : Cx g sc r c A env s.heap σ ℓ) (ha : VR g s.heap a u) (hb : VR g s.heap b v) (h : Wy op a b σ Q) : wpAny (model g.prog g.w) A (compareOp op u v) (Zsk s Q) E s := by
  cases op with
  | Lt => simp only [Wy] at h; split at h
          · rw [Z9] at ha hb; obtain ⟨t, rfl⟩ := ha; obtain ⟨t', rfl⟩ := hb; exact PySem.P.lt_int ⟨_, s.toks, rfl, rfl, h⟩
          · exact h.elim
  | LtE => simp only [Wy] at h; split at h
           · rw [Z9] at ha hb; obtain ⟨t, rfl⟩ := ha; obtain ⟨t', rfl⟩ := hb; exact PySem.P.le_int ⟨_, s.toks, rfl, rfl, h⟩
           · exact h.elim
  | Gt => simp only [Wy] at h; split at h
          · rw [Z9] at ha hb; obtain ⟨t, rfl⟩ := ha; obtain ⟨t', rfl⟩ := hb; exact PySem.P.gt_int ⟨_, s.toks, rfl, rfl, h⟩
          · exact h.elim
  | GtE => simp only [Wy] at h; split at h
           · rw [Z9] at ha hb; obtain ⟨t, rfl⟩ := ha; obtain ⟨t', rfl⟩ := hb; exact PySem.P.ge_int ⟨_, s.toks, rfl, rfl, h⟩
           · exact h.elim
  | Eq => exact Z17 X ha hb h
  | NotEq => exact Z1w X ha hb h
  | Is =>
    simp only [Wy] at h
    split at h
    · rw [W6] at hb; subst hb; exact is_none ⟨_, s.toks, rfl, rfl, by rw [Zjx ha]; exact h⟩
    · rw [Wo] at hb; subst hb
      split at h
      · rw [Wo] at ha; subst ha
        show wpAny _ A (do return Value.bool (← isSame _ _)) _ E s
        rw [Zk2]; exact wpAny_bind (wpAny_pure (wpAny_pure ⟨_, s.toks, rfl, rfl, h⟩))
      · exact h.elim
    · exact h.elim
  | IsNot =>
    simp only [Wy] at h
    split at h
    · rw [W6] at hb; subst hb; exact isNot_none ⟨_, s.toks, rfl, rfl, by rw [Zjx ha]; exact h⟩
    · exact h.elim
  | In => exact Z11 X ha hb h
  | NotIn => exact Zri X ha hb h
end
noncomputable def Zsf (op : CmpOp) (t₁ t₂ : TE) : TE := fun ℓ σ Q E => t₁ ℓ σ (fun a σ₁ => t₂ ℓ σ₁ (fun b σ₂ => Wy op a b σ₂ fun r => Q (.bool r) σ₂) E) E
noncomputable def Xm (op : CmpOp) (t₁ t₂ : TE) : TB := fun ℓ σ Q E => t₁ ℓ σ (fun a σ₁ => t₂ ℓ σ₁ (fun b σ₂ => Wy op a b σ₂ fun r => Q r σ₂) E) E
noncomputable def Zog (op op' : CmpOp) (t₁ t₂ t₃ : TE) : TB := fun ℓ σ Q E => t₁ ℓ σ (fun a σ₁ => t₂ ℓ σ₁ (fun b σ₂ => Wy op a b σ₂ fun r => match r with | true => t₃ ℓ σ₂ (fun d σ₃ => Wy op' b d σ₃ fun q => Q q σ₃) E | false => Q false σ₂) E) E
theorem Zcr {op : CmpOp} {e₁ e₂ : Expr} {t₁ t₂ : TE} {pos : Pos} (h1 : Xy g sc r c e₁ t₁) (h2 : Xy g sc r c e₂ t₂) (hm : behindInMarks op e₂ = false) : Xy g sc r c (.Compare e₁ [op] [e₂] pos) (Zsf op t₁ t₂) := .mk fun A env s ℓ σ Q E X h => by
  refine wpAny_Compare1 (wpAny_mono (h1.run A env s ℓ σ _ E X h) (fun u s₁ p => ?_) fun _ _ p => p) hm
  refine Za3.elim p fun a σ₁ hu hR hx hs hq => ?_
  have X₁ := X.step hR hx
  refine wpAny_mono (h2.run A env s₁ ℓ σ₁ _ E X₁ hq) (fun v s₂ p => ?_) fun _ _ p => p.back hx hs
  refine Za3.elim p fun b σ₂ hv hR2 hx2 hs2 hq2 => ?_
  refine wpAny_mono (Zh8 (E := fun _ _ => False) (X₁.step hR2 hx2) (hx2.vr hR Xo hu) hv hq2) (fun w s₃ p => ?_) fun _ _ p => p.elim
  obtain ⟨bb, tk, rfl, rfl, hq3⟩ := p
  exact ⟨.bool bb, σ₂, Wo.mpr rfl, hR2, hx.trans hx2, hs.trans (hs2.trans ⟨rfl, rfl, rfl⟩), hq3⟩
theorem Zv {op : CmpOp} {e₁ e₂ : Expr} {t₁ t₂ : TE} {pos : Pos} (h1 : Xy g sc r c e₁ t₁) (h2 : Xy g sc r c e₂ t₂) (hm : behindInMarks op e₂ = false) : Zn5 g sc r c (.Compare e₁ [op] [e₂] pos) (Xm op t₁ t₂) := .mk fun A env s ℓ σ Q E X h => by
  refine wpAny_isTrue_Compare1 (wpAny_mono (h1.run A env s ℓ σ _ E X h) (fun u s₁ p => ?_) fun _ _ p => p) hm
  refine Za3.elim p fun a σ₁ hu hR hx hs hq => ?_
  have X₁ := X.step hR hx
  refine wpAny_mono (h2.run A env s₁ ℓ σ₁ _ E X₁ hq) (fun v s₂ p => ?_) fun _ _ p => p.back hx hs
  refine Za3.elim p fun b σ₂ hv hR2 hx2 hs2 hq2 => ?_
  refine wpAny_mono (Zh8 (E := fun _ _ => False) (X₁.step hR2 hx2) (hx2.vr hR Xo hu) hv hq2) (fun w s₃ p => ?_) fun _ _ p => p.elim
  obtain ⟨bb, tk, rfl, rfl, hq3⟩ := p
  exact wpAny_truthy_bool ⟨bb, σ₂, rfl, hR2, hx.trans hx2, hs.trans (hs2.trans ⟨rfl, rfl, rfl⟩), hq3⟩
theorem Zjj {op op' : CmpOp} {e₁ e₂ e₃ : Expr} {t₁ t₂ t₃ : TE} {pos : Pos} (h1 : Xy g sc r c e₁ t₁) (h2 : Xy g sc r c e₂ t₂) (h3 : Xy g sc r c e₃ t₃) (hm : lastMarks [op, op'] [e₂, e₃] = false) :
    Zn5 g sc r c (.Compare e₁ [op, op'] [e₂, e₃] pos) (Zog op op' t₁ t₂ t₃) := .mk fun A env s ℓ σ Q E X h => by
  refine isTrue_chain (wpAny_mono (h1.run A env s ℓ σ _ E X h) (fun u s₁ p => ?_) fun _ _ p => p) hm
  refine Za3.elim p fun a σ₁ hu hR hx hs hq => ?_
  have X₁ := X.step hR hx
  refine test_link (wpAny_mono (h2.run A env s₁ ℓ σ₁ _ E X₁ hq) (fun v s₂ p => ?_) fun _ _ p => p.back hx hs)
  refine Za3.elim p fun b σ₂ hv hR2 hx2 hs2 hq2 => ?_
  have X₂ := X₁.step hR2 hx2
  refine wpAny_mono (Zh8 (E := fun _ _ => False) X₂ (hx2.vr hR Xo hu) hv hq2) (fun w s₃ p => ?_) fun _ _ p => p.elim
  obtain ⟨bb, tk, rfl, rfl, hq3⟩ := p
  have hs' : Zbo s { s₂ with toks := tk } := hs.trans (hs2.trans ⟨rfl, rfl, rfl⟩)
  refine wpAny_truthy_bool ?_
  cases bb with
  | false => exact ⟨false, σ₂, rfl, hR2, hx.trans hx2, hs', hq3⟩
  | true =>
    refine test_last (wpAny_mono (h3.run A env { s₂ with toks := tk } ℓ σ₂ _ E X₂ hq3) (fun y s₄ p => ?_) fun _ _ p => p.back (hx.trans hx2) hs')
    refine Za3.elim p fun d σ₃ hy hR3 hx3 hs3 hq4 => ?_
    refine wpAny_mono (Zh8 (E := fun _ _ => False) (X₂.step hR3 hx3) (hx3.vr hR2 Xo hv) hy hq4) (fun w s₅ p => ?_) fun _ _ p => p.elim
    obtain ⟨bb, tk', rfl, rfl, hq5⟩ := p
    exact wpAny_truthy_bool ⟨bb, σ₃, rfl, hR3, (hx.trans hx2).trans hx3, hs'.trans (hs3.trans ⟨rfl, rfl, rfl⟩), hq5⟩
end
section
open PySem PyProof.Rows
variable {g : Gr} {sc : Scope} {r : Nat} {c : Bool}
noncomputable def Zb7 (op : Operator) (a b : V) (σ : AH) (Q : V → AH → Prop) : Prop := match op with
  | .Add => match a, b with
    | .int i, .int j => Q (.int (i + j)) σ
    | .str x, .str y => Xv (x.length + y.length) ∧ Q (.str (x ++ y)) σ
    | .tup xs, .tup ys => Xv (xs.length + ys.length) ∧ Q (.tup (xs ++ ys)) σ
    | .ref l, .ref m => ∃ xs ys, σ l = some (.list xs) ∧ σ m = some (.list ys) ∧ Xv (xs.length + ys.length) ∧ ∀ a, σ a = none → Q (.ref a) (σ.set a (.list (xs ++ ys)))
    | _, _ => False
  | .Sub => match a, b with | .int i, .int j => Q (.int (i - j)) σ | _, _ => False
  | .Mult => match a, b with
    | .int i, .int j => IntMulOk i j ∧ Q (.int (i * j)) σ
    | _, _ => False
  | .FloorDiv => match a, b with | .int i, .int j => j ≠ 0 ∧ Q (.int (i.fdiv j)) σ | _, _ => False
  | .Mod => match a, b with | .int i, .int j => j ≠ 0 ∧ Q (.int (i.fmod j)) σ | _, _ => False
  | .Pow => match a, b with | .int i, .int j => (0 ≤ j ∧ j ≤ 1000000 ∧ i.natAbs < 2 ^ 64) ∧ Q (.int (i ^ j.toNat)) σ | _, _ => False
  | _ => False
section
variable {A : Around} {env : Env} {E : Value → Shared → Prop} {s : Shared} {σ : AH} {ℓ : Loc} {Q : V → AH → Prop}
theorem Wp {x : V} {v : Value} {tk : Nat} (R : Rel g s.heap σ) (hv : VR g s.heap x v) (h : Q x σ) : Zbj g s σ Q v { s with toks := tk } :=
  .keeps (fun _ _ e => e) ⟨rfl, rfl, rfl⟩ hv R h
theorem Zo6 (X : Cx g sc r c A env s.heap σ ℓ) : PylongRoom (model g.prog g.w) A s := by
  obtain ⟨e0, outer, hA, hf, ff, off, h1, h2, h3, h4⟩ := X.fr
  refine PylongRoom.of (X.gok.nolimit.keeps X.rel.base) ?_ (SeerAt.of (X.gok.seer.keeps X.rel.base) X.gok.tree hA h1 h2 h3 h4)
  have := X.room.depth
  show A.depth + 100 < _
  exact Z4n this
theorem Zvt {op : Operator} {a b : V} {u v : Value} (X : Cx g sc r c A env s.heap σ ℓ) (ha : VR g s.heap a u) (hb : VR g s.heap b v) (h : Zb7 op a b σ Q) : wpAny (model g.prog g.w) A (binaryOp op u v) (Zbj g s σ Q) E s := by
  cases op with
  | Add =>
    simp only [Zb7] at h
    split at h
    · rw [Z9] at ha hb; obtain ⟨t, rfl⟩ := ha; obtain ⟨t', rfl⟩ := hb
      exact PySem.P.add_int (Wp X.rel (Z9.mpr ⟨_, rfl⟩) h)
    · rw [Y9] at ha hb; obtain ⟨hfa, t, rfl⟩ := ha; obtain ⟨hfb, t', rfl⟩ := hb
      exact PyProof.Rows.add_str (fun t' tk => Wp X.rel (Y9.mpr ⟨by rw [Str.length_append]; exact h.1, _, rfl⟩) h.2) h.1.line
    · rename_i xs ys
      rw [Wq] at ha hb
      obtain ⟨hfa, l, ⟨cls, dd, data, sl⟩, vs, n, rfl, nh, ho, hc, hd, hvs⟩ := ha
      obtain ⟨hfb, m, ⟨cls2, dd2, data2, sl2⟩, ws, n2, rfl, nh2, ho2, hc2, hd2, hws⟩ := hb
      simp only at hc hd hc2 hd2
      subst hc hd hc2 hd2
      have hl := Zz hvs
      have hl2 := Zz hws
      simp only [Array.length_toList] at hl hl2
      by_cases e1 : vs.isEmpty = true
      · have : xs = [] := by have : vs.size = 0 := by simpa using e1
                             cases xs with | nil => rfl | cons _ _ => simp at hl; omega
        subst this
        exact concat_meets ⟨_, ho, rfl⟩ ⟨_, ho2, rfl⟩ noFill_tuple_add seq_tuple_add PySem.F.slot_tuple_add PySem.F.entry_tuple_add (PySem.F.args_tuple_add_2 _ _) (tuple_addW0 l m vs ws n n2 dd dd2 sl sl2 e1)
          ⟨ho, ho2, Wp X.rel (Wq.mpr ⟨hfb, m, _, ws, n2, rfl, nh2, ho2, rfl, rfl, hws⟩) h.2⟩
      · by_cases e2 : ws.isEmpty = true
        · have : ys = [] := by have : ws.size = 0 := by simpa using e2
                               cases ys with | nil => rfl | cons _ _ => simp at hl2; omega
          subst this
          refine concat_meets ⟨_, ho, rfl⟩ ⟨_, ho2, rfl⟩ noFill_tuple_add seq_tuple_add PySem.F.slot_tuple_add PySem.F.entry_tuple_add (PySem.F.args_tuple_add_2 _ _) (tuple_addW1 l m vs ws n n2 dd dd2 sl sl2 e1 e2)
            ⟨ho, ho2, Wp X.rel (Wq.mpr ⟨hfa, l, _, vs, n, rfl, nh, ho, rfl, rfl, hvs⟩) ?_⟩
          rw [List.append_nil] at h; exact h.2
        · refine concat_meets ⟨_, ho, rfl⟩ ⟨_, ho2, rfl⟩ noFill_tuple_add seq_tuple_add PySem.F.slot_tuple_add PySem.F.entry_tuple_add (PySem.F.args_tuple_add_2 _ _) (tuple_addW2 l m vs ws n n2 dd dd2 sl sl2 e1 e2 (by rw [← hl, ← hl2]; exact h.1.line))
            ⟨ho, ho2, ?_⟩
          have e : vs ++ ws = (vs.toList ++ ws.toList).toArray := by simp
          rw [e]
          exact Zcu .refl .refl X.rel (Zbn hvs hws) (by rw [List.length_append]; exact h.1) h.2 rfl
    · rename_i l m
      obtain ⟨xs, ys, e1, e2, hf, hq⟩ := h
      rw [Yi] at ha hb; subst ha hb
      obtain ⟨_, hfa, vs, n, ho, hvs⟩ := X.rel.own l _ e1
      obtain ⟨_, hfb, ws, n2, ho2, hws⟩ := X.rel.own m _ e2
      have hl := Zz hvs
      have hl2 := Zz hws
      simp only [Array.length_toList] at hl hl2
      refine concat_meets ⟨_, ho, rfl⟩ ⟨_, ho2, rfl⟩ noFill_list_add seq_list_add PySem.F.slot_list_add PySem.F.entry_list_add (PySem.F.args_list_add_2 _ _) (list_addW l m vs ws n n2 none none #[] #[] (by rw [← hl, ← hl2]; exact hf.line)) ⟨ho, ho2, ?_⟩
      have e : vs ++ ws = (vs.toList ++ ws.toList).toArray := by simp
      rw [e]
      exact Zde .refl .refl X.rel (Zbn hvs hws) (by rw [List.length_append]; exact hf) hq rfl
    · exact h.elim
  | Sub =>
    simp only [Zb7] at h; split at h
    · rw [Z9] at ha hb; obtain ⟨t, rfl⟩ := ha; obtain ⟨t', rfl⟩ := hb
      exact PySem.P.sub_int (Wp X.rel (Z9.mpr ⟨_, rfl⟩) h)
    · exact h.elim
  | Mult =>
    simp only [Zb7] at h; split at h
    · rw [Z9] at ha hb; obtain ⟨t, rfl⟩ := ha; obtain ⟨t', rfl⟩ := hb
      exact PySem.P.mul_int (Wp X.rel (Z9.mpr ⟨_, rfl⟩) h.2) h.1
    · exact h.elim
  | FloorDiv =>
    simp only [Zb7] at h; split at h
    · rw [Z9] at ha hb; obtain ⟨t, rfl⟩ := ha; obtain ⟨t', rfl⟩ := hb
      exact floordiv_int h.1 (Wp X.rel (Z9.mpr ⟨_, rfl⟩) h.2) (.inr (Zo6 X))
    · exact h.elim
  | Mod =>
    simp only [Zb7] at h; split at h
    · rw [Z9] at ha hb; obtain ⟨t, rfl⟩ := ha; obtain ⟨t', rfl⟩ := hb
      exact mod_int' h.1 (Wp X.rel (Z9.mpr ⟨_, rfl⟩) h.2)
    · exact h.elim
  | Pow =>
    simp only [Zb7] at h; split at h
    · rw [Z9] at ha hb; obtain ⟨t, rfl⟩ := ha; obtain ⟨t', rfl⟩ := hb
      exact pow_int_small h.1.1 h.1.2.1 h.1.2.2 (Wp X.rel (Z9.mpr ⟨_, rfl⟩) h.2)
    · exact h.elim
  | _ => exact h.elim
end
noncomputable def Zc6 (op : Operator) (t₁ t₂ : TE) : TE := fun ℓ σ Q E => t₁ ℓ σ (fun a σ₁ => t₂ ℓ σ₁ (fun b σ₂ => Zb7 op a b σ₂ Q) E) E
theorem Zr {op : Operator} {e₁ e₂ : Expr} {t₁ t₂ : TE} {pos : Pos} (h1 : Xy g sc r c e₁ t₁) (h2 : Xy g sc r c e₂ t₂) : Xy g sc r c (.BinOp e₁ op e₂ pos) (Zc6 op t₁ t₂) := .mk fun A env s ℓ σ Q E X h => by
  refine wpAny_BinOp (wpAny_mono (h1.run A env s ℓ σ _ E X h) (fun u s₁ p => ?_) fun _ _ p => p)
  refine Za3.elim p fun a σ₁ hu hR hx hs hq => ?_
  have X₁ := X.step hR hx
  refine wpAny_mono (h2.run A env s₁ ℓ σ₁ _ E X₁ hq) (fun v s₂ p => ?_) fun _ _ p => p.back hx hs
  refine Za3.elim p fun b σ₂ hv hR2 hx2 hs2 hq2 => ?_
  exact Zbd (hx.trans hx2) (hs.trans hs2) (Zvt (X₁.step hR2 hx2) (hx2.vr hR Xo hu) hv hq2)
noncomputable def Zwd (t : TE) : TE := fun ℓ σ Q E => t ℓ σ (fun v σ₁ => match Xr v σ₁ with | some b => Q (.bool (!b)) σ₁ | none => False) E
theorem Zlr {e : Expr} {t : TE} {pos : Pos} (h1 : Xy g sc r c e t) : Xy g sc r c (.UnaryOp .Not e pos) (Zwd t) := .mk fun A env s ℓ σ Q E X h => by
  refine wpAny_UnaryOp (X.then (h1.run A env s ℓ σ _ E X h) fun v x s₁ σ₁ hv X₁ hx hq => ?_)
  split at hq
  · rename_i b hb; exact not_value (Zdp X.gok X₁.rel hv hb fun tk => Wp X₁.rel (Wo.mpr rfl) hq)
  · exact hq.elim
noncomputable def Zv4 (t : TE) : TE := fun ℓ σ Q E => t ℓ σ (fun v σ₁ => match v with | .int i => Q (.int (-i)) σ₁ | _ => False) E
theorem Zik {e : Expr} {t : TE} {pos : Pos} (h1 : Xy g sc r c e t) : Xy g sc r c (.UnaryOp .USub e pos) (Zv4 t) := .mk fun A env s ℓ σ Q E X h => by
  refine wpAny_UnaryOp (X.then (h1.run A env s ℓ σ _ E X h) fun v x s₁ σ₁ hv X₁ hx hq => ?_)
  split at hq
  · rw [Z9] at hv; obtain ⟨t, rfl⟩ := hv; exact PySem.P.neg_int (Wp X₁.rel (Z9.mpr ⟨_, rfl⟩) hq)
  · exact hq.elim
structure Zue (g : Gr) (sc : Scope) (r : Nat) (c : Bool) (op : BoolOp) (es : List Expr) (t : TE) : Prop where
  run : ∀ A env pos s ℓ σ Q E, Cx g sc r c A env s.heap σ ℓ → t ℓ σ Q E → wpAny (model g.prog g.w) A (boolOp pos op (evalEach es env)) (Zbj g s σ Q) (Zaw g A s σ E) s
noncomputable def Zs3 (t ts : TE) : TE := fun ℓ σ Q E => t ℓ σ (fun v σ₁ => match Xr v σ₁ with | some true => ts ℓ σ₁ Q E | some false => Q v σ₁ | none => False) E
noncomputable def tOr (t ts : TE) : TE := fun ℓ σ Q E => t ℓ σ (fun v σ₁ => match Xr v σ₁ with | some false => ts ℓ σ₁ Q E | some true => Q v σ₁ | none => False) E
theorem Zb4 {op : BoolOp} {e : Expr} {t : TE} (h1 : Xy g sc r c e t) : Zue g sc r c op [e] t := .mk fun A env pos s ℓ σ Q E X h => h1.run A env s ℓ σ Q E X h
theorem Zdq {e e' : Expr} {es : List Expr} {t ts : TE} (h1 : Xy g sc r c e t) (h2 : Zue g sc r c .And (e' :: es) ts) : Zue g sc r c .And (e :: e' :: es) (Zs3 t ts) := .mk fun A env pos s ℓ σ Q E X h => by
  show wpAny _ A (do let v ← eval e env; standAt pos; let t ← holding [v] (truthy v); match BoolOp.And, t with | .And, false | .Or, true => pure v | _, _ => boolOp pos .And (evalEach (e' :: es) env)) _ _ s
  refine wpAny_bind (X.then (h1.run A env s ℓ σ _ E X h) fun v x s₁ σ₁ hv X₁ hx hq => ?_)
  refine wpAny_bind (wpAny_standAt (wpAny_bind (wpAny_holding ?_)))
  split at hq
  · rename_i hb; exact Zdp X.gok X₁.rel hv hb fun tk => Zbd (s := s₁) (s₁ := { s₁ with toks := tk }) .refl ⟨rfl, rfl, rfl⟩ (h2.run A env pos _ ℓ σ₁ Q E X₁ hq)
  · rename_i hb; exact Zdp X.gok X₁.rel hv hb fun tk => wpAny_pure (Wp X₁.rel hv hq)
  · exact hq.elim
theorem Zoh {e e' : Expr} {es : List Expr} {t ts : TE} (h1 : Xy g sc r c e t) (h2 : Zue g sc r c .Or (e' :: es) ts) : Zue g sc r c .Or (e :: e' :: es) (tOr t ts) := .mk fun A env pos s ℓ σ Q E X h => by
  show wpAny _ A (do let v ← eval e env; standAt pos; let t ← holding [v] (truthy v); match BoolOp.Or, t with | .And, false | .Or, true => pure v | _, _ => boolOp pos .Or (evalEach (e' :: es) env)) _ _ s
  refine wpAny_bind (X.then (h1.run A env s ℓ σ _ E X h) fun v x s₁ σ₁ hv X₁ hx hq => ?_)
  refine wpAny_bind (wpAny_standAt (wpAny_bind (wpAny_holding ?_)))
  split at hq
  · rename_i hb; exact Zdp X.gok X₁.rel hv hb fun tk => Zbd (s := s₁) (s₁ := { s₁ with toks := tk }) .refl ⟨rfl, rfl, rfl⟩ (h2.run A env pos _ ℓ σ₁ Q E X₁ hq)
  · rename_i hb; exact Zdp X.gok X₁.rel hv hb fun tk => wpAny_pure (Wp X₁.rel hv hq)
  · exact hq.elim
theorem Wt {op : BoolOp} {es : List Expr} {t : TE} {pos : Pos} (h1 : Zue g sc r c op es t) : Xy g sc r c (.BoolOp op es pos) t := .mk fun A env s ℓ σ Q E X h => h1.run A env pos s ℓ σ Q E X h
end
section
open PySem PyProof.Rows
variable {g : Gr} {sc : Scope} {r : Nat} {c : Bool}
noncomputable def atV (xs : List V) (k : Int) : Option V := (seqIndex? k xs.length).bind (xs[·]?)
noncomputable def Zbb (o i : V) (σ : AH) (Q : V → Prop) : Prop := match o with
  | .tup xs => match i with | .int k => (match atV xs k with | some x => Q x | none => False) | _ => False
  | .frz xs => match i with | .int k => (match atV xs k with | some x => Q x | none => False) | _ => False
  | .ref a => match σ a with
    | some (.list xs) => (match i with | .int k => (match atV xs k with | some x => Q x | none => False) | _ => False)
    | some (.dictI kvs _) => (match i with | .int k => (match kvs.lookup k with | some x => Q x | none => False) | _ => False)
    | some (.dictS kvs _) => (match i with | .str k => (match kvs.lookup k with | some x => Q x | none => False) | _ => False)
    | some (.dictT kvs _) => ∃ ks : List Int, i = .tup (ks.map V.int) ∧ (match kvs.lookup ks with | some x => Q x | none => False)
    | _ => False
  | _ => False
theorem Zer {k : Int} {n j : Nat} (h : seqIndex? k n = some j) : j < n ∧ ((0 ≤ k ∧ j = k.toNat) ∨ (k < 0 ∧ -(n : Int) ≤ k ∧ j = (k + n).toNat)) := by
  unfold seqIndex? at h
  dsimp only at h
  by_cases hk : k < 0
  · rw [if_pos hk] at h
    split at h
    · rename_i q
      simp only [Bool.and_eq_true, decide_eq_true_eq] at q
      cases h
      exact ⟨by exact Z4m hk q, .inr ⟨hk, by exact Z4l q, rfl⟩⟩
    · cases h
  · rw [if_neg hk] at h
    split at h
    · rename_i q
      simp only [Bool.and_eq_true, decide_eq_true_eq] at q
      cases h
      exact ⟨by exact Z4k hk q, .inl ⟨by exact Z4j hk, rfl⟩⟩
    · cases h
theorem Zmg {xs : List V} {k : Int} {x : V} (h : atV xs k = some x) : ∃ j, seqIndex? k xs.length = some j ∧ xs[j]? = some x := by
  unfold atV at h
  exact Option.bind_eq_some_iff.mp h
theorem Zdi {K : Type} [DecidableEq K] {g : Gr} {h : Heap} {kvs : List (K × V)} {us : List (K × Value)} (hk : us.map (·.1) = kvs.map (·.1)) (hv : VRs g h (kvs.map (·.2)) (us.map (·.2))) {k : K} {x : V} (e : kvs.lookup k = some x) :
    ∃ v, valueAt us k = some v ∧ VR g h x v := by
  induction kvs generalizing us with
  | nil => cases e
  | cons kv kvs ih =>
    cases us with
    | nil => simp at hk
    | cons u us =>
      simp only [List.map_cons, List.cons.injEq] at hk hv
      obtain ⟨v, r, e2, h1, h2⟩ := Zn hv
      cases e2
      rw [List.lookup_cons] at e
      unfold valueAt
      rw [List.find?_cons]
      by_cases q : k = kv.1
      · have : (k == kv.1) = true := by simpa using q
        rw [this] at e; cases e
        have : decide (u.1 = k) = true := by rw [hk.1, q]; simp
        rw [this]; exact ⟨_, rfl, h1⟩
      · have : (k == kv.1) = false := by simpa using q
        rw [this] at e
        have : decide (u.1 = k) = false := by rw [hk.1]; simpa using fun z => q z.symm
        rw [this]; exact ih hk.2 h2 e
theorem Zg0 {g : Gr} {h : Heap} {kvs : List (List Int × V)} {us : List (List Int × Addr × Value)} (hk : us.map (·.1) = kvs.map (·.1)) (hv : VRs g h (kvs.map (·.2)) (us.map (·.2.2))) {k : List Int} {x : V} (e : kvs.lookup k = some x) :
    ∃ p, atKey us k = some p ∧ VR g h x p.2 := by
  induction kvs generalizing us with
  | nil => cases e
  | cons kv kvs ih =>
    cases us with
    | nil => simp at hk
    | cons u us =>
      simp only [List.map_cons, List.cons.injEq] at hk hv
      obtain ⟨v, r, e2, h1, h2⟩ := Zn hv
      cases e2
      rw [List.lookup_cons] at e
      unfold atKey
      rw [List.find?_cons]
      by_cases q : k = kv.1
      · have : (k == kv.1) = true := by simpa using q
        rw [this] at e; cases e
        have : decide (u.1 = k) = true := by rw [hk.1, q]; simp
        rw [this]; exact ⟨_, rfl, h1⟩
      · have : (k == kv.1) = false := by simpa using q
        rw [this] at e
        have : decide (u.1 = k) = false := by rw [hk.1]; simpa using fun z => q z.symm
        rw [this]; exact ih hk.2 h2 e
section
variable {A : Around} {env : Env} {E : Value → Shared → Prop} {s : Shared} {σ : AH} {ℓ : Loc}
theorem Zh0 {l : Addr} {o : Obj} {vs : Array Value} {n : Nat} {xs : List V} {k : Int} {t : Tok} {x : V} {P : Value → Shared → Prop} (ho : s.heap.get? l = some o) (hc : o.cls = .type "list") (hd : o.data = .seq vs n) (hf : Xv xs.length) (hvs : VRs g s.heap xs vs.toList)
    (e : atV xs k = some x) (hq : ∀ v, VR g s.heap x v → P v s) : wpAny (model g.prog g.w) A (getItem (.ref l) (.int k t)) P E s := by
  obtain ⟨j, e1, e2⟩ := Zmg e
  obtain ⟨v, e3, hv⟩ := Zee hvs e2
  have hl := Zz hvs
  simp only [Array.length_toList] at hl
  obtain ⟨hj, hk⟩ := Zer e1
  have := hf
  unfold Xv at this
  rcases hk with ⟨h0, rfl⟩ | ⟨h0, h1, rfl⟩
  · exact wpAny_getItem_list ⟨o, ho, hc, n, hd⟩ h0 (by exact Z4i hl this hj) (by rw [← Array.getElem?_toList]; exact e3) (hq v hv)
  · refine wpAny_getItem_list_neg ⟨o, ho, hc, n, hd⟩ h0 (by rw [← hl]; exact h1) (by exact Z4h hl this h1) ?_ (hq v hv)
    rw [← hl, ← Array.getElem?_toList]; exact e3
theorem Zda {a : Addr} {o : Obj} {T : String} (ho : s.heap.get? a = some o) (hc : o.cls = .type T) : s.TypeIs (.ref a) T := ⟨o, ho, hc⟩
theorem Ztq {value slice : Expr} {o i : V} {u v : Value} {Q : V → Prop} {P : Value → Shared → Prop} (X : Cx g sc r c A env s.heap σ ℓ) (ho : VR g s.heap o u) (hi : VR g s.heap i v) (h : Zbb o i σ Q)
    (hs : ∀ a b, subscripted slice false a b = operate [a, b] (getItem a b)) (hq : ∀ x w tk, Q x → VR g s.heap x w → P w { s with toks := tk }) : wpAny (model g.prog g.w) A (subscriptTail value slice u v) P E s := by
  have hu := X.room.cline
  unfold Zbb at h
  split at h
  · rename_i xs
    split at h
    · rename_i k
      split at h
      · rename_i x e
        rw [Z9] at hi; obtain ⟨t, rfl⟩ := hi
        rw [Wq] at ho; obtain ⟨hf, a, ob, vs, n, rfl, nh, hob, hc, hd, hvs⟩ := ho
        obtain ⟨j, e1, e2⟩ := Zmg e
        obtain ⟨w, e3, hw⟩ := Zee hvs e2
        have hl := Zz hvs
        simp only [Array.length_toList] at hl
        obtain ⟨hj, hk⟩ := Zer e1
        have := hf
        unfold Xv at this
        exact tail_any (Zda hob hc) slot_tuple_getitem.lookup (getItem_tuple ⟨ob, hob, hc, n, hd⟩ (by exact Z4g hl hk this) (by exact Z4f hl hj hk this) (by rw [← hl]; exact e1) (by rw [← Array.getElem?_toList]; exact e3) (hq x w s.toks h hw)) (hs _ _)
      · exact h.elim
    · exact h.elim
  · rename_i xs
    split at h
    · rename_i k
      split at h
      · rename_i x e
        rw [Z9] at hi; obtain ⟨t, rfl⟩ := hi
        rw [Zc5] at ho; obtain ⟨hf, a, ob, vs, n, rfl, hob, hc, hd, hvs⟩ := ho
        exact tail_any (Zda (X.rel.base _ _ hob) hc) slot_list_getitem.lookup (Zh0 (X.rel.base _ _ hob) hc hd hf hvs e fun w hw => hq x w s.toks h hw) (hs _ _)
      · exact h.elim
    · exact h.elim
  · rename_i a
    rw [Yi] at ho; subst ho
    split at h
    · rename_i xs ea
      obtain ⟨_, hf, vs, n, hob, hvs⟩ := X.rel.own a _ ea
      split at h
      · rename_i k
        split at h
        · rename_i x e
          rw [Z9] at hi; obtain ⟨t, rfl⟩ := hi
          exact tail_any (Zda hob rfl) slot_list_getitem.lookup (Zh0 hob rfl rfl hf hvs e fun w hw => hq x w s.toks h hw) (hs _ _)
        · exact h.elim
      · exact h.elim
    · rename_i kvs ep ea
      obtain ⟨_, hf, us, hd, hk, hvs⟩ := X.rel.own a _ ea
      split at h
      · rename_i k
        split at h
        · rename_i x e
          rw [Z9] at hi; obtain ⟨t, rfl⟩ := hi
          obtain ⟨w, e2, hw⟩ := Zdi hk hvs e
          exact tail_any hd.dictOf.typeIs slot_dict_getitem.lookup (wpAny_getItem_of (intKind_is _ _ k t) hd.dictOf.mapOf e2 (hq x w _ h hw)) (hs _ _)
        · exact h.elim
      · exact h.elim
    · rename_i kvs ep ea
      obtain ⟨_, hf, us, hd, hk, hvs⟩ := X.rel.own a _ ea
      split at h
      · rename_i k
        split at h
        · rename_i x e
          rw [Y9] at hi; obtain ⟨_, t, rfl⟩ := hi
          obtain ⟨w, e2, hw⟩ := Zdi hk hvs e
          exact tail_any hd.dictOf.typeIs slot_dict_getitem.lookup (wpAny_getItem_of (strKind_is _ _ k t) hd.dictOf.mapOf e2 (hq x w _ h hw)) (hs _ _)
        · exact h.elim
      · exact h.elim
    · rename_i kvs ep ea
      obtain ⟨_, hf, us, hd, hk, hvs⟩ := X.rel.own a _ ea
      obtain ⟨ks, rfl, h⟩ := h
      split at h
      · rename_i x e
        obtain ⟨ka, rfl, _, hka⟩ := Zbr hi
        obtain ⟨p, e2, hw⟩ := Zg0 hk hvs e
        exact tail_any hd.ofH.typeIs slot_dict_getitem.lookup (wpAny_getItem_heap (knd := tupleKind (intKind g.prog g.w)) (tupleKind_room_in1 (by exact Zua hu)) hka hd.ofH e2 (hq x p.2 _ h hw)) (hs _ _)
      · exact h.elim
    · exact h.elim
  · exact h.elim
end
noncomputable def Yq (t₁ t₂ : TE) : TE := fun ℓ σ Q E => t₁ ℓ σ (fun a σ₁ => t₂ ℓ σ₁ (fun b σ₂ => Zbb a b σ₂ fun x => Q x σ₂) E) E
theorem Zi {e₁ e₂ : Expr} {t₁ t₂ : TE} {pos : Pos} (h1 : Xy g sc r c e₁ t₁) (h2 : Xy g sc r c e₂ t₂) (hs : ∀ a b, subscripted e₂ false a b = operate [a, b] (getItem a b)) : Xy g sc r c (.Subscript e₁ e₂ pos) (Yq t₁ t₂) := .mk fun A env s ℓ σ Q E X h => by
  refine Subscript_ (wpAny_mono (h1.run A env s ℓ σ _ E X h) (fun u s₁ p => ?_) fun _ _ p => p)
  refine Za3.elim p fun a σ₁ hu hR hx hs1 hq => ?_
  have X₁ := X.step hR hx
  refine wpAny_mono (h2.run A env s₁ ℓ σ₁ _ E X₁ hq) (fun v s₂ p => ?_) fun _ _ p => p.back hx hs1
  refine Za3.elim p fun b σ₂ hv hR2 hx2 hs2 hq2 => ?_
  exact Zbd (hx.trans hx2) (hs1.trans hs2) (Ztq (X₁.step hR2 hx2) (hx2.vr hR Xo hu) hv hq2 hs fun x w tk hx hw => Wp hR2 hw hx)
noncomputable def loN : Option Int → Nat
  | some a => a.toNat
  | none => 0
noncomputable def hiN (n : Nat) : Option Int → Nat
  | some b => min b.toNat n
  | none => n
noncomputable def Zf5 {α : Type} (xs : List α) : Option Int → List α
  | some b => xs.take b.toNat
  | none => xs
noncomputable def Zfn {α : Type} (lo hi : Option Int) (xs : List α) : List α := (Zf5 xs hi).drop (loN lo)
noncomputable def Zbe : Option Int → Prop
  | some a => 0 ≤ a
  | none => True
theorem Zec {α : Type} (lo hi : Option Int) (xs : List α) : (Zfn lo hi xs).length ≤ xs.length := by
  unfold Zfn
  rw [List.length_drop]
  cases hi with
  | none => exact Nat.sub_le _ _
  | some b => unfold Zf5; rw [List.length_take]; exact Z4e
theorem Zlg {g : Gr} {h : Heap} {xs : List V} {vs : List Value} (lo hi : Option Int) (a : VRs g h xs vs) : VRs g h (Zfn lo hi xs) (Zfn lo hi vs) := by
  unfold Zfn
  cases hi with
  | none => exact Zi9 _ a
  | some b => exact Zi9 _ (Zmi _ a)
theorem Zhs {α : Type} (xs : List α) (a b : Nat) : (xs.drop (min a xs.length)).take (min b xs.length - min a xs.length) = (xs.take b).drop a := by
  rw [List.drop_take, List.take_eq_take_min (i := b - a), List.length_drop, Nat.sub_min_sub_right]
  rcases Nat.le_total a xs.length with q | q
  · rw [Nat.min_eq_left q]
  · rw [Nat.min_eq_right q, List.drop_eq_nil_of_le (Nat.le_refl _), List.drop_eq_nil_of_le q, List.take_nil, List.take_nil]
theorem Zr8 {a : Int} (h : 0 ≤ a) (n : Nat) : min a (n : Int) = ((min a.toNat n : Nat) : Int) := by
  obtain ⟨m, rfl⟩ := Int.eq_ofNat_of_zero_le h
  rw [Int.toNat_natCast]
  rcases Nat.le_total m n with q | q
  · rw [Nat.min_eq_left q, Int.min_eq_left (Int.ofNat_le.2 q)]
  · rw [Nat.min_eq_right q, Int.min_eq_right (Int.ofNat_le.2 q)]
theorem Zl8 {α : Type} (xs : List α) (hi : Option Int) : Zf5 xs hi = xs.take (hiN xs.length hi) := by
  cases hi with
  | none => unfold Zf5 hiN; rw [List.take_length]
  | some b => unfold Zf5 hiN; rw [← List.take_take, List.take_length]
theorem Zsj (n : Nat) (hi : Option Int) : hiN n hi ≤ n := by cases hi <;> simp only [hiN] <;> omega
theorem Zil (items : Array Value) {lo hi : Option Int} (h1 : Zbe lo) (h2 : Zbe hi) : (slicePick items lo hi none).toList = Zfn lo hi items.toList := by
  have hn : items.toList.length = items.size := by simp
  have e : sliceBounds lo hi none items.size = (((min (loN lo) items.size : Nat) : Int), ((hiN items.size hi : Nat) : Int), 1) := by
    simp only [sliceBounds, Option.getD_none, show (1 : Int) > 0 by decide, if_true]
    congr 1
    · cases lo with
      | none => simp [loN]
      | some a => have : 0 ≤ a := h1
                  unfold loN; dsimp only; rw [if_neg (Int.not_lt.2 this), Zr8 this]; exact Int.max_eq_right (Int.natCast_nonneg _)
    · congr 1
      cases hi with
      | none => rfl
      | some b => have : 0 ≤ b := h2
                  unfold hiN; dsimp only; rw [if_neg (Int.not_lt.2 this), Zr8 this]; exact Int.max_eq_right (Int.natCast_nonneg _)
  unfold slicePick
  rw [e]
  simp only [sliceRange_one, pick_run]
  unfold Zfn
  rw [Zl8]
  have := Zhs items.toList (loN lo) (hiN items.toList.length hi)
  rw [Nat.min_eq_left (Zsj _ hi), hn] at this
  rw [hn]
  exact this
end
section
open PySem PyProof.Rows
variable {g : Gr} {sc : Scope} {r : Nat} {c : Bool}
section
variable {prog : Program} {w : World} {A : Around} {E : Value → Shared → Prop} {s : Shared}
theorem Zd5 {v : Value} {k : Option Int} {Q : Option Int → Shared → Prop} (p : IsPart v k) (h : Q k s) : wpAny (model prog w) A (Builtin.Slice.slicePartIndex v) Q E s := by
  cases p with
  | none => exact slicePart_none h
  | int i t => exact slicePart_int h
theorem Zny {lo hi : Option Int} (h1 : Zbe lo) (h2 : Zbe hi) (n : Nat) : Builtin.Slice.sliceAdjust lo hi 1 (n : Int) = (((min (loN lo) n : Nat) : Int), ((hiN n hi : Nat) : Int)) := by
  unfold Builtin.Slice.sliceAdjust
  have e : ¬ ((1 : Int) < 0) := by exact Z4d
  simp only [e, if_false]
  congr 1
  · cases lo with
    | none => simp [loN]
    | some a => have : 0 ≤ a := h1
                simp only [loN]; rw [if_neg (Int.not_lt.2 this), Zr8 this]
  · cases hi with
    | none => rfl
    | some b => have : 0 ≤ b := h2
                simp only [hiN]; rw [if_neg (Int.not_lt.2 this), Zr8 this]
theorem Zne (a b : Nat) : Builtin.Slice.slicePlaces (a : Int) (b : Int) 1 = b - a := by
  unfold Builtin.Slice.slicePlaces
  have h1 : (1 : Int) > 0 := by decide
  simp only [h1, if_true, Int.ediv_one]
  split <;> omega
theorem Zf6 {sl : Addr} {vl vu : Value} {lo hi : Option Int} {n : Nat} {Q : Int × Int × Nat → Shared → Prop} (hs : s.heap.IsSliceOf sl vl vu .none) (p1 : IsPart vl lo) (p2 : IsPart vu hi) (h1 : Zbe lo) (h2 : Zbe hi)
    (h : Q (((min (loN lo) n : Nat) : Int), 1, hiN n hi - min (loN lo) n) s) : wpAny (model prog w) A (Builtin.Slice.sliceApplied (.ref sl) (pure (n : Int))) Q E s := by
  obtain ⟨os, hos, hcs, hds⟩ := id hs
  unfold Builtin.Slice.sliceApplied Builtin.Slice.sliceFields
  refine wpAny_bind (wpAny_bind (wpAny_field hos hds (x := vl) rfl (wpAny_bind (wpAny_field hos hds (x := vu) rfl (wpAny_bind (wpAny_field hos hds (x := .none) rfl (wpAny_pure ?_)))))))
  refine wpAny_bind (slicePart_none ?_)
  show wpAny _ _ (if ((1 : Int) == 0) = true then _ else _) _ _ s
  rw [if_neg (by decide)]
  refine wpAny_bind (Zd5 p1 (wpAny_bind (Zd5 p2 (wpAny_bind (wpAny_pure ?_)))))
  show wpAny _ _ (match Builtin.Slice.sliceAdjust lo hi 1 (n : Int) with | (lo, hi) => pure (lo, (1 : Int), Builtin.Slice.slicePlaces lo hi 1)) _ _ s
  rw [Zny h1 h2]
  show wpAny _ _ (pure (((min (loN lo) n : Nat) : Int), (1 : Int), Builtin.Slice.slicePlaces ((min (loN lo) n : Nat) : Int) ((hiN n hi : Nat) : Int) 1)) _ _ s
  rw [Zne]
  exact wpAny_pure h
theorem Zlv (xs : Array Value) (lo hi : Option Int) : ((List.range (hiN xs.size hi - min (loN lo) xs.size)).filterMap fun (k : Nat) => xs[(((min (loN lo) xs.size : Nat) : Int) + (k : Int) * 1).toNat]?) = Zfn lo hi xs.toList := by
  have hn : xs.toList.length = xs.size := by simp
  have e : (fun (k : Nat) => xs[(((min (loN lo) xs.size : Nat) : Int) + (k : Int) * 1).toNat]?) = fun k => xs[min (loN lo) xs.size + k]? := by
    funext k
    rw [Int.mul_one]; rfl
  rw [e]
  have := pick_run xs (min (loN lo) xs.size) (hiN xs.size hi - min (loN lo) xs.size)
  rw [List.filterMap_map] at this
  have e2 : ((fun x => xs[x]?) ∘ fun x => min (loN lo) xs.size + x) = fun k => xs[min (loN lo) xs.size + k]? := rfl
  rw [e2] at this
  rw [this]
  unfold Zfn
  rw [Zl8]
  have q := Zhs xs.toList (loN lo) (hiN xs.toList.length hi)
  rw [Nat.min_eq_left (Zsj _ hi), hn] at q
  rw [hn]; exact q
theorem Zfk {t sl : Addr} {items : Array Value} {vl vu : Value} {lo hi : Option Int} {Q : Value → Shared → Prop} (ht : IsTup s.heap t items) (hs : s.heap.IsSliceOf sl vl vu .none) (p1 : IsPart vl lo) (p2 : IsPart vu hi) (h1 : Zbe lo) (h2 : Zbe hi)
    (hq1 : Zfn lo hi items.toList = items.toList → Q (.ref t) s) (hq2 : Q (.ref s.heap.objs.size) { s with heap := s.heap.push { cls := .type "tuple", data := .seq (Zfn lo hi items.toList).toArray } })
    (hsz : items.size ≤ sizeLine) : wpAny (model prog w) A (getItem (.ref t) (.ref sl)) Q E s := by
  have hdrop : sizeOk (.seq (Zfn lo hi items.toList).toArray) := by
    show (Zfn lo hi items.toList).toArray.size ≤ sizeLine
    have h3 := Zec lo hi items.toList
    have h4 : items.toList.length = items.size := by simp
    have h5 : (Zfn lo hi items.toList).toArray.size = (Zfn lo hi items.toList).length := List.size_toArray
    exact Z4c hsz h3 h4 h5
  obtain ⟨os, hos, hcs, hds⟩ := id hs
  have hTs : s.TypeIs (.ref sl) "slice" := ⟨os, hos, hcs⟩
  unfold getItem
  try with_reducible refine wpAny_holding ?_
  refine wpAny_bind (wpAny_sequenceKey ht.typeIs (by decide) ?_)
  refine wpAny_bind (wpAny_callSpecial?_slot (name := Str.ofString "__getitem__") ht.typeIs slot_tuple_getitem
    (wpAny_call_entry slot_tuple_getitem ht.typeIs entry_tuple_getitem ?_ (args_tuple_getitem _ _)))
  show wpAny _ _ (Builtin.Tuple.tupleItemsOf (.ref t) >>= _) _ _ s
  refine wpAny_bind (tupleItemsOf_ ht ?_)
  refine wpAny_bind (wpAny_typeOf hTs ?_)
  rw [if_pos (by decide)]
  refine wpAny_bind (Zf6 hs p1 p2 h1 h2 ?_)
  show wpAny _ _ (if (((min (loN lo) items.size : Nat) : Int) == 0 && (1 : Int) == 1 && (hiN items.size hi - min (loN lo) items.size) == items.size) = true then _ else _) _ _ s
  split
  · rename_i q
    simp only [Bool.and_eq_true, beq_iff_eq] at q
    have e : Zfn lo hi items.toList = items.toList := by
      rw [← Zlv, q.2]
      have : min (loN lo) items.size = 0 := by exact Z4b q
      rw [this]
      have e2 := pick_run items 0 items.size
      rw [List.filterMap_map] at e2
      have e3 : ((fun x => items[x]?) ∘ fun x => 0 + x) = fun (k : Nat) => items[(((0 : Nat) : Int) + (k : Int) * 1).toNat]? := by
        funext k
        show items[0 + k]? = _
        congr 1; exact Z4a
      rw [e3] at e2
      rw [e2, List.drop_zero]
      exact List.take_of_length_le (by simp)
    refine wpAny_bind (m := Builtin.Tuple.tupleIsExact (.ref t)) ?_
    unfold Builtin.Tuple.tupleIsExact
    refine wpAny_bind (wpAny_typeOf ht.typeIs (wpAny_pure ?_))
    rw [if_pos (by decide)]
    exact wpAny_bind (wpAny_rule (wpAny_pure ⟨_, rfl, wpAny_pure (hq1 e)⟩))
  · rw [Zlv]
    exact wpAny_bind (m := Builtin.Tuple.tupleExact _) (wpAny_newObj_type (wpAny_pure ⟨_, rfl, wpAny_pure hq2⟩) hdrop)
end
structure Zwc (g : Gr) (sc : Scope) (r : Nat) (c : Bool) (e : Option Expr) (t : TE) : Prop where
  run : ∀ A env s ℓ σ Q E, Cx g sc r c A env s.heap σ ℓ → t ℓ σ Q E → wpAny (model g.prog g.w) A (evalPart e env) (Zbj g s σ Q) (Zaw g A s σ E) s
theorem Zen : Zwc g sc r c none (Zm .none) := .mk fun A env s ℓ σ Q E X h => wpAny_pure (.here (W6.mpr rfl) X.rel h)
theorem Zcc {e : Expr} {t : TE} (h1 : Xy g sc r c e t) : Zwc g sc r c (some e) t := .mk h1.run
noncomputable def Zf2 : V → Option (Option Int)
  | .none => some none
  | .int i => some (some i)
  | _ => none
theorem Zjw {g : Gr} {h : Heap} {x : V} {v : Value} {k : Option Int} (hv : VR g h x v) (e : Zf2 x = some k) : IsPart v k := by
  cases x with
  | none => rw [W6] at hv; subst hv; cases e; exact .none
  | int i => rw [Z9] at hv; obtain ⟨t, rfl⟩ := hv; cases e; exact .int i t
  | _ => cases e
noncomputable def Zgp (o : V) (lo hi : V) (σ : AH) (Q : V → AH → Prop) : Prop := match Zf2 lo, Zf2 hi with
  | some l, some h => Zbe l ∧ Zbe h ∧ (match o with
    | .tup xs => Q (.tup (Zfn l h xs)) σ
    | .frz xs => ∀ a, σ a = none → Q (.ref a) (σ.set a (.list (Zfn l h xs)))
    | .ref a => (match σ a with
      | some (.list xs) => ∀ a, σ a = none → Q (.ref a) (σ.set a (.list (Zfn l h xs)))
      | _ => False)
    | _ => False)
  | _, _ => False
noncomputable def Zhn (t t₁ t₂ : TE) : TE := fun ℓ σ Q E => t ℓ σ (fun o σ₁ => t₁ ℓ σ₁ (fun lo σ₂ => t₂ ℓ σ₂ (fun hi σ₃ => Zgp o lo hi σ₃ Q) E) E) E
theorem Zcd {e : Expr} {lo hi : Option Expr} {t t₁ t₂ : TE} {p pos : Pos} (h0 : Xy g sc r c e t) (h1 : Zwc g sc r c lo t₁) (h2 : Zwc g sc r c hi t₂) : Xy g sc r c (.Subscript e (.Slice lo hi none p) pos) (Zhn t t₁ t₂) := .mk fun A env s ℓ σ Q E X h => by
  refine Subscript_ (wpAny_mono (h0.run A env s ℓ σ _ E X h) (fun u s₁ q => ?_) fun _ _ q => q)
  obtain ⟨o, σ₁, hu, hR, hx, hs1, hq⟩ := q
  have X₁ := X.step hR hx
  refine wpAny_Slice (wpAny_mono (h1.run A env s₁ ℓ σ₁ _ E X₁ hq) (fun vl s₂ q => ?_) fun _ _ q => q.back hx hs1)
  obtain ⟨lo', σ₂, hl, hR2, hx2, hs2, hq2⟩ := q
  have X₂ := X₁.step hR2 hx2
  have hx02 := hx.trans hx2
  have hs02 := hs1.trans hs2
  refine wpAny_mono (h2.run A env s₂ ℓ σ₂ _ E X₂ hq2) (fun vu s₃ q => ?_) fun _ _ q => q.back hx02 hs02
  obtain ⟨hi', σ₃, hh, hR3, hx3, hs3, hq3⟩ := q
  have X₃ := X₂.step hR3 hx3
  have hx03 := hx02.trans hx3
  have hs03 := hs02.trans hs3
  rw [evalPart_none]
  refine wpAny_pure ?_
  have hu3 : VR g s₃.heap o u := hx3.vr hR2 Xo (hx2.vr hR Xo hu)
  have hl3 := hx3.vr hR2 Xo hl
  unfold Zgp at hq3
  split at hq3
  · rename_i l hb e1 e2
    obtain ⟨n1, n2, hq3⟩ := hq3
    have p1 := Zjw hl3 e1
    have p2 := Zjw hh e2
    have hk := Xg s₃.heap { cls := .type "slice", data := .fields #[vl, vu, .none] }
    have sub : ∀ a b, subscripted (.Slice lo hi none p) false a b = operate [b, a] (getItem a b) := fun _ _ => rfl
    have hR4 := hR3.keeps hk
    have hx04 : Ext No s.heap σ (s₃.heap.push { cls := .type "slice", data := .fields #[vl, vu, .none] }) σ₃ := hx03.trans (.keeps hk)
    have hs04 : Zbo s { s₃ with heap := s₃.heap.push { cls := .type "slice", data := .fields #[vl, vu, .none] } } := hs03.trans ⟨rfl, rfl, rfl⟩
    have cutL : ∀ (a : Addr) (ob : Obj) (vs : Array Value) (n : Nat) (xs : List V), s₃.heap.get? a = some ob → ob.cls = .type "list" → ob.data = .seq vs n → Xv xs.length → VRs g s₃.heap xs vs.toList →
        (∀ a, σ₃ a = none → Q (.ref a) (σ₃.set a (.list (Zfn l hb xs)))) →
        wpAny (model g.prog g.w) A (subscriptTail e (.Slice lo hi none p) (.ref a) (.ref s₃.heap.objs.size)) (Zbj g s σ Q) (Zaw g A s σ E) { s₃ with heap := s₃.heap.push { cls := .type "slice", data := .fields #[vl, vu, .none] } } := by
      intro a ob vs n xs hob hc hd hf hvs hQ
      have hlen := Zz hvs
      simp only [Array.length_toList] at hlen
      refine tail_any (Zda (s := { s₃ with heap := s₃.heap.push { cls := .type "slice", data := .fields #[vl, vu, .none] } }) (hk _ _ hob) hc) slot_list_getitem.lookup ?_ (sub _ _)
      refine wpAny_getItem_list_slice (s := { s₃ with heap := s₃.heap.push { cls := .type "slice", data := .fields #[vl, vu, .none] } }) ⟨ob, hk _ _ hob, hc, n, hd⟩ (Heap.IsSliceOf.new ..) p1 p2 .none (by simp) ?_ (by rw [← hlen]; exact hf.line)
      refine Zde (vs := (slicePick vs l hb none).toList) (n := 0) (s₁ := { s₃ with heap := s₃.heap.push { cls := .type "slice", data := .fields #[vl, vu, .none] } }) hx04 hs04 hR4 ?_ (hf.le (Zec ..)) hQ rfl
      rw [Zil vs n1 n2]
      exact Zlg _ _ (VRs.mono (fun a o _ _ _ e _ _ => .of (hk a o e)) hvs)
    split at hq3
    · rename_i xs
      rw [Wq] at hu3; obtain ⟨hf, a, ob, vs, n, rfl, nh, hob, hc, hd, hvs⟩ := hu3
      have hlen := Zz hvs
      simp only [Array.length_toList] at hlen
      have ht : IsTup (s₃.heap.push { cls := .type "slice", data := .fields #[vl, vu, .none] }) a vs := ⟨ob, hk _ _ hob, hc, n, hd⟩
      have hvs4 := VRs.mono (g := g) (h' := s₃.heap.push { cls := .type "slice", data := .fields #[vl, vu, .none] }) (fun a o _ _ _ e _ _ => .of (hk a o e)) hvs
      refine tail_any (Zda (s := { s₃ with heap := s₃.heap.push { cls := .type "slice", data := .fields #[vl, vu, .none] } }) (hk _ _ hob) hc) slot_tuple_getitem.lookup ?_ (sub _ _)
      refine Zfk (s := { s₃ with heap := s₃.heap.push { cls := .type "slice", data := .fields #[vl, vu, .none] } }) ht (Heap.IsSliceOf.new ..) p1 p2 n1 n2 (fun ec => ?_) ?_ (by rw [← hlen]; exact hf.line)
      · have : Zfn l hb xs = xs := by
          apply List.ext_getElem?
          have h1 := Zz (Zlg l hb hvs)
          rw [ec] at h1
          have h2 : (Zfn l hb xs).length = xs.length := by rw [h1]; simp [hlen]
          intro i
          unfold Zfn at h2 ⊢
          rw [List.length_drop] at h2
          have h4 : (Zf5 xs hb).length ≤ xs.length := by
            cases hb with
            | none => exact Nat.le_refl _
            | some b => simp only [Zf5]; rw [List.length_take]; exact Z39 hlen h2
          by_cases h5 : xs.length = 0
          · have : xs = [] := List.length_eq_zero_iff.mp h5
            subst this
            cases hb <;> simp [Zf5]
          · have h6 : loN l = 0 := by exact Z38 hlen h2 h4 h5
            rw [h6, List.drop_zero]
            cases hb with
            | none => rfl
            | some b =>
              simp only [Zf5] at h2 h4 ⊢
              rw [h6, List.length_take] at h2
              rw [List.take_of_length_le (by exact Z37 hlen h2)]
        rw [this] at hq3
        exact ⟨.tup xs, σ₃, Wq.mpr ⟨hf, a, ob, vs, n, rfl, nh, hk _ _ hob, hc, hd, hvs4⟩, hR4, hx04, hs04, hq3⟩
      · exact Zcu (s₁ := { s₃ with heap := s₃.heap.push { cls := .type "slice", data := .fields #[vl, vu, .none] } }) (n := 0) hx04 hs04 hR4 (Zlg l hb hvs4) (hf.le (Zec ..)) hq3 rfl
    · rename_i xs
      rw [Zc5] at hu3; obtain ⟨hf, a, ob, vs, n, rfl, hob, hc, hd, hvs⟩ := hu3
      exact cutL a ob vs n xs (hR3.base _ _ hob) hc hd hf hvs hq3
    · rename_i a
      rw [Yi] at hu3; subst hu3
      split at hq3
      · rename_i xs ea
        obtain ⟨_, hf, vs, n, hob, hvs⟩ := hR3.own a _ ea
        exact cutL a _ vs n xs hob rfl rfl hf hvs hq3
      · exact hq3.elim
    · exact hq3.elim
  · exact hq3.elim
end
section
open PySem PyProof.Rows
variable {g : Gr} {sc : Scope} {r : Nat} {c : Bool}
theorem Zau {a b : String} (h : Str.ofString a = Str.ofString b) : a = b := by
  rw [Str.ofString_eq_toList, Str.ofString_eq_toList] at h
  have h1 : (a.toList.map Char.toNat).toArray = (b.toList.map Char.toNat).toArray := Str.mk.inj h
  have h2 : a.toList.map Char.toNat = b.toList.map Char.toNat := by simpa using h1
  have h3 : a.toList = b.toList := by
    have inj : ∀ (x y : List Char), x.map Char.toNat = y.map Char.toNat → x = y := by
      intro x
      induction x with
      | nil => intro y e; cases y with | nil => rfl | cons _ _ => simp at e
      | cons c x ih =>
        intro y e
        cases y with
        | nil => simp at e
        | cons d y =>
          simp only [List.map_cons, List.cons.injEq] at e
          have : c = d := Char.toNat_inj.mp e.1
          rw [this, ih y e.2]
    exact inj _ _ h2
  exact String.toList_inj.mp h3
inductive Fl where
  | next
  | brk
  | cont
  | ret (v : V)
noncomputable def Z2t (g : Gr) (h : Heap) : Fl → Flow → Prop
  | .next, f => f = .next
  | .brk, f => f = .brk
  | .cont, f => f = .cont
  | .ret v, f => ∃ u, f = .ret u ∧ VR g h v u
noncomputable abbrev TS := Loc → AH → (Fl → Loc → AH → Prop) → (Addr → Loc → AH → Prop) → Prop
noncomputable def Own (env : Env) : Addr → Prop := fun a => a = env.locals ∨ ∃ x, env.cells.lookup x = some a
inductive Zd2 (g : Gr) (env : Env) (s : Shared) (σ : AH) (Q : Fl → Loc → AH → Prop) (f : Flow) (s' : Shared) : Prop
  | mk (f' : Fl) (ℓ' : Loc) (σ' : AH) (h0 : Z2t g s'.heap f' f) (h1 : LR g s'.heap σ' env ℓ') (h2 : Rel g s'.heap σ') (h3 : Ext (Own env) s.heap σ s'.heap σ') (h4 : Zbo s s') (h5 : Q f' ℓ' σ') : Zd2 g env s σ Q f s'
noncomputable def Zam (g : Gr) (A : Around) (env : Env) (s : Shared) (σ : AH) (E : Addr → Loc → AH → Prop) (e : Value) (s' : Shared) : Prop :=
  ∃ C ℓ' σ', XAt g A s'.heap e C σ' ∧ LR g s'.heap σ' env ℓ' ∧ Rel g s'.heap σ' ∧ Ext (Own env) s.heap σ s'.heap σ' ∧ Zbo s s' ∧ E C ℓ' σ'
section
variable (g : Gr) (sc : Scope) (r : Nat) (c : Bool)
structure Zmk (st : Stmt) (t : TS) : Prop where
  run : ∀ A env s ℓ σ Q E, Cx g sc r c A env s.heap σ ℓ → t ℓ σ Q E → wpAny (model g.prog g.w) A (exec st env) (Zd2 g env s σ Q) (Zam g A env s σ E) s
structure Zhc (st : List Stmt) (t : TS) : Prop where
  run : ∀ A env s ℓ σ Q E, Cx g sc r c A env s.heap σ ℓ → t ℓ σ Q E → wpAny (model g.prog g.w) A (execs st env) (Zd2 g env s σ Q) (Zam g A env s σ E) s
end
section
variable {A : Around} {env : Env} {s s₁ : Shared} {σ σ₁ : AH} {ℓ ℓ₁ : Loc}
theorem LR.noSeq {h : Heap} (L : LR g h σ env ℓ) : Zn0 (Own env) h := by
  rintro a o (rfl | ⟨x, e⟩) ho vs n hd
  · obtain ⟨m, ⟨o', es, ep, ho', hd', _⟩, _⟩ := L.ns
    rw [ho] at ho'; cases ho'; rw [hd] at hd'; cases hd'
  · obtain ⟨o', u, ho', hd'⟩ := L.cell x a e
    rw [ho] at ho'; cases ho'; rw [hd] at hd'; cases hd'
theorem LR.noFields {h : Heap} (L : LR g h σ env ℓ) {a : Addr} (w : Own env a) : ∃ o, h.get? a = some o ∧ ∀ vs, o.data ≠ .fields vs := by
  rcases w with rfl | ⟨x, e⟩
  · obtain ⟨m, ⟨o', es, ep, ho', hd', _⟩, _⟩ := L.ns
    exact ⟨o', ho', fun vs q => by rw [q] at hd'; cases hd'⟩
  · obtain ⟨o', u, ho', hd'⟩ := L.cell x a e
    exact ⟨o', ho', fun vs q => by rw [q] at hd'; cases hd'⟩
theorem Cx.stepS (X : Cx g sc r c A env s.heap σ ℓ) (L : LR g s₁.heap σ₁ env ℓ₁) (R : Rel g s₁.heap σ₁) (x : Ext (Own env) s.heap σ s₁.heap σ₁) : Cx g sc r c A env s₁.heap σ₁ ℓ₁ :=
  ⟨X.gok, X.ok, L, X.fr.step x (fun a o w _ _ => L.noFields w), X.room, R⟩
theorem Zd2.back {Q : Fl → Loc → AH → Prop} (x : Ext (Own env) s.heap σ s₁.heap σ₁) (y : Zbo s s₁) {f : Flow} {s' : Shared} (p : Zd2 g env s₁ σ₁ Q f s') : Zd2 g env s σ Q f s' :=
  let ⟨a, b, d, h1, h2, h3, h4, h5, h6⟩ := p; ⟨a, b, d, h1, h2, h3, x.trans h4, y.trans h5, h6⟩
theorem Zam.back {E : Addr → Loc → AH → Prop} (x : Ext (Own env) s.heap σ s₁.heap σ₁) (y : Zbo s s₁) {f : Value} {s' : Shared} (p : Zam g A env s₁ σ₁ E f s') : Zam g A env s σ E f s' :=
  let ⟨a, b, d, h1, h2, h3, h4, h5, h6⟩ := p; ⟨a, b, d, h1, h2, h3, x.trans h4, y.trans h5, h6⟩
theorem Zkn {M : Model} {t : Sem Flow} {Q : Fl → Loc → AH → Prop} {E : Addr → Loc → AH → Prop} (x : Ext (Own env) s.heap σ s₁.heap σ₁) (y : Zbo s s₁) (h : wpAny M A t (Zd2 g env s₁ σ₁ Q) (Zam g A env s₁ σ₁ E) s₁) : wpAny M A t (Zd2 g env s σ Q) (Zam g A env s σ E) s₁ :=
  wpAny_mono h (fun _ _ p => p.back x y) fun _ _ p => p.back x y
theorem Ext.own {h h' : Heap} (x : Ext No h σ h' σ₁) : Ext (Own env) h σ h' σ₁ := x.weaken fun _ n => n.elim
theorem Zaw.toS {E : Addr → Loc → AH → Prop} (X : Cx g sc r c A env s.heap σ ℓ) {e : Value} {s' : Shared} (p : Zaw g A s σ (fun C σ' => E C ℓ σ') e s') : Zam g A env s σ E e s' :=
  let ⟨C, σ', h1, h2, h3, h4, h5⟩ := p; ⟨C, ℓ, σ', h1, X.loc.step X.rel h3, h2, h3.own, h4, h5⟩
theorem Zel {n : String} {k : NameKind} {x : V} {u : Value} {P : Unit → Shared → Prop} {E : Value → Shared → Prop} (X : Cx g sc r c A env s.heap σ ℓ) (hm : (Str.ofString n, k) ∈ sc.names) (hk : (k == .local || k == .cell) = true) (hv : VR g s.heap x u)
    (h : ∀ s' a, (k = .local → a = env.locals) → (k = .cell → env.cells.lookup (Str.ofString n) = some a) → Own env a → LR g s'.heap σ env (ℓ.set n x) → Rel g s'.heap σ → Ext (· = a) s.heap σ s'.heap σ → Zbo s s' → P () s') : wpAny (model g.prog g.w) A (storeName env (Str.ofString n) u) P E s := by
  have hcls : (env.scope.kind == .class || (env.scope.kind == .module && env.locals != env.globals)) = false := by rw [X.ok.kind]; rfl
  have kd : env.kindOf (Str.ofString n) = some k := by
    rcases X.ok.kinds _ _ hm with q | ⟨q, _⟩
    · exact q
    · subst q; cases hk
  have relOf : ∀ (a : Addr) (h' : Heap), Own env a → Heap.SameBut a s.heap h' → (∃ o, h'.get? a = some o) → Rel g h' σ := fun a h' w hs hp => by
    have hoff : σ a = none ∧ g.b0.get? a = none := by
      rcases w with rfl | ⟨y, e⟩
      · exact X.loc.off
      · exact ⟨(X.loc.offc y a e).1, (X.loc.offc y a e).2.2⟩
    have hne : ∀ b, b = a → σ b = none := fun b q => by rw [q]; exact hoff.1
    refine ⟨fun b hb => ?_, fun b o q => (hs.2 b fun z => ?_).trans (X.rel.base b o q), fun b bo q => ⟨(X.rel.own b bo q).1, Zc3 (fun d o vs m _ y t dd => .of ((hs.2 d fun z => ?_).trans y)) (fun o y => (hs.2 b fun z => ?_).trans y) (X.rel.own b bo q).2⟩⟩
    · by_cases z : b = a
      · rw [z]; exact hp
      · obtain ⟨o, q⟩ := X.rel.hid b hb; exact ⟨o, (hs.2 b z).trans q⟩
    · rw [z, hoff.2] at q; cases q
    · exact X.loc.noSeq d o (by rw [z]; exact w) y vs m dd
    · rw [z, hoff.1] at q; cases q
  have extOf : ∀ (a : Addr) (h' : Heap), Own env a → Heap.SameBut a s.heap h' → (∃ o, h'.get? a = some o) → Ext (· = a) s.heap σ h' σ := fun a h' w hs hp =>
    ⟨fun b o q _ nw => .of ((hs.2 b fun z => nw z).trans q), fun b o q => by
      by_cases z : b = a
      · rw [z]; exact hp
      · exact ⟨o, (hs.2 b z).trans q⟩, fun b q => .inl q⟩
  cases k with
  | «local» =>
    obtain ⟨m, hn, hmm⟩ := X.loc.ns
    refine wpAny_storeName_local kd hn (fun h' hn' hs' => ?_) hcls
    have w : Own env env.locals := .inl rfl
    have pr : ∃ o, h'.get? env.locals = some o := let ⟨o, _, _, e, _⟩ := hn'; ⟨o, e⟩
    have R' := relOf _ h' w hs' pr
    have x' := extOf _ h' w hs' pr
    have kv : ∀ {v : V} {u : Value}, VR g s.heap v u → VR g h' v u := x'.vr X.rel fun b o z => X.loc.noSeq b o (z ▸ w)
    refine h { s with heap := h', toks := s.toks + 1 } env.locals (fun _ => rfl) (fun z => nomatch z) w ⟨⟨_, hn', fun y v e kk => ?_⟩, fun y cc e => ?_, fun y v e kk => ?_, X.loc.off, X.loc.offc, X.loc.apart, X.loc.has⟩ R' x' ⟨rfl, rfl, rfl⟩
    · rw [Zad] at e
      split at e
      · rename_i z; subst z; cases e; exact ⟨u, by simp, kv hv⟩
      · rename_i z
        obtain ⟨u', e1, e2⟩ := hmm y v e kk
        exact ⟨u', by rw [if_neg fun q => z (Zau q)]; exact e1, kv e2⟩
    · obtain ⟨o, u', ho, hd⟩ := X.loc.cell y cc e
      exact ⟨o, u', (hs'.2 cc (X.loc.offc y cc e).2.1).trans ho, hd⟩
    · rw [Zad] at e
      split at e
      · rename_i z; subst z; rw [kd] at kk; rcases kk with kk | kk <;> cases kk
      · obtain ⟨cc, u', e1, ho, hu⟩ := X.loc.cells y v e kk
        obtain ⟨o, e2, e3⟩ := ho
        exact ⟨cc, u', e1, ⟨o, (hs'.2 cc (X.loc.offc _ cc e1).2.1).trans e2, e3⟩, kv hu⟩
  | cell =>
    have : ∃ cc, env.cells.lookup (Str.ofString n) = some cc := X.loc.has _ (.inl kd)
    obtain ⟨cc, ec⟩ := this
    obtain ⟨o, v0, ho, hd⟩ := X.loc.cell _ cc ec
    refine wpAny_storeName_cell X.ok.kind kd ec ⟨o, ho, hd⟩ fun h' hc' hs' => ?_
    have w : Own env cc := .inr ⟨_, ec⟩
    have pr : ∃ o, h'.get? cc = some o := let ⟨o, e, _⟩ := hc'; ⟨o, e⟩
    have R' := relOf _ h' w hs' pr
    have x' := extOf _ h' w hs' pr
    have kv : ∀ {v : V} {u : Value}, VR g s.heap v u → VR g h' v u := x'.vr X.rel fun b o z => X.loc.noSeq b o (z ▸ w)
    have hnl : env.locals ≠ cc := fun q => (X.loc.offc _ cc ec).2.1 q.symm
    obtain ⟨m, hn, hmm⟩ := X.loc.ns
    refine h { s with heap := h' } cc (fun z => nomatch z) (fun _ => ec) w ⟨⟨m, hn.sameBut hs' hnl, fun y v e kk => ?_⟩, fun y cc' e => ?_, fun y v e kk => ?_, X.loc.off, X.loc.offc, X.loc.apart, X.loc.has⟩ R' x' ⟨rfl, rfl, rfl⟩
    · rw [Zad] at e
      split at e
      · rename_i z; subst z; rw [kd] at kk; cases kk
      · obtain ⟨u', e1, e2⟩ := hmm y v e kk
        exact ⟨u', e1, kv e2⟩
    · by_cases z : cc' = cc
      · obtain ⟨o', e1, e2⟩ := hc'; exact ⟨o', _, by rw [z]; exact e1, e2⟩
      · obtain ⟨o', u', ho', hd'⟩ := X.loc.cell y cc' e
        exact ⟨o', u', (hs'.2 cc' z).trans ho', hd'⟩
    · rw [Zad] at e
      split at e
      · rename_i z; subst z; cases e; exact ⟨cc, u, ec, hc', kv hv⟩
      · rename_i z
        obtain ⟨c2, u', e1, ho', hu⟩ := X.loc.cells y v e kk
        obtain ⟨o2, e2, e3⟩ := ho'
        have ne : c2 ≠ cc := fun q => z (Zau (X.loc.apart _ _ cc (q ▸ e1) ec))
        exact ⟨c2, u', e1, ⟨o2, (hs'.2 c2 ne).trans e2, e3⟩, kv hu⟩
  | _ => cases hk
end
end
section
open PySem PyProof.Rows
variable {g : Gr} {sc : Scope} {r : Nat} {c : Bool}
section
variable {A : Around} {env : Env} {s s₁ : Shared} {σ σ₁ : AH} {ℓ ℓ₁ : Loc} {Q : Fl → Loc → AH → Prop} {E : Addr → Loc → AH → Prop}
theorem Zam.noted {e : Value} {s' : Shared} (p : Zam g A env s σ E e s') {P : Value → Shared → Prop} (k : ∀ e s', Zam g A env s σ E e s' → P e s') : notedBy (model g.prog g.w) A env P e s' :=
  let ⟨_, _, _, h1, _⟩ := p; h1.elim
theorem Zam.came {e : Value} {s' : Shared} (p : Zam g A env s σ E e s') {P : Value → Shared → Prop} (k : ∀ e s', Zam g A env s σ E e s' → P e s') : cameBackBy (model g.prog g.w) A env P e s' :=
  let ⟨_, _, _, h1, _⟩ := p; h1.elim
theorem Zd2.here {f : Fl} {u : Flow} (X : Cx g sc r c A env s.heap σ ℓ) (hf : Z2t g s.heap f u) (h : Q f ℓ σ) : Zd2 g env s σ Q u s := ⟨f, ℓ, σ, hf, X.loc, X.rel, .refl, .refl, h⟩
end
noncomputable def Zan : TS := fun ℓ σ Q _ => Q .next ℓ σ
noncomputable def Zuh (t ts : TS) : TS := fun ℓ σ Q E => t ℓ σ (fun f ℓ' σ' => match f with | .next => ts ℓ' σ' Q E | f => Q f ℓ' σ') E
theorem Zh : Zhc g sc r c [] Zan := .mk fun A env s ℓ σ Q E X h => wpAny_execs_nil (.here (f := .next) X rfl h)
theorem Zc {st : Stmt} {rest : List Stmt} {t ts : TS} (h1 : Zmk g sc r c st t) (h2 : Zhc g sc r c rest ts) : Zhc g sc r c (st :: rest) (Zuh t ts) := .mk fun A env s ℓ σ Q E X h => by
  refine wpAny_execs_cons (wpAny_mono (h1.run A env s ℓ σ _ E X h) (fun f s₁ p => ?_) fun _ _ p => p)
  obtain ⟨f', ℓ', σ', hf, hL, hR, hx, hs, hq⟩ := p
  cases f' with
  | next => cases hf; exact Zkn hx hs (h2.run A env s₁ ℓ' σ' Q E (X.stepS hL hR hx) hq)
  | brk => cases hf; exact ⟨.brk, ℓ', σ', rfl, hL, hR, hx, hs, hq⟩
  | cont => cases hf; exact ⟨.cont, ℓ', σ', rfl, hL, hR, hx, hs, hq⟩
  | ret v => obtain ⟨u, rfl, hv⟩ := hf; exact ⟨.ret v, ℓ', σ', ⟨u, rfl, hv⟩, hL, hR, hx, hs, hq⟩
noncomputable def Za8 (t : TE) : TS := fun ℓ σ Q E => t ℓ σ (fun v σ' => Q (.ret v) ℓ σ') fun C σ' => E C ℓ σ'
theorem Zj {e : Expr} {t : TE} {pos : Pos} (h1 : Xy g sc r c e t) : Zmk g sc r c (.Return (some e) pos) (Za8 t) := .mk fun A env s ℓ σ Q E X h => by
  refine wpAny_Return_some (wpAny_mono (h1.run A env s ℓ σ _ _ X h) (fun v s₁ p => ?_) fun _ _ p => p.toS X)
  refine Za3.elim p fun x σ₁ hv hR hx hs hq => ?_
  exact ⟨.ret x, ℓ, σ₁, ⟨v, rfl, hv⟩, X.loc.step X.rel hx, hR, hx.own, hs, hq⟩
noncomputable def tDo (t : TE) : TS := fun ℓ σ Q E => t ℓ σ (fun _ σ' => Q .next ℓ σ') fun C σ' => E C ℓ σ'
theorem Zsb.notInteractive {env : Env} (k : Zsb sc env) : interactive env = false := by
  unfold interactive; simp [k.kind]
theorem Yn {e : Expr} {t : TE} {pos : Pos} (h1 : Xy g sc r c e t) (hs : ∀ env, swapsWith e none pos.line env = pure false) : Zmk g sc r c (.Expr e pos) (tDo t) := .mk fun A env s ℓ σ Q E X h => by
  refine wpAny_Expr_any (wpAny_mono (h1.run A env s ℓ σ _ _ X h) (fun v s₁ p => ?_) fun _ _ p => p.toS X) X.ok.notInteractive (hs env)
  refine Za3.elim p fun x σ₁ hv hR hx hs hq => ?_
  exact ⟨.next, ℓ, σ₁, rfl, X.loc.step X.rel hx, hR, hx.own, hs, hq⟩
noncomputable def Zkl (t : TB) (a b : TS) : TS := fun ℓ σ Q E => t ℓ σ (fun x σ' => match x with | true => a ℓ σ' Q E | false => b ℓ σ' Q E) fun C σ' => E C ℓ σ'
theorem Yb {e : Expr} {t : TB} {body orelse : List Stmt} {a b : TS} {pos : Pos} (h1 : Zn5 g sc r c e t) (h2 : Zhc g sc r c body a) (h3 : Zhc g sc r c orelse b) : Zmk g sc r c (.If e body orelse pos) (Zkl t a b) := .mk fun A env s ℓ σ Q E X h => by
  refine wpAny_If (wpAny_mono (h1.run A env s ℓ σ _ _ X h) (fun v s₁ p => ?_) fun _ _ p => p.toS X)
  obtain ⟨x, σ₁, rfl, hR, hx, hs, hq⟩ := p
  cases x with
  | true => exact Zkn hx.own hs (h2.run A env s₁ ℓ σ₁ Q E (X.step hR hx) hq)
  | false => exact Zkn hx.own hs (h3.run A env s₁ ℓ σ₁ Q E (X.step hR hx) hq)
noncomputable def Z5 (n : String) (t : TE) : TS := fun ℓ σ Q E => t ℓ σ (fun v σ' => Q .next (ℓ.set n v) σ') fun C σ' => E C ℓ σ'
theorem Zkq {n : String} {k : NameKind} {p' pos : Pos} {e : Expr} {t : TE} (hm : (Str.ofString n, k) ∈ sc.names) (hk : (k == .local || k == .cell) = true) (h1 : Xy g sc r c e t)
    (hs : ∀ env, swapsWith e (some (.Name (Str.ofString n) p')) pos.line env = pure false) : Zmk g sc r c (.Assign [.Name (Str.ofString n) p'] e pos) (Z5 n t) := .mk fun A env s ℓ σ Q E X h => by
  refine wpAny_Assign_Name (wpAny_mono (h1.run A env s ℓ σ _ _ X h) (fun v s₁ p => ?_) fun _ _ p => p.toS X) (hs env)
  refine Za3.elim p fun x σ₁ hv hR hx hs hq => ?_
  exact Zel (X.step hR hx) hm hk hv fun s' a _ _ w hL hR' hx' hs' => ⟨.next, _, σ₁, rfl, hL, hR', hx.own.trans (hx'.weaken fun b z => z ▸ w), hs.trans hs', hq⟩
inductive Tgt where
  | name (n : String)
  | tup (ns : List String)
noncomputable def Loc.setAll (ℓ : Loc) : List String → List V → Loc
  | n :: ns, v :: vs => (ℓ.set n v).setAll ns vs
  | _, _ => ℓ
noncomputable def Zce (v : V) (σ : AH) : Option (List V) := match v with
  | .tup vs => some vs
  | .frz vs => some vs
  | .ref a => match σ a with | some (.list vs) => some vs | _ => none
  | _ => none
noncomputable def Xd (t : Tgt) (v : V) (ℓ : Loc) (σ : AH) (P : Loc → Prop) : Prop := match t with
  | .name n => P (ℓ.set n v)
  | .tup ns => match Zce v σ with | some vs => vs.length = ns.length ∧ P (ℓ.setAll ns vs) | none => False
inductive Zba (sc : Scope) : List Expr → List String → Prop
  | nil : Zba sc [] []
  | cons {n : String} {k : NameKind} {pos : Pos} {es : List Expr} {ns : List String} (hm : (Str.ofString n, k) ∈ sc.names) (hk : (k == .local || k == .cell) = true) (h : Zba sc es ns) : Zba sc (.Name (Str.ofString n) pos :: es) (n :: ns)
inductive Zja (sc : Scope) : Expr → Tgt → Prop
  | name {n : String} {k : NameKind} {pos : Pos} (hm : (Str.ofString n, k) ∈ sc.names) (hk : (k == .local || k == .cell) = true) : Zja sc (.Name (Str.ofString n) pos) (.name n)
  | tup {es : List Expr} {ns : List String} {k : Nat} {pos : Pos} (h : Zba sc es ns) : Zja sc (.Tuple es k pos) (.tup ns)
section
variable {A : Around} {env : Env} {s : Shared} {σ : AH} {ℓ : Loc} {E : Value → Shared → Prop}
inductive Zt4 (g : Gr) (W : Addr → Prop) (env : Env) (s : Shared) (σ : AH) (P : Loc → Prop) (s' : Shared) : Prop
  | mk (ℓ' : Loc) (h1 : LR g s'.heap σ env ℓ') (h2 : Rel g s'.heap σ) (h3 : Ext W s.heap σ s'.heap σ) (h4 : Zbo s s') (h5 : P ℓ') : Zt4 g W env s σ P s'
noncomputable def Zmh (W : Addr → Prop) (sc : Scope) (env : Env) : Prop := (∀ a, W a → Own env a) ∧ ∀ n k a, (Str.ofString n, k) ∈ sc.names → (k = .local → a = env.locals) → (k = .cell → env.cells.lookup (Str.ofString n) = some a) → (k == .local || k == .cell) = true → W a
theorem Zhm {env : Env} : Zmh (Own env) sc env := ⟨fun _ w => w, fun n k a hm h1 h2 hk => by
  cases k <;> first | exact .inl (h1 rfl) | exact .inr ⟨_, h2 rfl⟩ | cases hk⟩
theorem Zba.length {es : List Expr} {ns : List String} (h : Zba sc es ns) (env : Env) : (assignEach es env).length = ns.length := by
  induction h with
  | nil => rfl
  | cons hm hk h ih => show (_ :: assignEach _ env).length = _; simp [ih]
theorem Zba.noStar {es : List Expr} {ns : List String} (h : Zba sc es ns) (env : Env) : (assignEach es env).findIdx? (·.1) = none := by
  induction h with
  | nil => rfl
  | @cons n k pos es ns hm hk h ih => show ((false, assign (.Name (Str.ofString n) pos) env) :: assignEach es env).findIdx? (·.1) = none; simp [List.findIdx?_cons, ih]
theorem Znp {W : Addr → Prop} (hW : Zmh W sc env) {P : Loc → Prop} {es : List Expr} {ns : List String} (hn : Zba sc es ns) : ∀ {s : Shared} {ℓ : Loc} {xs : List V} {us : List Value}, Cx g sc r c A env s.heap σ ℓ → VRs g s.heap xs us → xs.length = ns.length → P (ℓ.setAll ns xs) →
    wpAny (model g.prog g.w) A (assignInOrder ((assignEach es env).map (·.2)) us) (fun _ s' => Zt4 g W env s σ P s') E s := by
  induction hn with
  | nil =>
    intro s ℓ xs us X hv hl h
    have : xs = [] := List.length_eq_zero_iff.mp hl
    subst this
    rw [Z2 hv]
    exact wpAny_pure ⟨ℓ, X.loc, X.rel, .refl, .refl, h⟩
  | @cons n k pos es ns hm hk hn ih =>
    intro s ℓ xs us X hv hl h
    cases xs with
    | nil => simp at hl
    | cons x xs =>
      obtain ⟨u, us, rfl, hx, hxs⟩ := Zn hv
      show wpAny _ A (do holding us (assign (.Name (Str.ofString n) pos) env u); assignInOrder ((assignEach es env).map (·.2)) us) _ E s
      refine wpAny_bind (wpAny_holding (wpAny_assign_Name (Zel X hm hk hx fun s' a q1 q2 w hL hR hx' hs' => ?_)))
      replace hx' := hx'.weaken (W' := W) fun b z => z ▸ hW.2 n k a hm q1 q2 hk
      have hx'' := hx'.weaken (W' := Own env) hW.1
      refine wpAny_mono (ih (X.stepS hL hR hx'') (hx''.vrs X.rel X.loc.noSeq hxs) (by simpa using hl) h) (fun _ s'' p => ?_) fun _ _ p => p
      obtain ⟨ℓ', h1, h2, h3, h4, h5⟩ := p
      exact ⟨ℓ', h1, h2, hx'.trans h3, hs'.trans h4, h5⟩
theorem Zj7 {it l : Addr} {items : Array Value} (hne : l ≠ it) : ∀ (n i : Nat) (s : Shared) (Q : List Value → Shared → Prop), s.heap.IsListIter it l i → s.heap.IsList l items → i + n ≤ items.size →
    (∀ h', h'.IsListIter it l (i + n) → Heap.SameBut it s.heap h' → Q ((items.toList.drop i).take n) { s with heap := h' }) → wpAny (model g.prog g.w) A (draw (.ref it) n) Q E s
  | 0, i, s, Q, hit, _, _, hQ => by
    show wpAny _ _ (pure []) Q E s
    exact wpAny_pure (by simpa using hQ s.heap hit (Heap.SameBut.refl ..))
  | n + 1, i, s, Q, hit, ht, hle, hQ => by
    have hlt : i < items.size := by exact Z36 hle
    show wpAny _ _ (pyNext (.ref it) >>= _) Q E s
    refine wpAny_bind (wpAny_pyNext_list_item hit ht (x := items[i]) (by simp [hlt]) fun h₁ hit₁ hs₁ => ?_)
    refine wpAny_bind (wpAny_holding (Zj7 hne n (i + 1) _ _ hit₁ (ht.extBut hs₁.extBut hne) (by exact Z33 hle) fun h₂ hit₂ hs₂ => wpAny_pure ?_))
    have hd : items.toList.drop i = items[i] :: items.toList.drop (i + 1) := by simp [List.drop_eq_getElem_cons, hlt]
    have := hQ h₂ (by rw [show i + (n + 1) = i + 1 + n by exact Zv8]; exact hit₂) (hs₁.trans hs₂)
    rw [hd, List.take_succ_cons] at this
    exact this
theorem Zf4 {t : Addr} {items : Array Value} {Q : List Value → Shared → Prop} (hh : A.handled = none) (ht : s.heap.IsList t items)
    (hQ : ∀ h', Heap.ExtBut s.heap.objs.size s.heap h' → Q items.toList { s with heap := h' }) : wpAny (model g.prog g.w) A (unpackItems (.ref t) items.size none) Q E s := by
  have hlt : t ≠ s.heap.objs.size := by obtain ⟨o, ho, _⟩ := ht; exact Nat.ne_of_lt (Heap.lt_size ho)
  unfold unpackItems
  refine wpAny_bind ?_
  · unfold notIterableAtAll
    refine wpAny_bind (wpAny_specialOf ht.typeIs slot_list_iter.lookup ?_)
    refine wpAny_pure ?_
    simp only [Bool.false_eq_true, if_false]
    refine wpAny_bind (wpAny_holding (wpAny_pyIter_list ht ?_))
    refine wpAny_bind (wpAny_holding (Zj7 hlt items.size 0 _ _ ⟨_, Heap.get?_push_size _ rfl, rfl, rfl⟩ (ht.push _) (by exact Z32) fun h₁ hit₁ hs₁ => ?_))
    have hall : List.take items.size (List.drop 0 items.toList) = items.toList := by
      rw [List.drop_zero]; exact List.take_of_length_le (by simp)
    rw [hall]
    rw [if_neg (by simp)]
    have ht₁ : h₁.IsList t items := (ht.push _).extBut hs₁.extBut hlt
    refine wpAny_bind (wpAny_holding (wpAny_pyNext_list_end hh hit₁ ht₁ (by simp) fun h₂ he₂ => ?_))
    simp only [Option.isSome_none, Bool.false_eq_true, if_false]
    refine wpAny_pure (hQ h₂ fun b o hb e => he₂ b o hb (hs₁.extBut b o hb (Heap.get?_push_of_some _ e)))
theorem Zf0 {h h' : Heap} (k : Heap.ExtBut h.objs.size h h') : ∀ a o, h.get? a = some o → h'.get? a = some o := fun a o e => k a o (Nat.ne_of_lt (Heap.lt_size e)) e
theorem Zrb {v : V} {u : Value} {xs : List V} {n : Nat} {Q : List Value → Shared → Prop} (X : Cx g sc r c A env s.heap σ ℓ) (hh : A.handled = none) (hv : VR g s.heap v u) (hp : Zce v σ = some xs) (hn : xs.length = n)
    (h : ∀ us h', (∀ a o, s.heap.get? a = some o → h'.get? a = some o) → VRs g h' xs us → Q us { s with heap := h' }) : wpAny (model g.prog g.w) A (unpackItems u n none) Q E s := by
  have key : ∀ (a : Addr) (o : Obj) (vs : Array Value) (m : Nat), s.heap.get? a = some o → (o.cls = .type "tuple" ∨ o.cls = .type "list") → o.data = .seq vs m → VRs g s.heap xs vs.toList → wpAny (model g.prog g.w) A (unpackItems (.ref a) n none) Q E s := fun a o vs m ho hc hd hvs => by
    have hz : n = vs.size := by rw [← hn, Zz hvs]; simp
    subst hz
    have fin : ∀ h', Heap.ExtBut s.heap.objs.size s.heap h' → Q vs.toList { s with heap := h' } := fun h' k => h _ h' (Zf0 k) (VRs.mono (fun b o _ _ _ e _ _ => .of (Zf0 k b o e)) hvs)
    rcases hc with hc | hc
    · exact wpAny_unpackItems_tuple hh ⟨o, ho, hc, m, hd⟩ fin
    · exact Zf4 hh ⟨o, ho, hc, m, hd⟩ fin
  cases v with
  | tup vs =>
    obtain ⟨_, a, o, us, m, rfl, _, ho, hc, hd, hvs⟩ := Wq.mp hv
    cases hp; exact key a o us m ho (.inl hc) hd hvs
  | frz vs =>
    obtain ⟨_, a, o, us, m, rfl, ho, hc, hd, hvs⟩ := Zc5.mp hv
    cases hp; exact key a o us m (X.rel.base a o ho) (.inr hc) hd hvs
  | ref a =>
    rw [Yi.mp hv]
    simp only [Zce] at hp
    split at hp
    · rename_i vs e
      cases hp
      obtain ⟨_, us, m, ho, hvs⟩ := (X.rel.own a _ e).2
      exact key a _ us m ho (.inr rfl) rfl hvs
    · cases hp
  | _ => cases hp
theorem Zha {W : Addr → Prop} (hW : Zmh W sc env) {e : Expr} {t : Tgt} {x : V} {u : Value} {P : Loc → Prop} (X : Cx g sc r true A env s.heap σ ℓ) (ht : Zja sc e t) (hv : VR g s.heap x u) (hb : Xd t x ℓ σ P) :
    wpAny (model g.prog g.w) A (assign e env u) (fun _ s' => Zt4 g W env s σ P s') E s := by
  cases ht with
  | name hm hk => exact wpAny_assign_Name (Zel X hm hk hv fun s' a q1 q2 _ h1 h2 h3 h4 => ⟨_, h1, h2, h3.weaken fun b z => z ▸ hW.2 _ _ a hm q1 q2 hk, h4, hb⟩)
  | @tup es ns k pos hn =>
    simp only [Xd] at hb
    split at hb
    · rename_i xs hp
      rw [arm_assign_Tuple]
      refine wpAny_bind (wpAny_standAt ?_)
      unfold unpack
      rw [hn.length env, hn.noStar env]
      refine wpAny_bind (wpAny_holding (Zrb X (X.room.calm rfl) hv hp hb.1 fun us h' hk hvs => ?_))
      have X' : Cx g sc r true A env h' σ ℓ := X.step (X.rel.keeps hk) (.keeps hk)
      refine wpAny_mono (Znp hW (s := { s with heap := h' }) hn X' hvs hb.1 hb.2) (fun _ s' p => ?_) fun _ _ p => p
      obtain ⟨ℓ', h1, h2, h3, h4, h5⟩ := p
      exact ⟨ℓ', h1, h2, Ext.trans (.keeps hk) h3, Zbo.trans ⟨rfl, rfl, rfl⟩ h4, h5⟩
    · exact hb.elim
end
noncomputable def Zgc (t : Tgt) (te : TE) : TS := fun ℓ σ Q E => te ℓ σ (fun v σ' => Xd t v ℓ σ' fun ℓ' => Q .next ℓ' σ') fun C σ' => E C ℓ σ'
theorem Zdc {es : List Expr} {k : Nat} {ns : List String} {p' pos : Pos} {e : Expr} {t : TE} (ht : Zba sc es ns) (h1 : Xy g sc r true e t)
    (hs : ∀ env, swapsWithSole [.Tuple es k p'] e pos.line env = pure false) (hw : ∀ env, swappedStores [.Tuple es k p'] e env = pure none) : Zmk g sc r true (.Assign [.Tuple es k p'] e pos) (Zgc (.tup ns) t) := .mk fun A env s ℓ σ Q E X h => by
  refine Assign_Tuple (wpAny_mono (h1.run A env s ℓ σ _ _ X h) (fun v s₁ p => ?_) fun _ _ p => p.toS X) (hs env) (hw env)
  refine Za3.elim p fun x σ₁ hv hR hx hs hq => ?_
  refine wpAny_mono (Zha Zhm (X.step hR hx) (.tup ht) hv hq) (fun _ s' p => ?_) fun _ _ p => p
  obtain ⟨ℓ', h1, h2, h3, h4, h5⟩ := p
  exact ⟨.next, ℓ', σ₁, rfl, h1, h2, hx.own.trans h3, hs.trans h4, h5⟩
end
section
open PySem PyProof.Rows
variable {g : Gr} {sc : Scope} {r : Nat} {c : Bool}
noncomputable def Zbz (fp : Addr → Prop) (h h' : Heap) : Prop := ∀ b o, ¬ fp b → h.get? b = some o → h'.get? b = some o
structure Zhj (g : Gr) (items : List V) (inv : AH → Prop) (I : Addr) (fp : Addr → Prop) (St : Nat → Heap → Prop) (tup : Bool) : Prop where
  stab : ∀ k h h', St k h → Y2 g h h' → (∀ a o, fp a → h.get? a = some o → h'.get? a = some o) → St k h'
  flds : ∀ k h a, St k h → fp a → ∃ o, h.get? a = some o ∧ ((g.hid a ∧ ∃ vs n, o.data = .seq vs n) ∨ ∃ vs, o.data = .fields vs)
  self : ∀ k A E s (Q : Value → Shared → Prop), St k s.heap → Q (.ref I) s → wpAny (model g.prog g.w) A (pyIter (.ref I)) Q E s
  item : ∀ k x A E s σ target (Q : Value → Shared → Prop), items[k]? = some x → St k s.heap → Rel g s.heap σ → inv σ → (∀ a, fp a → σ a = none) → (tup = true → ∃ es m p, target = .Tuple es m p) →
    (∀ v s', Zbz fp s.heap s'.heap → Zbo s s' → St (k + 1) s'.heap → VR g s'.heap x v → Q v s') →
    wpAny (model g.prog g.w) A (pyNext (.ref I)) (fun r s₁ => match r with | none => False | some v => wpAny (model g.prog g.w) A (letOwnedTupleGo target (.ref I) v) (fun _ => Q v) E s₁) E s
  last : ∀ k A E s σ (Q : Option Value → Shared → Prop), items.length ≤ k → A.handled = none → St k s.heap → Rel g s.heap σ → inv σ → (∀ a, fp a → σ a = none) →
    (∀ s', Zbz fp s.heap s'.heap → Zbo s s' → Q none s') → wpAny (model g.prog g.w) A (pyNext (.ref I)) Q E s
inductive Zsa (g : Gr) (s : Shared) (σ : AH) (Q : List V → (AH → Prop) → Bool → AH → Prop) (it : Value) (s' : Shared) : Prop
  | mk (items : List V) (inv : AH → Prop) (I : Addr) (fp : Addr → Prop) (St : Nat → Heap → Prop) (tup : Bool) (σ' : AH) (h0 : it = .ref I) (h1 : Zhj g items inv I fp St tup) (h2 : St 0 s'.heap) (h3 : Rel g s'.heap σ') (h4 : Ext No s.heap σ s'.heap σ') (h5 : Zbo s s') (h6 : ∀ a, fp a → s.heap.get? a = none ∧ σ' a = none) (h7 : Xv items.length) (h8 : Q items inv tup σ') : Zsa g s σ Q it s'
noncomputable abbrev TI := Loc → AH → (List V → (AH → Prop) → Bool → AH → Prop) → (Addr → AH → Prop) → Prop
structure Zt1 (g : Gr) (sc : Scope) (r : Nat) (c : Bool) (e : Expr) (t : TI) : Prop where
  run : ∀ A env s ℓ σ Q E, Cx g sc r c A env s.heap σ ℓ → t ℓ σ Q E →
  wpAny (model g.prog g.w) A (eval e env) (fun x s₁ => wpAny (model g.prog g.w) A (pyIter x) (Zsa g s σ Q) (Zaw g A s σ E) s₁) (Zaw g A s σ E) s
theorem Zbu {A : Around} {E : Value → Shared → Prop} {s : Shared} {target : Expr} {I : Addr} {o : Obj} {T : String} {vs : Array Value} {v : Value} {Q : Unit → Shared → Prop} (ho : s.heap.get? I = some o) (hc : o.cls = .type T) (hd : o.data = .fields vs)
    (hT : (["enumerate", "zip", "dict_itemiterator", "dict_reverseitemiterator", "odict_iterator", "itertools.zip_longest", "itertools.pairwise"].contains T) = false) (h : Q () s) :
    wpAny (model g.prog g.w) A (letOwnedTupleGo target (.ref I) v) Q E s := by
  have key : ∀ (a : Addr), wpAny (model g.prog g.w) A (load I >>= fun o => (match o.cls, o.data with
      | .type n, .fields vs =>
        if ["enumerate", "zip", "dict_itemiterator", "dict_reverseitemiterator", "odict_iterator", "itertools.zip_longest", "itertools.pairwise"].contains n && vs[0]? == some (rawInt a) then (do
          rule "for.unpacks-the-owned-tuple"
          updateField I 0 .none) else pure ()
      | _, _ => pure ())) Q E s := fun a => by
    refine wpAny_bind (wpAny_load ho ?_)
    rw [hc, hd]
    show wpAny _ A (if (_ && _) = true then _ else _) Q E s
    rw [if_neg (by rw [hT, Bool.false_and]; exact Bool.false_ne_true)]
    exact wpAny_pure h
  cases target <;> first | exact wpAny_pure h | (cases v <;> first | exact key _ | exact wpAny_pure h)
theorem Zfa {g : Gr} {h : Heap} {xs : List V} {vs : Array Value} (a : VRs g h xs vs.toList) {i : Nat} {x : V} (e : xs[i]? = some x) : ∃ v, vs[i]? = some v ∧ VR g h x v := by
  obtain ⟨v, h1, h2⟩ := Zee a e; exact ⟨v, by simpa using h1, h2⟩
theorem Ze9 {g : Gr} {h : Heap} {xs : List V} {vs : Array Value} (a : VRs g h xs vs.toList) {i : Nat} (e : xs.length ≤ i) : vs[i]? = none := by
  have := Zz a; simp at this ⊢; exact Z31 e this
theorem Zdb {I : Addr} {h h' : Heap} {o : Obj} {vs : Array Value} (ho : h.get? I = some o) (hd : o.data = .fields vs) (k : ∀ b o, b ≠ I → h.get? b = some o → h'.get? b = some o) : Y2 g h h' := fun a o' xs n _ e _ d => by
  refine .of (k a o' (fun z => ?_) e)
  subst z; rw [ho] at e; cases e; rw [hd] at d; cases d
theorem Znn (a I : Addr) (xs : List V) : Zhj g xs (fun σ => σ a = some (.list xs)) I (· = I) (fun k h => h.IsListIter I a k) false where
  stab := fun k h h' st _ kp => st.at fun o e => kp I o rfl e
  flds := fun k h b st e => by subst e; obtain ⟨o, ho, _, hd⟩ := st; exact ⟨o, ho, .inr ⟨_, hd⟩⟩
  self := fun k A E s Q st h => wpAny_pyIter_listiter st h
  item := fun k x A E s σ target Q hx st R iv off _ h => by
    obtain ⟨hf, vs, n, ho, hv⟩ := (R.own a _ iv).2
    obtain ⟨v, e, hxv⟩ := Zfa hv hx
    obtain ⟨oI, hoI, hcI, hdI⟩ := id st
    refine wpAny_pyNext_list_item st ⟨_, ho, rfl, n, rfl⟩ e fun h' st' sb => ?_
    obtain ⟨o', ho', hc', hd'⟩ := id st'
    refine Zbu ho' hc' hd' (by decide) (h v _ (fun b o nb e => sb.extBut b o nb e) ⟨rfl, rfl, rfl⟩ st' (VR.mono (Zdb hoI hdI sb.extBut) hxv))
  last := fun k A E s σ Q hk hh st R iv off h => by
    obtain ⟨hf, vs, n, ho, hv⟩ := (R.own a _ iv).2
    exact wpAny_pyNext_list_end hh st ⟨_, ho, rfl, n, rfl⟩ (Ze9 hv hk) fun h' eb => h { s with heap := h' } (fun b o nb e => eb b o nb e) ⟨rfl, rfl, rfl⟩
theorem Zk0 (t I : Addr) (xs : List V) : Zhj g xs (fun _ => True) I (· = I) (fun k h => h.IsTupleIter I t k ∧ VR g h (.tup xs) (.ref t)) false where
  stab := fun k h h' st tk kp => ⟨st.1.at fun o e => kp I o rfl e, VR.mono tk st.2⟩
  flds := fun k h b st e => by subst e; obtain ⟨⟨o, ho, _, hd⟩, _⟩ := st; exact ⟨o, ho, .inr ⟨_, hd⟩⟩
  self := fun k A E s Q st h => wpAny_pyIter_tupleiter st.1 h
  item := fun k x A E s σ target Q hx st R iv off _ h => by
    obtain ⟨hf, t', o, vs, n, et, _, ho, hc, hd, hv⟩ := Wq.mp st.2
    cases et
    obtain ⟨v, e, hxv⟩ := Zfa hv hx
    obtain ⟨oI, hoI, hcI, hdI⟩ := id st.1
    refine wpAny_pyNext_tuple_item st.1 ⟨_, ho, hc, n, hd⟩ e fun h' st' sb => ?_
    obtain ⟨o', ho', hc', hd'⟩ := id st'
    have tk : Y2 g s.heap h' := Zdb hoI hdI sb.extBut
    exact Zbu ho' hc' hd' (by decide) (h v _ (fun b o nb e => sb.extBut b o nb e) ⟨rfl, rfl, rfl⟩ ⟨st', VR.mono tk st.2⟩ (VR.mono tk hxv))
  last := fun k A E s σ Q hk hh st R iv off h => by
    obtain ⟨hf, t', o, vs, n, et, _, ho, hc, hd, hv⟩ := Wq.mp st.2
    cases et
    exact wpAny_pyNext_tuple_end hh st.1 ⟨_, ho, hc, n, hd⟩ (Ze9 hv hk) fun h' eb => h { s with heap := h' } (fun b o nb e => eb b o nb e) ⟨rfl, rfl, rfl⟩
noncomputable def X9 (lo : Int) (n : Nat) : List V := (List.range n).map fun (i : Nat) => .int (lo + (i : Int))
theorem Zk1 (I : Addr) (lo : Int) (n : Nat) : Zhj g (X9 lo n) (fun _ => True) I (· = I) (fun k h => IsRangeIter h I (lo + (k : Int)) ((n : Int) - k) 1) false where
  stab := fun k h h' st _ kp => kp I _ rfl st
  flds := fun k h b st e => by subst e; exact ⟨_, st, .inr ⟨_, rfl⟩⟩
  self := fun k A E s Q st h => wpAny_pyIter_rangeiter st h
  item := fun k x A E s σ target Q hx st R iv off _ h => by
    have hk : k < n := by
      rcases Nat.lt_or_ge k n with q | q
      · exact q
      · rw [List.getElem?_eq_none (by simp [X9]; exact q)] at hx; cases hx
    have hx' : x = .int (lo + (k : Int)) := by simp [X9, hk] at hx; exact hx.symm
    subst hx'
    refine wpAny_pyNext_range_item st (by exact Z30 hk) fun h' st' sb => ?_
    have st'' : IsRangeIter h' I (lo + ((k + 1 : Nat) : Int)) ((n : Int) - ((k + 1 : Nat) : Int)) 1 := by
      have e1 : lo + ((k + 1 : Nat) : Int) = lo + (k : Int) + 1 := by push_cast; exact Z3z
      have e2 : (n : Int) - ((k + 1 : Nat) : Int) = (n : Int) - k - 1 := by push_cast; exact Z3y
      rw [e1, e2]; exact st'
    exact Zbu st' rfl rfl (by decide) (h _ _ (fun b o nb e => sb.extBut b o nb e) ⟨rfl, rfl, rfl⟩ st'' (Z9.mpr ⟨_, rfl⟩))
  last := fun k A E s σ Q hk hh st R iv off h => by
    have : n ≤ k := by simpa [X9] using hk
    exact wpAny_pyNext_range_end hh st (by exact Z3x this) fun h' eb => h { s with heap := h' } (fun b o nb e => eb b o nb e) ⟨rfl, rfl, rfl⟩
end
section
open PySem PyProof.Rows
variable {g : Gr} {sc : Scope} {r : Nat} {c : Bool}
noncomputable def Zbh (t : Tgt) (inv : AH → Prop) (tb : TS) : List V → TS
  | [], ℓ, σ, Q, _ => inv σ ∧ Q .next ℓ σ
  | x :: xs, ℓ, σ, Q, E => inv σ ∧ Xd t x ℓ σ fun ℓ₁ => tb ℓ₁ σ (fun f ℓ₂ σ₂ => match f with
    | .next => Zbh t inv tb xs ℓ₂ σ₂ Q E
    | .cont => Zbh t inv tb xs ℓ₂ σ₂ Q E
    | .brk => Q .next ℓ₂ σ₂
    | .ret v => Q (.ret v) ℓ₂ σ₂) E
noncomputable def Tgt.isTup : Tgt → Bool
  | .name _ => false
  | .tup _ => true
noncomputable def Zgb (t : Tgt) (ti : TI) (tb : TS) : TS := fun ℓ σ Q E => ti ℓ σ (fun items inv tup σ₁ => (tup = true → t.isTup = true) ∧ Zbh t inv tb items ℓ σ₁ Q E) fun C σ' => E C ℓ σ'
section
variable {A : Around} {env : Env} {s s₁ : Shared} {σ σ₁ : AH} {ℓ ℓ₁ : Loc} {h h' : Heap}
structure Zbx (g : Gr) (fp : Addr → Prop) (h : Heap) (σ : AH) : Prop where
  off : ∀ a, fp a → σ a = none
  flds : ∀ a, fp a → ∃ o, h.get? a = some o ∧ ((g.hid a ∧ ∃ vs n, o.data = .seq vs n) ∨ ∃ vs, o.data = .fields vs)
  base : ∀ a, fp a → g.b0.get? a = none
theorem Zbx.tups {fp : Addr → Prop} (w : Zbx g fp h σ) (k : Zbz fp h h') : Y2 g h h' := fun a o vs n nh e _ d => by
  refine .of (k a o (fun q => ?_) e)
  obtain ⟨o', e', z⟩ := w.flds a q
  rw [e] at e'; cases e'
  rcases z with z | ⟨us, z⟩
  · exact nh z.1
  · rw [d] at z; cases z
theorem Zbx.rel {fp : Addr → Prop} (w : Zbx g fp h σ) (R : Rel g h σ) (k : Zbz fp h h') (hh : ∀ a, g.hid a → fp a → ∃ o, h'.get? a = some o) : Rel g h' σ := by
  refine ⟨fun a ha => ?_, fun a o e => k a o (fun q => ?_) (R.base a o e), fun a ao e => ⟨(R.own a ao e).1, Zc3 (w.tups k) (fun o e' => k a o (fun q => ?_) e') (R.own a ao e).2⟩⟩
  · by_cases q : fp a
    · exact hh a ha q
    · obtain ⟨o, e⟩ := R.hid a ha; exact ⟨o, k a o q e⟩
  · rw [w.base a q] at e; cases e
  · rw [w.off a q] at e; cases e
theorem Zbx.loc {fp : Addr → Prop} (w : Zbx g fp h σ) (L : LR g h σ env ℓ) (k : Zbz fp h h') (ho : ∀ a, fp a → ¬ Own env a) : LR g h' σ env ℓ := by
  have kv : ∀ {v : V} {u : Value}, VR g h v u → VR g h' v u := VR.mono (w.tups k)
  obtain ⟨m, hn, hm⟩ := L.ns
  refine ⟨⟨m, Zgv hn fun o e => .of (k _ o (fun q => ho _ q (.inl rfl)) e), fun y v a b => let ⟨u, e, f⟩ := hm y v a b; ⟨u, e, kv f⟩⟩, fun y c e => ?_, fun y v a kk => ?_, L.off, L.offc, L.apart, L.has⟩
  · obtain ⟨o, u, e1, e2⟩ := L.cell y c e
    exact ⟨o, u, k c o (fun q => ho _ q (.inr ⟨y, e⟩)) e1, e2⟩
  · obtain ⟨c, u, e, hc, hv⟩ := L.cells y v a kk
    exact ⟨c, u, e, Ze7 hc fun o z => .of (k _ o (fun q => ho _ q (.inr ⟨_, e⟩)) z), kv hv⟩
theorem Zeg {a : Addr} (L : LR g h σ env ℓ) (w : Own env a) : ∃ o, h.get? a = some o := let ⟨o, e, _⟩ := L.noFields w; ⟨o, e⟩
theorem Zbx.stand {fp : Addr → Prop} (w : Zbx g fp h σ) (x : Ext (Own env) h σ h' σ₁) (ho : ∀ a, fp a → ¬ Own env a) : ∀ a o, fp a → h.get? a = some o → h'.get? a = some o := fun a o q e => by
  refine (x.keep a o e (w.off a q) (ho a q)).exact fun es n d => ?_
  obtain ⟨o', e', z⟩ := w.flds a q
  rw [e] at e'; cases e'
  rcases z with ⟨_, us, m, z⟩ | ⟨us, z⟩
  · rw [d] at z; cases z
  · rw [d] at z; cases z
theorem Zbx.relLess {H : Addr → Prop} {fp : Addr → Prop} (w : Zbx (g.wh H) fp h σ) (R : Rel (g.wh H) h σ) (k : Zbz fp h h') (hH : ∀ a, g.hid a → H a) (hn : ∀ a, fp a → ¬ g.hid a) : Rel g h' σ := by
  refine ⟨fun a ha => ?_, fun a o e => k a o (fun q => ?_) (R.base a o e), fun a ao e => ⟨(R.own a ao e).1, OR.less hH (Zc3 (w.tups k) (fun o e' => k a o (fun q => ?_) e') (R.own a ao e).2)⟩⟩
  · obtain ⟨o, e⟩ := R.hid a (hH a ha); exact ⟨o, k a o (fun q => hn a q ha) e⟩
  · have z : g.b0.get? a = none := w.base a q
    rw [z] at e; cases e
  · rw [w.off a q] at e; cases e
end
theorem Zam.less {A : Around} {env : Env} {s : Shared} {σ : AH} {H : Addr → Prop} (k : ∀ a, g.hid a → H a) {E : Addr → Loc → AH → Prop} {e : Value} {s' : Shared} (p : Zam (g.wh H) A env s σ E e s') : Zam g A env s σ E e s' :=
  let ⟨C, ℓ', σ', h1, h2, h3, h4, h5, h6⟩ := p; ⟨C, ℓ', σ', h1, h2.less k, h3.less k, h4, h5, h6⟩
theorem Zma {A : Around} {env : Env} {s s₂ : Shared} {ℓ : Loc} {σ σ₁ : AH} {H : Addr → Prop} {target : Expr} {body : List Stmt} {t : Tgt} {tb : TS} {items : List V} {inv : AH → Prop} {I : Addr} {fp : Addr → Prop} {St : Nat → Heap → Prop} {tup : Bool} {Q : Fl → Loc → AH → Prop} {E : Addr → Loc → AH → Prop}
    (hH : ∀ a, g.hid a → H a) (X : Cx g sc r true A env s.heap σ ℓ) (IT : Zhj (g.wh H) items inv I fp St tup) (hst : St 0 s₂.heap) (hL0 : LR (g.wh H) s₂.heap σ₁ env ℓ) (hR : Rel (g.wh H) s₂.heap σ₁) (hx : Ext No s.heap σ s₂.heap σ₁) (hsm : Zbo s s₂)
    (hfp : ∀ a, fp a → s.heap.get? a = none ∧ σ₁ a = none) (htt : tup = true → t.isTup = true) (hl : Zbh t inv tb items ℓ σ₁ Q E) (ht : Zja sc target t) (hb : Zhc (g.wh H) sc r true body tb) :
    codeAny (model g.prog g.w) A (.forLoop target (.ref I) body [] env) (fun r s' => match r with | .ok f => Zd2 g env s σ Q f s' | .error e => cameBackBy (model g.prog g.w) A env (Zam g A env s σ E) e s') s₂ := by
  have hb0 : ∀ a, fp a → g.b0.get? a = none := fun a q => by
    cases e : g.b0.get? a with
    | none => rfl
    | some o => exact absurd (hfp a q).1 (by rw [X.rel.base a o e]; simp)
  have hown : ∀ a, fp a → ¬ Own env a := fun a q w => by
    obtain ⟨o, e⟩ := Zeg X.loc w
    rw [(hfp a q).1] at e; cases e
  have hhid : ∀ a, fp a → ¬ g.hid a := fun a q w => by
    obtain ⟨o, e⟩ := X.rel.hid a w
    rw [(hfp a q).1] at e; cases e
  have target_tup : tup = true → ∃ es m p, target = .Tuple es m p := fun q => by
    have := htt q
    cases ht with
    | name _ _ => cases this
    | tup _ => exact ⟨_, _, _, rfl⟩
  have X0 : Cx (g.wh H) sc r true A env s₂.heap σ₁ ℓ := ⟨X.gok.wh, X.ok, hL0, X.fr.step hx (fun _ _ n => n.elim), X.room, hR⟩
  refine codeAny_forLoop_any (fun n s' => ∃ k ℓ' σ', k ≤ items.length ∧ n = items.length - k ∧ St k s'.heap ∧ LR (g.wh H) s'.heap σ' env ℓ' ∧ Rel (g.wh H) s'.heap σ' ∧ Ext (Own env) s.heap σ s'.heap σ' ∧ Zbo s s' ∧ (∀ a, fp a → σ' a = none) ∧
    Zbh t inv tb (items.drop k) ℓ' σ' Q E) ?_ items.length ⟨0, ℓ, σ₁, Nat.zero_le _, rfl, hst, hL0, hR, hx.own, hsm, fun a q => (hfp a q).2, by simpa using hl⟩
  rintro n s' ⟨k, ℓ', σ', hk, rfl, hst, hL, hR, hx, hsm, hoff, hl⟩
  have W : Zbx (g.wh H) fp s'.heap σ' := ⟨hoff, fun a q => IT.flds k _ a hst q, hb0⟩
  have ext : ∀ {s'' : Shared}, Zbz fp s'.heap s''.heap → Ext (Own env) s.heap σ s''.heap σ' := fun {s''} kb => by
    refine ⟨fun a o e n nw => ?_, fun a o e => ?_, hx.dom⟩
    · refine (hx.keep a o e n nw).then fun o' e' => .of (kb a o' (fun q => ?_) e')
      rw [(hfp a q).1] at e; cases e
    · obtain ⟨o', e'⟩ := hx.pres a o e
      refine ⟨o', kb a o' (fun q => ?_) e'⟩
      rw [(hfp a q).1] at e; cases e
  rcases Nat.lt_or_ge k items.length with hlt | hge
  · have hd : items.drop k = items[k] :: items.drop (k + 1) := List.drop_eq_getElem_cons hlt
    rw [hd] at hl
    obtain ⟨hinv, hbind⟩ := hl
    refine wpAny_mono (IT.item k items[k] A (fun e s' => False) s' σ' target (fun v s₁ => ∃ (kb : Zbz fp s'.heap s₁.heap), Zbo s' s₁ ∧ St (k + 1) s₁.heap ∧ VR (g.wh H) s₁.heap items[k] v) (by simp [hlt]) hst hR hinv hoff target_tup
      fun v s₁ a b d e => ⟨a, b, d, e⟩) (fun rr s₁ p => ?_) fun _ _ p => p.elim
    cases rr with
    | none => exact p.elim
    | some v =>
      refine wpAny_mono p (fun _ s₂ p => ?_) fun _ _ p => p.elim
      obtain ⟨kb, hs2, hst2, hv⟩ := p
      have hL2 := W.loc hL kb hown
      have hR2 := W.rel hR kb fun a w q => let ⟨o, e, _⟩ := IT.flds _ _ a hst2 q; ⟨o, e⟩
      have hx2 := ext kb
      have X2 : Cx (g.wh H) sc r true A env s₂.heap σ' ℓ' := ⟨X.gok.wh, X.ok, hL2, X.fr.step hx2 (fun a o w e hd => hL2.noFields w), X.room, hR2⟩
      have W2 : Zbx (g.wh H) fp s₂.heap σ' := ⟨hoff, fun a q => IT.flds _ _ a hst2 q, hb0⟩
      refine wpAny_mono (Zha (g := g.wh H) Zhm (E := fun _ _ => False) X2 ht hv hbind) (fun _ s₃ p => ?_) fun _ _ p => p.elim
      obtain ⟨ℓ₃, hL3, hR3, hx3, hs3, hbody⟩ := p
      have hst3 : St (k + 1) s₃.heap := IT.stab _ _ _ hst2 (hx3.tuples hR2 hL2.noSeq) (W2.stand hx3 hown)
      have X3 : Cx (g.wh H) sc r true A env s₃.heap σ' ℓ₃ := X2.stepS hL3 hR3 hx3
      have W3 : Zbx (g.wh H) fp s₃.heap σ' := ⟨hoff, fun a q => IT.flds _ _ a hst3 q, hb0⟩
      have hx03 : Ext (Own env) s.heap σ s₃.heap σ' := hx2.trans hx3
      have hs03 : Zbo s s₃ := (hsm.trans hs2).trans hs3
      refine wpAny_mono (hb.run A env s₃ ℓ₃ σ' _ E X3 hbody) (fun f s₄ p => ?_) fun e s₄ p => ((p.less hH).back hx03 hs03).noted fun e s' p => p.came fun e s' p => p
      obtain ⟨f', ℓ₄, σ₄, hf', hL4, hR4, hx4, hs4, hq⟩ := p
      have again : Zbh t inv tb (items.drop (k + 1)) ℓ₄ σ₄ Q E → ∃ m, m < items.length - k ∧ ∃ k' ℓ' σ', k' ≤ items.length ∧ m = items.length - k' ∧ St k' s₄.heap ∧ LR (g.wh H) s₄.heap σ' env ℓ' ∧ Rel (g.wh H) s₄.heap σ' ∧ Ext (Own env) s.heap σ s₄.heap σ' ∧ Zbo s s₄ ∧ (∀ a, fp a → σ' a = none) ∧
          Zbh t inv tb (items.drop k') ℓ' σ' Q E := fun hl => by
        refine ⟨items.length - (k + 1), by exact Z2n hlt, k + 1, ℓ₄, σ₄, hlt, rfl, ?_, hL4, hR4, hx03.trans hx4, hs03.trans hs4, fun a q => ?_, hl⟩
        · exact IT.stab _ _ _ hst3 (hx4.tuples hR3 hL3.noSeq) (W3.stand hx4 hown)
        · obtain ⟨o, e, _⟩ := W3.flds a q
          exact hx4.off e (hoff a q)
      cases f' with
      | next => cases hf'; exact again hq
      | cont => cases hf'; exact again hq
      | brk => cases hf'; exact ⟨.next, ℓ₄, σ₄, rfl, hL4.less hH, hR4.less hH, hx03.trans hx4, hs03.trans hs4, hq⟩
      | ret v => obtain ⟨u, rfl, hu⟩ := hf'; exact ⟨.ret v, ℓ₄, σ₄, ⟨u, rfl, hu.less hH⟩, hL4.less hH, hR4.less hH, hx03.trans hx4, hs03.trans hs4, hq⟩
  · have hd : items.drop k = [] := List.drop_eq_nil_of_le hge
    rw [hd] at hl
    refine IT.last k A _ s' σ' _ hge (X.room.calm rfl) hst hR hl.1 hoff fun s'' kb hs'' => wpAny_execs_nil ?_
    exact ⟨.next, ℓ', σ', rfl, (W.loc hL kb hown).less hH, W.relLess hR kb hH hhid, ext kb, hsm.trans hs'', hl.2⟩
theorem Yz {target iter : Expr} {body : List Stmt} {pos : Pos} {t : Tgt} {ti : TI} {tb : TS} (hi : Zt1 g sc r true iter ti) (ht : Zja sc target t) (hb : Zhc g sc r true body tb)
    (hf : ∀ env x, foldedSetIterable iter env x = pure x) : Zmk g sc r true (.For target iter body [] pos) (Zgb t ti tb) := .mk fun A env s ℓ σ Q E X h => by
  refine wpAny_For (wpAny_mono (hi.run A env s ℓ σ _ _ X h) (fun x s₁ p => wpAny_mono p (fun it s₂ p => ?_) fun _ _ p => p.toS X) fun _ _ p => p.toS X) (hf env)
  obtain ⟨items, inv, I, fp, St, tup, σ₁, rfl, IT, hst, hR, hx, hsm, hfp, hft, htt, hl⟩ := p
  exact Zma (H := g.hid) (fun _ h => h) X IT hst (X.loc.step X.rel hx) hR hx hsm hfp htt hl ht hb
end
section
open PySem PyProof.Rows
variable {g : Gr} {sc csc : Scope} {r : Nat} {c : Bool}
noncomputable def Loc.bare (ℓ : Loc) : Loc := fun n => cond (n == ".0") none (ℓ n)
theorem Loc.bare_at {ℓ : Loc} {n : String} : ℓ.bare n = if n = ".0" then none else ℓ n := by
  unfold Loc.bare
  by_cases h : n = ".0"
  · rw [if_pos h, beq_iff_eq.mpr h]; rfl
  · rw [if_neg h, beq_eq_false_iff_ne.mpr h]; rfl
noncomputable def Zcf : List (Str × NameKind) → Bool
  | [] => true
  | (x, _) :: rest => (rest.all fun y => y.1 != x) && Zcf rest
noncomputable def Zaz (sc csc : Scope) : Bool :=
  csc.kind == .function && Zcf csc.names && (csc.names.all fun x => x.2 != .cell && x.1 != ("__debug__" : Str) && x.1 != ("__classdict__" : Str)) &&
  (csc.names.all fun x => x.2 != .free || sc.names.any fun y => y.1 == x.1 && (y.2 == .cell || y.2 == .free))
theorem Wx : ∀ {names : List (Str × NameKind)} {x : Str} {k : NameKind}, Zcf names = true → (x, k) ∈ names → names.lookup x = some k
  | (y, j) :: rest, x, k, h, hm => by
    simp only [Zcf, Bool.and_eq_true] at h
    cases hm with
    | head => simp [List.lookup_cons]
    | tail _ hm =>
      have hne : (x == y) = false := by
        have := List.all_eq_true.mp h.1 _ hm
        simpa using this
      rw [List.lookup_cons, hne]
      exact Wx h.2 hm
theorem mem_of_lookup : ∀ {names : List (Str × NameKind)} {x : Str} {k : NameKind}, names.lookup x = some k → (x, k) ∈ names
  | [], x, k, h => by simp at h
  | (y, j) :: rest, x, k, h => by
    rw [List.lookup_cons] at h
    split at h
    · rename_i e; cases h; rw [eq_of_beq e]; exact .head _
    · exact .tail _ (mem_of_lookup h)
theorem Ze6 {scope : Scope} {env : Env} (h : ∀ x ∈ scope.names, x.2 = .free → ∃ a, env.cells.lookup x.1 = some a) :
    ∃ cl, closureFor scope env = pure cl ∧ (∀ n a, cl.lookup n = some a → env.cells.lookup n = some a) ∧ ∀ n, (n, NameKind.free) ∈ scope.names → cl.lookup n = env.cells.lookup n := by
  have key : ∀ (names : List (Str × NameKind)) (cs : List (Str × Addr)), (∀ x ∈ names, x.2 = .free → ∃ a, env.cells.lookup x.1 = some a) → (∀ n a, cs.lookup n = some a → env.cells.lookup n = some a) →
      ∃ cl, (forIn names cs fun x cs => if (x.2 == NameKind.free) = true then (do let a ← cellOf env x.1; pure (ForInStep.yield ((x.1, a) :: cs))) else pure (ForInStep.yield cs) : Sem (List (Str × Addr))) = pure cl ∧
        (∀ n a, cl.lookup n = some a → env.cells.lookup n = some a) ∧ (∀ n, (n, NameKind.free) ∈ names ∨ cs.lookup n ≠ none → cl.lookup n = env.cells.lookup n) := by
    intro names
    induction names with
    | nil =>
      intro cs _ hcs
      refine ⟨cs, rfl, hcs, fun n q => ?_⟩
      rcases q with q | q
      · cases q
      · cases e : cs.lookup n with
        | none => exact absurd e q
        | some a => rw [hcs n a e]
    | cons x names ih =>
      intro cs hx hcs
      obtain ⟨n, k⟩ := x
      cases hk : k == NameKind.free with
      | true =>
        obtain ⟨a, ha⟩ := hx (n, k) (.head _) (eq_of_beq hk)
        have hcs' : ∀ m b, ((n, a) :: cs).lookup m = some b → env.cells.lookup m = some b := fun m b q => by
          rw [List.lookup_cons] at q
          split at q
          · rename_i e; cases q; rw [eq_of_beq e]; exact ha
          · exact hcs m b q
        obtain ⟨cl, h1, h2, h3⟩ := ih ((n, a) :: cs) (fun y hy => hx y (.tail _ hy)) hcs'
        refine ⟨cl, ?_, h2, fun m q => h3 m ?_⟩
        · rw [List.forIn_cons]
          simp only [hk, if_true]
          unfold cellOf
          rw [ha]
          exact h1
        · rcases q with q | q
          · cases q with
            | head => right; simp [List.lookup_cons]
            | tail _ q => exact .inl q
          · right
            rw [List.lookup_cons]
            split
            · simp
            · exact q
      | false =>
        obtain ⟨cl, h1, h2, h3⟩ := ih cs (fun y hy => hx y (.tail _ hy)) hcs
        refine ⟨cl, ?_, h2, fun m q => h3 m ?_⟩
        · rw [List.forIn_cons]
          simp only [hk, Bool.false_eq_true, if_false]
          exact h1
        · rcases q with q | q
          · cases q with
            | head => cases hk
            | tail _ q => exact .inl q
          · exact .inr q
  obtain ⟨cl, h1, h2, h3⟩ := key scope.names [] h (fun n a q => by simp at q)
  refine ⟨cl, ?_, h2, fun n q => h3 n (.inl q)⟩
  unfold closureFor
  have : (pure cl : Sem (List (Str × Addr))) = (pure cl >>= fun cs => pure cs) := rfl
  rw [this, ← h1]
theorem LR.forget {h : Heap} {σ : AH} {env : Env} {ℓ ℓ' : Loc} (L : LR g h σ env ℓ) (k : ∀ n v, ℓ' n = some v → ℓ n = some v) : LR g h σ env ℓ' := by
  obtain ⟨m, h1, h2⟩ := L.ns
  exact ⟨⟨m, h1, fun n v e kd => h2 n v (k n v e) kd⟩, L.cell, fun n v e kd => L.cells n v (k n v e) kd, L.off, L.offc, L.apart, L.has⟩
theorem Rel.claim {h : Heap} {σ : AH} {a : Addr} {ao : AO} (R : Rel g h σ) (hb : g.b0.get? a = none) (x : OR g h a ao) : Rel g h (σ.set a ao) := by
  refine ⟨R.hid, R.base, fun b bo e => ?_⟩
  unfold AH.set at e
  split at e
  · rename_i q; subst q; cases e; exact ⟨hb, x⟩
  · exact R.own b bo e
section
variable {A : Around} {env : Env} {s : Shared} {σ : AH} {ℓ : Loc} {h : Heap} {cl : List (Str × Addr)} {C : Addr}
theorem Zg1 (cl : List (Str × Addr)) (C : Addr) (env : Env) (x : Str) : (compEnvC csc cl C env).kindOf x = (csc.names.lookup x).map fun k => if (k == .free && env.scope.kind == .function && env.kindOf x == some .cell) then .cell else k := by
  show ((relabel csc env).names).lookup x = _
  unfold relabel
  simp only
  generalize csc.names = names
  induction names with
  | nil => rfl
  | cons y rest ih =>
    obtain ⟨n, k⟩ := y
    rw [List.map_cons, List.lookup_cons]
    by_cases hx : x = n
    · subst hx
      by_cases hc : (k == NameKind.free && env.scope.kind == .function && env.kindOf x == some .cell) = true
      · simp only [hc, if_true, List.lookup_cons, beq_self_eq_true, Option.map_some]
      · simp only [hc, if_false, List.lookup_cons, beq_self_eq_true, Option.map_some]
        simp
    · have hb : (x == n) = false := by simpa using hx
      by_cases hc : (k == NameKind.free && env.scope.kind == .function && env.kindOf n == some .cell) = true
      · simp only [hc, if_true, List.lookup_cons, hb]; exact ih
      · simp only [hc, if_false, List.lookup_cons, hb]; simp only [Bool.false_eq_true, if_false, List.lookup_cons, hb]; exact ih
theorem Zr7 (X : Cx g sc r c A env h σ ℓ) (ok : Zaz sc csc = true) : Zsb csc (compEnvC csc cl C env) := by
  simp only [Zaz, Bool.and_eq_true] at ok
  obtain ⟨⟨⟨ok1, ok2⟩, ok3⟩, ok4⟩ := ok
  refine ⟨fun x k hm => ?_, fun x k hm => ?_, by show (relabel csc env).kind = _; exact eq_of_beq ok1, X.ok.globals, X.ok.builtins⟩
  · rw [Zg1, Wx ok2 hm]
    simp only [Option.map_some]
    split
    · rename_i hc
      simp only [Bool.and_eq_true] at hc
      exact .inr ⟨eq_of_beq hc.1.1, rfl⟩
    · exact .inl rfl
  · have := List.all_eq_true.mp ok3 _ hm
    simp only [Bool.and_eq_true] at this
    exact ⟨by simpa using this.1.2, by simpa using this.2⟩
theorem Zmd (X : Cx g sc r c A env h σ ℓ) (ok : Zaz sc csc = true) (hcl : ∀ n a, cl.lookup n = some a → env.cells.lookup n = some a) (hcl' : ∀ n, (n, NameKind.free) ∈ csc.names → cl.lookup n = env.cells.lookup n)
    {m : Str → Option Value} (hn : h.Ns C m) (hC : σ C = none) (hCb : g.b0.get? C = none) (hCn : ∀ x a, env.cells.lookup x = some a → a ≠ C)
    {ℓ' : Loc} (hl : ∀ n v, ℓ' n = some v → csc.names.lookup (Str.ofString n) = some .local → ∃ u, m (Str.ofString n) = some u ∧ VR g h v u)
    (hf : ∀ n v, ℓ' n = some v → csc.names.lookup (Str.ofString n) = some .free → ℓ n = some v) : LR g h σ (compEnvC csc cl C env) ℓ' := by
  simp only [Zaz, Bool.and_eq_true] at ok
  obtain ⟨⟨⟨ok1, ok2⟩, ok3⟩, ok4⟩ := ok
  have kd : ∀ x k, (compEnvC csc cl C env).kindOf x = some k → (k = .local → csc.names.lookup x = some .local) ∧ (k = .cell ∨ k = .free → csc.names.lookup x = some .free) := fun x k e => by
    rw [Zg1] at e
    cases q : csc.names.lookup x with
    | none => rw [q] at e; cases e
    | some j =>
      rw [q] at e
      simp only [Option.map_some, Option.some.injEq] at e
      have hj : j ≠ .cell := fun z => by
        subst z
        have := List.all_eq_true.mp ok3 _ (mem_of_lookup q)
        simp at this
      split at e
      · rename_i hc
        simp only [Bool.and_eq_true] at hc
        have : j = .free := eq_of_beq hc.1.1
        subst this; subst e
        exact ⟨fun z => (nomatch z), fun _ => rfl⟩
      · subst e
        exact ⟨fun z => by rw [z], fun z => by rcases z with z | z <;> first | exact absurd z hj | rw [z]⟩
  have out : ∀ x, csc.names.lookup x = some .free → env.kindOf x = some .cell ∨ env.kindOf x = some .free := fun x e => by
    have := List.all_eq_true.mp ok4 _ (mem_of_lookup e)
    simp only [bne_self_eq_false, Bool.false_or, List.any_eq_true, Bool.and_eq_true] at this
    obtain ⟨⟨y, j⟩, hy, h1, h2⟩ := this
    have hyx : y = x := eq_of_beq h1
    subst hyx
    rcases X.ok.kinds _ _ hy with q | ⟨_, q⟩
    · rw [q]
      cases j <;> simp at h2 <;> simp
    · exact .inl q
  refine ⟨⟨m, hn, fun n v e k => hl n v e ((kd _ _ k).1 rfl)⟩, fun x a e => X.loc.cell x a (hcl x a e), fun n v e k => ?_, ⟨hC, hCb⟩, fun x a e => ?_, fun x y a e1 e2 => X.loc.apart x y a (hcl x a e1) (hcl y a e2), fun x k => ?_⟩
  · have hfree : csc.names.lookup (Str.ofString n) = some .free := by
      rcases k with k | k
      · exact (kd _ _ k).2 (.inl rfl)
      · exact (kd _ _ k).2 (.inr rfl)
    obtain ⟨a, u, h1, h2, h3⟩ := X.loc.cells n v (hf n v e hfree) (out _ hfree)
    exact ⟨a, u, (hcl' _ (mem_of_lookup hfree)).trans h1, h2, h3⟩
  · obtain ⟨h1, h2, h3⟩ := X.loc.offc x a (hcl x a e)
    exact ⟨h1, hCn x a (hcl x a e), h3⟩
  · have hfree : csc.names.lookup x = some .free := by
      rcases k with k | k
      · exact (kd _ _ k).2 (.inl rfl)
      · exact (kd _ _ k).2 (.inr rfl)
    obtain ⟨a, ha⟩ := X.loc.has x (out x hfree)
    exact ⟨a, (hcl' _ (mem_of_lookup hfree)).trans ha⟩
theorem Zh7 (X : Cx g sc r c A env h σ ℓ) (ok : Zaz sc csc = true) : ∀ x ∈ csc.names, x.2 = .free → ∃ a, env.cells.lookup x.1 = some a := fun x hx e => by
  simp only [Zaz, Bool.and_eq_true] at ok
  have := List.all_eq_true.mp ok.2 _ hx
  rw [e] at this
  simp only [bne_self_eq_false, Bool.false_or, List.any_eq_true, Bool.and_eq_true] at this
  obtain ⟨⟨y, j⟩, hy, h1, h2⟩ := this
  have hyx : y = x.1 := eq_of_beq h1
  subst hyx
  refine X.loc.has _ ?_
  rcases X.ok.kinds _ _ hy with q | ⟨_, q⟩
  · rw [q]
    cases j <;> simp at h2 <;> simp
  · exact .inl q
end
end
section
open PySem PyProof.Rows
variable {g : Gr} {sc csc : Scope} {r : Nat} {c : Bool}
noncomputable def Ze5 (t : Tgt) (inv : AH → Prop) (tifs : TB) (telt : TE) (ℓ : Loc) : List V → List V → AH → (List V → AH → Prop) → (Addr → AH → Prop) → Prop
  | [], acc, σ, Q, _ => inv σ ∧ Q acc σ
  | x :: xs, acc, σ, Q, E => inv σ ∧ Xd t x ℓ.bare σ fun ℓ₁ => tifs ℓ₁ σ (fun b σ₁ => match b with
      | true => telt ℓ₁ σ₁ (fun v σ₂ => Ze5 t inv tifs telt ℓ xs (acc ++ [v]) σ₂ Q E) E
      | false => Ze5 t inv tifs telt ℓ xs acc σ₁ Q E) E
noncomputable def Zav (t : Tgt) (ti : TI) (tifs : TB) (telt : TE) : Loc → AH → (List V → AH → Prop) → (Addr → AH → Prop) → Prop := fun ℓ σ Q E =>
  ti ℓ σ (fun items inv tup σ₁ => (tup = true → t.isTup = true) ∧ Ze5 t inv tifs telt ℓ items [] σ₁ Q E) E
structure Zvw (g : Gr) (sc : Scope) (r : Nat) (c : Bool) (ifs : List Expr) (t : TB) : Prop where
  run : ∀ A env s ℓ σ Q E, Cx g sc r c A env s.heap σ ℓ → t ℓ σ Q E →
  wpAny (model g.prog g.w) A (forIn ifs true fun c r => if r = true then do let ok ← isTrue c env (eval c env); pure (ForInStep.yield ok) else pure (ForInStep.yield r)) (Zt2 g s σ Q) (Zaw g A s σ E) s
theorem Wa : Zvw g sc r c [] (Wd true) := .mk fun A env s ℓ σ Q E X h => wpAny_tests_nil (.here rfl X.rel h)
theorem W8 {e : Expr} {t : TB} (h1 : Zn5 g sc r c e t) : Zvw g sc r c [e] t := .mk fun A env s ℓ σ Q E X h => wpAny_tests_one (h1.run A env s ℓ σ Q E X h)
theorem Zkc {prog : Program} {w : World} {A : Around} {R : Result → Shared → Prop} {s : Shared} {elt target iter : Expr} {ifs : List Expr} {scope : Scope} {pos : Pos} {it acc : Value} {env : Env} (I : Nat → Shared → Prop)
    (turn : ∀ n s, I n s → wpAny (model prog w) A (pyNext it) (fun r s₁ => match r with
      | none => R (.ok .next) s₁
      | some v => wpAny (model prog w) A (letOwnedTupleGo target it v) (fun _ s₁ => wpAny (model prog w) A (assign target env v) (fun _ s₂ =>
          wpAny (model prog w) A (forIn ifs true fun c r => if r = true then do let ok ← isTrue c env (eval c env); pure (ForInStep.yield ok) else pure (ForInStep.yield r)) (fun ok s₃ =>
            if ok = true then wpAny (model prog w) A (eval elt env) (fun x s₄ =>
              wpAny (model prog w) A (call (.builtin "list.append") [acc, x]) (fun _ s₅ => ∃ m, m < n ∧ I m s₅) (notedBy (model prog w) A env fun e s' => R (.error e) s') s₄) (notedBy (model prog w) A env fun e s' => R (.error e) s') s₃
            else ∃ m, m < n ∧ I m s₃) (notedBy (model prog w) A env fun e s' => R (.error e) s') s₂) (notedBy (model prog w) A env fun e s' => R (.error e) s') s₁) (notedBy (model prog w) A env fun e s' => R (.error e) s') s₁) (notedBy (model prog w) A env fun e s' => R (.error e) s') s)
    (n : Nat) (h : I n s) :
    codeAny (model prog w) A (.compLoop (.ListComp elt [⟨target, iter, ifs, 0⟩] scope pos) 0 it acc env) R s := by
  refine codeAny_loop rfl I (fun n s hI => ?_) n h
  show wpAny _ A ((compTurn (.ListComp elt [⟨target, iter, ifs, 0⟩] scope pos) 0 it acc env).onRaise (fun x => do noteFrame x env; theTreesLotGoes x)) _ _ s
  refine wpAny_noted ?_
  rw [compTurn_list]
  refine wpAny_bind (wpAny_standAt (wpAny_bind (wpAny_mono (turn n s hI) (fun r s₁ h₁ => ?_) fun _ _ h' => h')))
  cases r with
  | none => exact wpAny_pure h₁
  | some v =>
    refine wpAny_bind (wpAny_mono h₁ (fun _ s₁ h₁ => ?_) fun _ _ h' => h')
    refine wpAny_bind (wpAny_mono h₁ (fun _ s₂ h₂ => wpAny_bind (wpAny_mono h₂ (fun ok s₃ h₃ => ?_) fun _ _ h' => h')) fun _ _ h' => h')
    cases ok with
    | false => exact wpAny_pure ⟨rfl, h₃⟩
    | true =>
      exact wpAny_bind (wpAny_bind (wpAny_mono h₃ (fun x s₄ h₄ => wpAny_bind (wpAny_mono h₄ (fun _ s₅ h₅ => wpAny_pure (wpAny_pure ⟨rfl, h₅⟩)) fun _ _ h' => h')) fun _ _ h' => h'))
noncomputable def Tgt.names : Tgt → List String
  | .name n => [n]
  | .tup ns => ns
noncomputable def Zrl (csc : Scope) (t : Tgt) : Bool := csc.names.all fun x => x.2 != .local || x.1 == Str.ofString ".0" || t.names.any fun n => x.1 == Str.ofString n
noncomputable def Loc.outer (csc : Scope) (ℓ : Loc) : Loc := fun n => if csc.names.lookup (Str.ofString n) = some .local then none else ℓ n
theorem Zhr : ∀ {ns : List String} {vs : List V} {ℓa ℓb : Loc}, vs.length = ns.length → (∀ n v, n ∉ ns → ℓa n = some v → ℓb n = some v) → ∀ n v, ℓa.setAll ns vs n = some v → ℓb.setAll ns vs n = some v
  | [], vs, ℓa, ℓb, hl, h, n, v, e => by
    cases vs with
    | nil => exact h n v (by simp) e
    | cons _ _ => simp at hl
  | m :: ns, [], ℓa, ℓb, hl, h, n, v, e => by simp at hl
  | m :: ns, x :: vs, ℓa, ℓb, hl, h, n, v, e => by
    refine Zhr (ns := ns) (vs := vs) (ℓa := ℓa.set m x) (ℓb := ℓb.set m x) (by simpa using hl) (fun k u hk q => ?_) n v e
    rw [Zad] at q ⊢
    split
    · rename_i z; rw [if_pos z] at q; exact q
    · rename_i z; rw [if_neg z] at q; exact h k u (by simp [z, hk]) q
theorem Znx {csc : Scope} {t : Tgt} (lk : Zrl csc t = true) {x : V} {ℓ : Loc} {σ : AH} {P : Loc → Prop} (h : Xd t x ℓ.bare σ P) : Xd t x (ℓ.outer csc) σ fun ℓ' => ∃ ℓ'', (∀ n v, ℓ'' n = some v → ℓ' n = some v) ∧ P ℓ'' := by
  have sub : ∀ n v, n ∉ t.names → ℓ.bare n = some v → ℓ.outer csc n = some v := fun n v hn e => by
    rw [Loc.bare_at] at e
    split at e
    · cases e
    · rename_i z
      unfold Loc.outer
      rw [if_neg ?_]; exact e
      intro q
      have := List.all_eq_true.mp lk _ (mem_of_lookup q)
      simp only [bne_self_eq_false, Bool.false_or, Bool.or_eq_true, List.any_eq_true] at this
      rcases this with w | ⟨m, hm, w⟩
      · exact z (Zau (eq_of_beq w))
      · exact hn (Zau (eq_of_beq w) ▸ hm)
  cases t with
  | name m =>
    refine ⟨_, fun n v e => ?_, h⟩
    rw [Zad] at e ⊢
    split
    · rename_i z; rw [if_pos z] at e; exact e
    · rename_i z; rw [if_neg z] at e; exact sub n v (by simp [Tgt.names, z]) e
  | tup ns =>
    simp only [Xd] at h ⊢
    split at h
    · rename_i vs e
      exact ⟨h.1, _, Zhr h.1 sub, h.2⟩
    · exact h.elim
theorem Ext.absorb {W : Addr → Prop} {h0 h h' : Heap} {σ0 σ σ' : AH} (x : Ext No h0 σ0 h σ) (y : Ext W h σ h' σ') (hw : ∀ a, W a → h0.get? a = none) : Ext No h0 σ0 h' σ' := by
  refine ⟨fun a o e n nw => ?_, fun a o e => ?_, fun a q => ?_⟩
  · exact (x.keep a o e n nw).then fun o' e' => y.keep a o' e' (x.off e n) fun w => by rw [hw a w] at e; cases e
  · obtain ⟨o', e'⟩ := x.pres a o e; exact y.pres a o' e'
  · rcases y.dom a q with z | z
    · exact x.dom a z
    · cases e : h0.get? a with
      | none => exact .inr rfl
      | some o => obtain ⟨o', e'⟩ := x.pres a o e; rw [e'] at z; cases z
structure Blk (g : Gr) (csc : Scope) (cl : List (Str × Addr)) (env : Env) (s : Shared) (σ : AH) (fp : Addr → Prop) (St : Nat → Heap → Prop) (D C : Addr) (k : Nat) (acc : List V) (ℓ' : Loc) (s' : Shared) (σ' : AH) : Prop where
  st : St k s'.heap
  dl : ∃ vs n, s'.heap.get? D = some { cls := .type "list", data := .seq vs n } ∧ VRs g s'.heap acc vs.toList
  loc : LR g s'.heap σ' (compEnvC csc cl C env) ℓ'
  rel : Rel g s'.heap σ'
  ext : Ext No s.heap σ s'.heap σ'
  same : Zbo s s'
  off : ∀ a, fp a → σ' a = none
  offD : σ' D = none
section
variable {A : Around} {env : Env} {s : Shared} {σ : AH} {ℓ : Loc} {cl : List (Str × Addr)} {items : List V} {inv : AH → Prop} {I : Addr} {fp : Addr → Prop} {St : Nat → Heap → Prop} {tup : Bool} {D C : Addr}
theorem Zj9 {s₂ : Shared} {σ₁ : AH} {elt target iter : Expr} {ifs : List Expr} {pos : Pos} {t : Tgt} {tifs : TB} {telt : TE} {Q : List V → AH → Prop} {E : Addr → AH → Prop} {EE : Value → Shared → Prop} {RR : Value → Addr → Result → Shared → Prop}
    (X : Cx g sc r true A env s.heap σ ℓ) (ok : Zaz sc csc = true) (IT : Zhj g items inv I fp St tup) (hst : St 0 s₂.heap) (hR : Rel g s₂.heap σ₁) (hx : Ext No s.heap σ s₂.heap σ₁) (hsm : Zbo s s₂) (hfp : ∀ a, fp a → s.heap.get? a = none ∧ σ₁ a = none)
    (hft : Xv items.length) (htt : tup = true → t.isTup = true) (ht : Zja csc target t) (lk : Zrl csc t = true) (h1 : Zvw g csc r true ifs tifs) (h2 : Xy g csc r true elt telt)
    (hcl : ∀ n a, cl.lookup n = some a → env.cells.lookup n = some a) (hcl' : ∀ n, (n, NameKind.free) ∈ csc.names → cl.lookup n = env.cells.lookup n)
    (h : Ze5 t inv tifs telt ℓ items [] σ₁ Q E)
    (hRR : ∀ D C s' σ' xs, s.heap.get? D = none → s.heap.get? C = none → D ≠ C → (∃ m, s'.heap.Ns C m) → OR g s'.heap D (.list xs) → Rel g s'.heap σ' → Ext No s.heap σ s'.heap σ' → Zbo s s' → σ' D = none → σ' C = none → Q xs σ' → RR (.ref D) C (.ok .next) s')
    (hEE : ∀ D C e s', Zaw g A s σ E e s' → notedBy (model g.prog g.w) A (compEnvC csc cl C env) (fun e s' => RR (.ref D) C (.error e) s') e s') :
    wpAny (model g.prog g.w) A (newList []) (fun acc s₃ => wpAny (model g.prog g.w) A (newFunctionEnv csc env.globals cl [] env.qual none .none (some env)) (fun cenv s₄ =>
      codeAny (model g.prog g.w) A (.compStart (.ListComp elt [⟨target, iter, ifs, 0⟩] csc pos) 0 (.ref I) acc { cenv with scope := relabel csc env }) (RR acc cenv.locals) s₄) EE s₃) EE s₂ := by
  have ok' := ok
  simp only [Zaz, Bool.and_eq_true] at ok'
  obtain ⟨⟨⟨ok1, ok2⟩, ok3⟩, ok4⟩ := ok'
  have hcell : ∀ y ∈ csc.names, y.2 ≠ .cell := fun y hy e => by
    have := List.all_eq_true.mp ok3 _ hy
    rw [e] at this; simp at this
  refine wpAny_newObj_type (wpAny_newFunctionEnv hcell (by intro y hy; simp at hy) (fun h₁ hns₁ hsb₁ => ?_) (eq_of_beq ok1))
  dsimp only at hns₁ hsb₁ ⊢
  generalize hH2 : s₂.heap.push { cls := .type "list", dict := none, data := .seq ([] : List Value).toArray } = H2 at hns₁ hsb₁ ⊢
  generalize hDd : s₂.heap.objs.size = D at *
  generalize hCd : H2.objs.size = C at *
  have hCD : C = D + 1 := by rw [← hCd, ← hH2, Heap.size_push, hDd]
  have hDC : D ≠ C := by exact Z3w hCD
  have lt2 : ∀ b o, s₂.heap.get? b = some o → b < D := fun b o e => by rw [← hDd]; exact Heap.lt_size e
  have old : ∀ b o, s₂.heap.get? b = some o → h₁.get? b = some o := fun b o e => hsb₁.extBut b o (by rw [hCD]; exact Nat.ne_of_lt (Nat.lt_succ_of_lt (lt2 b o e))) (Heap.get?_push_of_some _ (hH2 ▸ Heap.get?_push_of_some _ e))
  have hacc : h₁.get? D = some { cls := .type "list", data := .seq #[] } := hsb₁.extBut _ _ hDC (Heap.get?_push_of_some _ (hH2 ▸ (hDd ▸ Heap.get?_push_size _ rfl)))
  have fresh2 : ∀ a, D ≤ a → s₂.heap.get? a = none := fun a ha => by
    cases e : s₂.heap.get? a with
    | none => rfl
    | some o' => exact absurd (lt2 a o' e) (Nat.not_lt.mpr ha)
  have fresh : ∀ a, D ≤ a → s.heap.get? a = none := fun a ha => by
    cases e : s.heap.get? a with
    | none => rfl
    | some o => obtain ⟨o', e'⟩ := hx.pres a o e; rw [fresh2 a ha] at e'; cases e'
  have hDs := fresh D (Nat.le_refl _)
  have hCs := fresh C (by exact Z2m hCD)
  have b0 : ∀ a, s.heap.get? a = none → g.b0.get? a = none := fun a e => by
    cases q : g.b0.get? a with
    | none => rfl
    | some o => rw [X.rel.base a o q] at e; cases e
  have hhid : ∀ a, s.heap.get? a = none → ¬ g.hid a := fun a e w => by
    obtain ⟨o, e'⟩ := X.rel.hid a w; rw [e] at e'; cases e'
  have fpD : ∀ a, fp a → a < D := fun a q => by obtain ⟨o, e, _⟩ := IT.flds 0 _ a hst q; exact lt2 a o e
  have cellsIn : ∀ x a, env.cells.lookup x = some a → ∃ o, s.heap.get? a = some o := fun x a e => let ⟨o, u, h1, _⟩ := X.loc.cell x a e; ⟨o, h1⟩
  have ownC : ∀ a, Own (compEnvC csc cl C env) a → a = C ∨ ∃ o, s.heap.get? a = some o := fun a w => by
    rcases w with w | ⟨x, e⟩
    · exact .inl w
    · exact .inr (cellsIn x a (hcl x a e))
  have fpOwn : ∀ a, fp a → ¬ Own (compEnvC csc cl C env) a := fun a q w => by
    rcases ownC a w with z | ⟨o, z⟩
    · have q' := fpD a q; rw [z, hCD] at q'; exact absurd q' (Nat.not_lt.mpr (Nat.le_succ D))
    · rw [(hfp a q).1] at z; cases z
  have DOwn : ¬ Own (compEnvC csc cl C env) D := fun w => by
    rcases ownC D w with z | ⟨o, z⟩
    · exact hDC z
    · rw [hDs] at z; cases z
  have writes : Zmh (· = C) csc (compEnvC csc cl C env) := ⟨fun a q => .inl q, fun n k a hm q1 q2 hk => by
    cases k with
    | «local» => exact q1 rfl
    | cell => exact absurd rfl (hcell _ hm)
    | _ => cases hk⟩
  have target_tup : tup = true → ∃ es m p, target = .Tuple es m p := fun q => by
    have := htt q
    cases ht with
    | name _ _ => cases this
    | tup _ => exact ⟨_, _, _, rfl⟩
  have XC : ∀ {k acc ℓ' s' σ'}, Blk g csc cl env s σ fp St D C k acc ℓ' s' σ' → Cx g csc r true A (compEnvC csc cl C env) s'.heap σ' ℓ' := fun {k acc ℓ' s' σ'} b =>
    ⟨X.gok, Zr7 X ok, b.loc, X.fr.step b.ext (fun _ _ n => n.elim), X.room, b.rel⟩
  have stepE : ∀ {k acc ℓ' s' σ' s'' σ''}, Blk g csc cl env s σ fp St D C k acc ℓ' s' σ' → Ext No s'.heap σ' s''.heap σ'' → Rel g s''.heap σ'' → Zbo s' s'' → Blk g csc cl env s σ fp St D C k acc ℓ' s'' σ'' := fun {k acc ℓ' s' σ' s'' σ''} b x R hs => by
    have tk : Y2 g s'.heap s''.heap := x.tuples b.rel Xo
    obtain ⟨vs, n, e, hv⟩ := b.dl
    refine ⟨IT.stab _ _ _ b.st tk fun a o q e => ?_, ⟨vs, n, (x.keep D _ e b.offD id).exact (fun _ _ => Data.noConfusion), VRs.mono tk hv⟩, b.loc.step b.rel x, R, b.ext.trans x, b.same.trans hs, fun a q => ?_, x.off e b.offD⟩
    · refine (x.keep a o e (b.off a q) id).exact fun es m d => ?_
      obtain ⟨o', e', z⟩ := IT.flds _ _ a b.st q
      rw [e] at e'; cases e'
      rcases z with z | ⟨us, z⟩
      · exact hhid a (hfp a q).1 z.1
      · rw [d] at z; cases z
    · obtain ⟨o', e', z⟩ := IT.flds _ _ a b.st q
      exact x.off e' (b.off a q)
  have loop : ∀ s₃ : Shared, s₃ = { s₂ with heap := h₁, toks := s₂.toks + ([] : List (Str × Value)).length } →
      codeAny (model g.prog g.w) A (.compLoop (.ListComp elt [⟨target, iter, ifs, 0⟩] csc pos) 0 (.ref I) (.ref D) (compEnvC csc cl C env)) (RR (.ref D) C) s₃ := by
    rintro s₃ rfl
    have B0 : Blk g csc cl env s σ fp St D C 0 [] (ℓ.outer csc) { s₂ with heap := h₁, toks := s₂.toks + ([] : List (Str × Value)).length } σ₁ := by
      have k1 : ∀ a o, s₂.heap.get? a = some o → h₁.get? a = some o := old
      have X1 : Cx g sc r true A env h₁ σ₁ ℓ := X.step (hR.keeps k1) (hx.trans (.keeps k1))
      refine ⟨IT.stab _ _ _ hst (fun a o _ _ _ e _ _ => .of (k1 a o e)) fun a o _ e => k1 a o e, ⟨#[], 0, hacc, Xq⟩, ?_, hR.keeps k1, hx.trans (.keeps k1), hsm.trans ⟨rfl, rfl, rfl⟩, fun a q => (hfp a q).2, hR.fresh (fresh2 D (Nat.le_refl _))⟩
      refine Zmd X1 ok hcl hcl' hns₁ (hR.fresh (fresh2 C (by exact Z2m hCD))) (b0 C hCs) (fun x a e z => ?_) (fun n v e q => ?_) (fun n v e q => ?_)
      · obtain ⟨o, e'⟩ := cellsIn x a e; rw [z, hCs] at e'; cases e'
      · unfold Loc.outer at e; rw [if_pos q] at e; cases e
      · unfold Loc.outer at e; split at e
        · cases e
        · exact e
    refine Zkc (fun n s' => ∃ k acc σ', k ≤ items.length ∧ n = items.length - k ∧ Blk g csc cl env s σ fp St D C k acc (ℓ.outer csc) s' σ' ∧ acc.length ≤ k ∧ Ze5 t inv tifs telt ℓ (items.drop k) acc σ' Q E) ?_ items.length
      ⟨0, [], σ₁, Nat.zero_le _, rfl, B0, Nat.le_refl _, by simpa using h⟩
    rintro n s' ⟨k, acc, σ', hk, rfl, B, hal, hl⟩
    have W : Zbx g fp s'.heap σ' := ⟨B.off, fun a q => IT.flds k _ a B.st q, fun a q => b0 a (hfp a q).1⟩
    have hne : ∀ a, fp a → a ≠ D := fun a q => Nat.ne_of_lt (fpD a q)
    have extK : ∀ {s'' : Shared}, Zbz fp s'.heap s''.heap → Ext No s.heap σ s''.heap σ' := fun {s''} kb => by
      refine ⟨fun a o e n nw => ?_, fun a o e => ?_, B.ext.dom⟩
      · refine (B.ext.keep a o e n nw).then fun o' e' => .of (kb a o' (fun q => ?_) e')
        rw [(hfp a q).1] at e; cases e
      · obtain ⟨o', e'⟩ := B.ext.pres a o e
        refine ⟨o', kb a o' (fun q => ?_) e'⟩
        rw [(hfp a q).1] at e; cases e
    obtain ⟨vs, nn, eD, hvs⟩ := B.dl
    rcases Nat.lt_or_ge k items.length with hlt | hge
    · have hd : items.drop k = items[k] :: items.drop (k + 1) := List.drop_eq_getElem_cons hlt
      rw [hd] at hl
      obtain ⟨hinv, hbind⟩ := hl
      refine wpAny_mono (IT.item k items[k] A (fun e s' => False) s' σ' target (fun v s₁ => ∃ (kb : Zbz fp s'.heap s₁.heap), Zbo s' s₁ ∧ St (k + 1) s₁.heap ∧ VR g s₁.heap items[k] v) (by simp [hlt]) B.st B.rel hinv B.off target_tup
        fun v s₁ a b d e => ⟨a, b, d, e⟩) (fun rr s₁ p => ?_) fun _ _ p => p.elim
      cases rr with
      | none => exact p.elim
      | some v =>
        refine wpAny_mono p (fun _ s₂ p => ?_) fun _ _ p => p.elim
        obtain ⟨kb, hs2, hst2, hv⟩ := p
        have B2 : Blk g csc cl env s σ fp St D C (k + 1) acc (ℓ.outer csc) s₂ σ' :=
          ⟨hst2, ⟨vs, nn, kb D _ (fun q => hne D q rfl) eD, VRs.mono (W.tups kb) hvs⟩, W.loc B.loc kb fpOwn, W.rel B.rel kb fun a q w => absurd q (hhid a (hfp a w).1), extK kb, B.same.trans hs2, B.off, B.offD⟩
        refine wpAny_mono (Zha writes (E := fun _ _ => False) (XC B2) ht hv (Znx lk hbind)) (fun _ s₃ p => ?_) fun _ _ p => p.elim
        obtain ⟨ℓ₃, hL3, hR3, hx3, hs3, ℓ₄, hsub, hbody⟩ := p
        have noseq : Zn0 (· = C) s₂.heap := fun a o w => B2.loc.noSeq a o (.inl w)
        have tk3 : Y2 g s₂.heap s₃.heap := hx3.tuples B2.rel noseq
        have B3 : Blk g csc cl env s σ fp St D C (k + 1) acc ℓ₄ s₃ σ' := by
          obtain ⟨vs2, nn2, eD2, hvs2⟩ := B2.dl
          refine ⟨IT.stab _ _ _ hst2 tk3 fun a o q e => ?_, ⟨vs2, nn2, (hx3.keep D _ eD2 B2.offD hDC).exact (fun _ _ => Data.noConfusion), VRs.mono tk3 hvs2⟩, hL3.forget hsub, hR3, B2.ext.absorb hx3 (fun a w => w ▸ hCs), B2.same.trans hs3, B2.off, B2.offD⟩
          refine (hx3.keep a o e (B2.off a q) fun w => fpOwn a q (.inl w)).exact fun es m d => ?_
          obtain ⟨o', e', z⟩ := IT.flds _ _ a hst2 q
          rw [e] at e'; cases e'
          rcases z with z | ⟨us, z⟩
          · exact hhid a (hfp a q).1 z.1
          · rw [d] at z; cases z
        have again : ∀ {s₅ : Shared} {σ₅ : AH} {acc' : List V}, Blk g csc cl env s σ fp St D C (k + 1) acc' ℓ₄ s₅ σ₅ → acc'.length ≤ k + 1 → Ze5 t inv tifs telt ℓ (items.drop (k + 1)) acc' σ₅ Q E →
            ∃ m, m < items.length - k ∧ ∃ k' acc σ', k' ≤ items.length ∧ m = items.length - k' ∧ Blk g csc cl env s σ fp St D C k' acc (ℓ.outer csc) s₅ σ' ∧ acc.length ≤ k' ∧ Ze5 t inv tifs telt ℓ (items.drop k') acc σ' Q E := fun {s₅ σ₅ acc'} b hle hc => by
          refine ⟨items.length - (k + 1), by exact Z2n hlt, k + 1, acc', σ₅, hlt, rfl, ⟨b.st, b.dl, ?_, b.rel, b.ext, b.same, b.off, b.offD⟩, hle, hc⟩
          have X5 : Cx g sc r true A env s₅.heap σ₅ ℓ := X.step b.rel b.ext
          obtain ⟨m, hn5, _⟩ := b.loc.ns
          refine Zmd X5 ok hcl hcl' hn5 b.loc.off.1 (b0 C hCs) (fun x a e z => ?_) (fun n v e q => ?_) (fun n v e q => ?_)
          · obtain ⟨o, e'⟩ := cellsIn x a e; have z' : a = C := z; rw [z', hCs] at e'; cases e'
          · unfold Loc.outer at e; rw [if_pos q] at e; cases e
          · unfold Loc.outer at e; split at e
            · cases e
            · exact e
        refine wpAny_mono (h1.run A _ s₃ ℓ₄ σ' _ E (XC B3) hbody) (fun b s₄ p => ?_) fun e s₄ p => hEE D C e s₄ (p.back B3.ext B3.same)
        obtain ⟨b', σ₄, rfl, hR4, hx4, hs4, hq⟩ := p
        have B4 := stepE B3 hx4 hR4 hs4
        cases b' with
        | false => exact again B4 (by exact Z3v hal) hq
        | true =>
          rw [if_pos rfl]
          refine wpAny_mono (h2.run A _ s₄ ℓ₄ σ₄ _ E (XC B4) hq) (fun y s₅ p => ?_) fun e s₅ p => hEE D C e s₅ (p.back B4.ext B4.same)
          refine Za3.elim p fun y' σ₅ hy hR5 hx5 hs5 hq => ?_
          have B5 := stepE B4 hx5 hR5 hs5
          obtain ⟨vs5, nn5, eD5, hvs5⟩ := B5.dl
          have hsz : vs5.size ≤ sizeLine := by
            have := Zz hvs5
            have h2 := hft.line
            simp at this; exact Z3u hal hlt this h2
          refine wpAny_list_append_plain ⟨nn5, eD5⟩ (fun h' hpl sb => ?_) hsz
          obtain ⟨n6, eD6⟩ := hpl
          have tk6 : Y2 g s₅.heap h' := fun a o us m _ e cc d => by
            refine .of (sb.extBut a o (fun z => ?_) e)
            subst z; rw [eD5] at e; cases e; exact absurd cc (by simp)
          have pD : ∃ o, h'.get? D = some o := ⟨_, eD6⟩
          have x6 : Ext (· = D) s₅.heap σ₅ h' σ₅ := ⟨fun a o e _ nw => .of (sb.extBut a o nw e), fun a o e => by
            by_cases z : a = D
            · rw [z]; exact pD
            · exact ⟨o, sb.extBut a o z e⟩, fun a q => .inl q⟩
          have R6 : Rel g h' σ₅ := by
            refine ⟨fun a ha => ?_, fun a o e => sb.extBut a o (fun z => ?_) (hR5.base a o e), fun a ao e => ⟨(hR5.own a ao e).1, Zc3 tk6 (fun o e' => sb.extBut a o (fun z => ?_) e') (hR5.own a ao e).2⟩⟩
            · obtain ⟨o, e⟩ := hR5.hid a ha
              exact x6.pres a o e
            · rw [z, b0 D hDs] at e; cases e
            · rw [z, B5.offD] at e; cases e
          have L6 : LR g h' σ₅ (compEnvC csc cl C env) ℓ₄ := by
            have kv : ∀ {v : V} {u : Value}, VR g s₅.heap v u → VR g h' v u := VR.mono tk6
            obtain ⟨m, hn, hm⟩ := B5.loc.ns
            have hCD' : (compEnvC csc cl C env).locals ≠ D := fun z => hDC z.symm
            refine ⟨⟨m, Zgv hn fun o e => .of (sb.extBut _ o hCD' e), fun y v a b => let ⟨u, e, f⟩ := hm y v a b; ⟨u, e, kv f⟩⟩, fun y c e => ?_, fun y v a kk => ?_, B5.loc.off, B5.loc.offc, B5.loc.apart, B5.loc.has⟩
            · obtain ⟨o, u, e1, e2⟩ := B5.loc.cell y c e
              exact ⟨o, u, sb.extBut c o (fun z => DOwn (z ▸ .inr ⟨y, e⟩)) e1, e2⟩
            · obtain ⟨c, u, e, hc, hv⟩ := B5.loc.cells y v a kk
              exact ⟨c, u, e, Ze7 hc fun o z => .of (sb.extBut _ o (fun z => DOwn (z ▸ .inr ⟨_, e⟩)) z), kv hv⟩
          have hvs6 : VRs g h' (acc ++ [y']) (vs5.push y).toList := by
            rw [Array.toList_push]
            exact Zmj (VRs.mono tk6 hvs5) (VR.mono tk6 hy)
          refine again (s₅ := { s₅ with heap := h' }) ⟨IT.stab _ _ _ B5.st tk6 fun a o q e => sb.extBut a o (hne a q) e, ⟨_, n6, eD6, hvs6⟩, L6, R6, B5.ext.absorb x6 (fun a w => w ▸ hDs), B5.same.trans ⟨rfl, rfl, rfl⟩, B5.off, B5.offD⟩ (by simp; exact Zwp hal) hq
    · have hd : items.drop k = [] := List.drop_eq_nil_of_le hge
      rw [hd] at hl
      refine IT.last k A _ s' σ' _ hge (X.room.calm rfl) B.st B.rel hl.1 B.off fun s'' kb hs'' => ?_
      have hL := W.loc B.loc kb fpOwn
      obtain ⟨m, hn, _⟩ := hL.ns
      exact hRR D C s'' σ' acc hDs hCs hDC ⟨m, hn⟩ ⟨hft.le (by exact Z3t hk hal hge), vs, nn, kb D _ (fun q => hne D q rfl) eD, VRs.mono (W.tups kb) hvs⟩ (W.rel B.rel kb fun a q w => absurd q (hhid a (hfp a w).1)) (extK kb) (B.same.trans hs'') B.offD hL.off.1 hl.2
  exact codeAny_compStart_list (loop _ rfl) (IT.self 0 _ _ _ _ (IT.stab _ _ _ hst (fun a o _ _ _ e _ _ => .of (old a o e)) fun a o _ e => old a o e) (loop _ rfl))
end
noncomputable def Y6 (tc : Loc → AH → (List V → AH → Prop) → (Addr → AH → Prop) → Prop) : TE := fun ℓ σ Q E => tc ℓ σ (fun xs σ₁ => ∀ a, σ₁ a = none → Q (.ref a) (σ₁.set a (.list xs))) E
theorem Zgq {C : Addr} {h h' : Heap} {σ : AH} (R : Rel g h σ) (hn : ∃ m, h.Ns C m) (sb : Heap.SameBut C h h') (hC : σ C = none) (hb : g.b0.get? C = none) (hh : ¬ g.hid C) : Rel g h' σ ∧ Y2 g h h' := by
  obtain ⟨m, oC, es, ep, eC, dC, _⟩ := hn
  have tk : Y2 g h h' := fun a o us n _ e _ d => by
    refine .of (sb.extBut a o (fun z => ?_) e)
    subst z; rw [eC] at e; cases e; rw [dC] at d; cases d
  refine ⟨⟨fun a ha => ?_, fun a o e => sb.extBut a o (fun z => ?_) (R.base a o e), fun a ao e => ⟨(R.own a ao e).1, Zc3 tk (fun o e' => sb.extBut a o (fun z => ?_) e') (R.own a ao e).2⟩⟩, tk⟩
  · obtain ⟨o, e⟩ := R.hid a ha
    exact ⟨o, sb.extBut a o (fun z => hh (z ▸ ha)) e⟩
  · rw [z, hb] at e; cases e
  · rw [z, hC] at e; cases e
theorem Zj1 (ok : Zaz sc csc = true) : ∀ x ∈ csc.names, x.2 = .local → csc.names.lookup x.1 = some .local := fun x hx e => by
  simp only [Zaz, Bool.and_eq_true] at ok
  exact Wx ok.1.1.2 (e ▸ hx)
theorem Y0 {elt target iter : Expr} {ifs : List Expr} {pos : Pos} {t : Tgt} {ti : TI} {tifs : TB} {telt : TE} (ok : Zaz sc csc = true) (hi : Zt1 g sc r true iter ti) (ht : Zja csc target t) (lk : Zrl csc t = true) (h1 : Zvw g csc r true ifs tifs) (h2 : Xy g csc r true elt telt)
    (hf : ∀ env x, foldedSetIterable iter env x = pure x) : Xy g sc r true (.ListComp elt [⟨target, iter, ifs, 0⟩] csc pos) (Y6 (Zav t ti tifs telt)) := .mk fun A env s ℓ σ Q E X h => by
  obtain ⟨cl, hclos, hcl, hcl'⟩ := Ze6 (Zh7 X ok)
  have b0 : ∀ a, s.heap.get? a = none → g.b0.get? a = none := fun a e => by
    cases q : g.b0.get? a with
    | none => rfl
    | some o => rw [X.rel.base a o q] at e; cases e
  have hhid : ∀ a, s.heap.get? a = none → ¬ g.hid a := fun a e w => by
    obtain ⟨o, e'⟩ := X.rel.hid a w; rw [e] at e'; cases e'
  have hk : csc.kind = .function := by simp only [Zaz, Bool.and_eq_true] at ok; exact eq_of_beq ok.1.1.1
  rw [eval_ListComp]
  refine wpAny_comprehension_free (use := none) rfl (hf env) hclos hk (Zj1 ok) (wpAny_mono (hi.run A env s ℓ σ _ _ X h) (fun x s₁ p => wpAny_mono p (fun it s₂ p => ?_) fun _ _ p => p) fun _ _ p => p)
  obtain ⟨items, inv, I, fp, St, tup, σ₁, rfl, IT, hst, hR, hx, hsm, hfp, hft, htt, hl⟩ := p
  refine Zj9 (RR := fun acc C => compPost (model g.prog g.w) A (Zaw g A s σ E) none (Zbj g s σ Q) acc C) X ok IT hst hR hx hsm hfp hft htt ht lk h1 h2 hcl hcl' hl (fun D C s' σ' xs hD hC hDC hn ho hR' hx' hs' oD oC hq => ?_) fun D C e s' p => ?_
  · obtain ⟨m, hn⟩ := hn
    refine ⟨m, hn, fun h' sb => ?_⟩
    obtain ⟨R2, tk⟩ := Zgq hR' ⟨m, hn⟩ sb oC (b0 C hC) (hhid C hC)
    have ho' : OR g h' D (.list xs) := Zc3 tk (fun o e => sb.extBut D o hDC e) ho
    refine ⟨.ref D, σ'.set D (.list xs), Yi.mpr rfl, R2.claim (b0 D hD) ho', ⟨fun a o e n w => (hx'.keep a o e n w).then fun o' e' => .of (sb.extBut a o' (fun z => ?_) e'), fun a o e => ?_, fun a q => ?_⟩, hs'.trans ⟨rfl, rfl, rfl⟩, hq D oD⟩
    · rw [z, hC] at e; cases e
    · obtain ⟨o', e'⟩ := hx'.pres a o e
      exact ⟨o', sb.extBut a o' (fun z => by rw [z, hC] at e; cases e) e'⟩
    · unfold AH.set at q
      by_cases z : a = D
      · rw [z]; exact .inr hD
      · rw [if_neg z] at q; exact hx'.dom a q
  · obtain ⟨_, _, h1, _⟩ := p; exact h1.elim
noncomputable def Xh (n : String) (tc : Loc → AH → (List V → AH → Prop) → (Addr → AH → Prop) → Prop) : TS := fun ℓ σ Q E => tc ℓ σ (fun xs σ₁ => ∀ a, σ₁ a = none → Q .next (ℓ.set n (.ref a)) (σ₁.set a (.list xs))) fun C σ' => E C ℓ σ'
end
section
open PySem PyProof.Rows
variable {g : Gr} {sc csc : Scope} {r : Nat} {c : Bool}
theorem Yo {n : String} {k : NameKind} {p' pos spos : Pos} {elt target iter : Expr} {ifs : List Expr} {t : Tgt} {ti : TI} {tifs : TB} {telt : TE} (hm : (Str.ofString n, k) ∈ sc.names) (hk : (k == .local || k == .cell) = true)
    (ok : Zaz sc csc = true) (hi : Zt1 g sc r true iter ti) (ht : Zja csc target t) (lk : Zrl csc t = true) (h1 : Zvw g csc r true ifs tifs) (h2 : Xy g csc r true elt telt)
    (hf : ∀ env x, foldedSetIterable iter env x = pure x) : Zmk g sc r true (.Assign [.Name (Str.ofString n) p'] (.ListComp elt [⟨target, iter, ifs, 0⟩] csc pos) spos) (Xh n (Zav t ti tifs telt)) := .mk fun A env s ℓ σ Q E X h => by
  have hsw : ∃ b, swapsWith (.ListComp elt [⟨target, iter, ifs, 0⟩] csc pos) (some (.Name (Str.ofString n) p')) spos.line env = pure b := ⟨_, rfl⟩
  obtain ⟨b, hsw⟩ := hsw
  cases b with
  | false =>
    refine wpAny_Assign_Name (wpAny_mono ((Y0 (pos := pos) ok hi ht lk h1 h2 hf).run A env s ℓ σ (fun v σ' => Q .next (ℓ.set n v) σ') (fun C σ' => E C ℓ σ') X h) (fun v s₁ p => ?_) fun _ _ p => p.toS X) hsw
    refine Za3.elim p fun x σ₁ hv hR hx hs hq => ?_
    exact Zel (X.step hR hx) hm hk hv fun s' a _ _ w hL hR' hx' hs' => ⟨.next, _, σ₁, rfl, hL, hR', hx.own.trans (hx'.weaken fun b z => z ▸ w), hs.trans hs', hq⟩
  | true =>
    obtain ⟨cl, hclos, hcl, hcl'⟩ := Ze6 (Zh7 X ok)
    have b0 : ∀ a, s.heap.get? a = none → g.b0.get? a = none := fun a e => by
      cases q : g.b0.get? a with
      | none => rfl
      | some o => rw [X.rel.base a o q] at e; cases e
    have hhid : ∀ a, s.heap.get? a = none → ¬ g.hid a := fun a e w => by
      obtain ⟨o, e'⟩ := X.rel.hid a w; rw [e] at e'; cases e'
    have hkd : csc.kind = .function := by simp only [Zaz, Bool.and_eq_true] at ok; exact eq_of_beq ok.1.1.1
    rw [exec_Assign_Name_used _ _ _ _ hsw]
    refine wpAny_bind (wpAny_standAt (wpAny_bind ?_))
    show wpAny _ A (do let _ ← comprehension (.ListComp elt [⟨target, iter, ifs, 0⟩] csc pos) csc env _ (newList []) false (eval iter env) (some (assign (.Name (Str.ofString n) p') env))) _ _ s
    refine wpAny_bind (wpAny_mono (wpAny_comprehension_free (use := some (assign (.Name (Str.ofString n) p') env)) (Q := fun _ s' => Zd2 g env s σ Q .next s') (E := Zam g A env s σ E) rfl (hf env) hclos hkd (Zj1 ok)
      (wpAny_mono (hi.run A env s ℓ σ _ _ X h) (fun x s₁ p => wpAny_mono p (fun it s₂ p => ?_) fun _ _ p => p.toS X) fun _ _ p => p.toS X)) (fun _ s' hq => wpAny_pure (wpAny_pure hq)) fun _ _ e => e)
    obtain ⟨items, inv, I, fp, St, tup, σ₁, rfl, IT, hst, hR, hx, hsm, hfp, hft, htt, hl⟩ := p
    refine Zj9 (RR := fun acc C => compPost (model g.prog g.w) A (Zam g A env s σ E) (some (assign (.Name (Str.ofString n) p') env)) (fun _ s' => Zd2 g env s σ Q .next s') acc C) X ok IT hst hR hx hsm hfp hft htt ht lk h1 h2 hcl hcl' hl (fun D C s' σ' xs hD hC hDC hn ho hR' hx' hs' oD oC hq => ?_) fun D C e s' p => ?_
    · obtain ⟨m, hn⟩ := hn
      have R1 : Rel g s'.heap (σ'.set D (.list xs)) := hR'.claim (b0 D hD) ho
      have x1 : Ext No s.heap σ s'.heap (σ'.set D (.list xs)) := ⟨hx'.keep, hx'.pres, fun a q => by
        unfold AH.set at q
        by_cases z : a = D
        · rw [z]; exact .inr hD
        · rw [if_neg z] at q; exact hx'.dom a q⟩
      have X1 : Cx g sc r true A env s'.heap (σ'.set D (.list xs)) ℓ := X.step R1 x1
      have oC1 : (σ'.set D (.list xs)) C = none := by unfold AH.set; rw [if_neg (Ne.symm hDC)]; exact oC
      show wpAny _ A (assign (.Name (Str.ofString n) p') env (.ref D)) _ _ _
      refine wpAny_assign_Name (Zel X1 hm hk (Yi.mpr rfl) fun s'' a _ _ w hL hR'' hx'' hs'' => ?_)
      have hCa : C ≠ a := fun z => by
        obtain ⟨o, e⟩ := Zeg X.loc w
        rw [← z, hC] at e; cases e
      have hn'' : s''.heap.Ns C m := Zgv hn fun o e => hx''.keep C o e oC1 hCa
      refine ⟨m, hn'', fun h' sb => ?_⟩
      obtain ⟨R2, tk⟩ := Zgq hR'' ⟨m, hn''⟩ sb oC1 (b0 C hC) (hhid C hC)
      have hOC : ¬ Own env C := fun w => by obtain ⟨o, e⟩ := Zeg X.loc w; rw [hC] at e; cases e
      have kv : ∀ {v : V} {u : Value}, VR g s''.heap v u → VR g h' v u := VR.mono tk
      have L2 : LR g h' (σ'.set D (.list xs)) env (ℓ.set n (.ref D)) := by
        obtain ⟨m2, hn2, hm2⟩ := hL.ns
        refine ⟨⟨m2, Zgv hn2 fun o e => .of (sb.extBut _ o (fun z => hOC (.inl z.symm)) e), fun y v a b => let ⟨u, e, f⟩ := hm2 y v a b; ⟨u, e, kv f⟩⟩, fun y c e => ?_, fun y v a kk => ?_, hL.off, hL.offc, hL.apart, hL.has⟩
        · obtain ⟨o, u, e1, e2⟩ := hL.cell y c e
          exact ⟨o, u, sb.extBut c o (fun z => hOC (z ▸ .inr ⟨y, e⟩)) e1, e2⟩
        · obtain ⟨c, u, e, hc, hv⟩ := hL.cells y v a kk
          exact ⟨c, u, e, Ze7 hc fun o z => .of (sb.extBut _ o (fun z => hOC (z ▸ .inr ⟨_, e⟩)) z), kv hv⟩
      have xa : Ext (Own env) s.heap σ s''.heap (σ'.set D (.list xs)) := x1.own.trans (hx''.weaken fun b z => z ▸ w)
      refine ⟨.next, _, _, rfl, L2, R2, ⟨fun a o e n nw => (xa.keep a o e n nw).then fun o' e' => .of (sb.extBut a o' (fun z => ?_) e'), fun a o e => ?_, xa.dom⟩, (hs'.trans hs'').trans ⟨rfl, rfl, rfl⟩, hq D oD⟩
      · rw [z, hC] at e; cases e
      · obtain ⟨o', e'⟩ := xa.pres a o e
        exact ⟨o', sb.extBut a o' (fun z => by rw [z, hC] at e; cases e) e'⟩
    · obtain ⟨_, _, h1, _⟩ := p; exact h1.elim
end
section
open PySem PyProof.Rows
variable {g : Gr} {sc csc : Scope} {r : Nat} {c : Bool}
noncomputable abbrev TF := List V → AH → (V → AH → Prop) → (Addr → AH → Prop) → Prop
noncomputable def FrL (g : Gr) (A : Around) (h : Heap) (σ : AH) : Prop := ∃ l, A.frames = some l ∧ h.FunFrames g.b0 l ∧ ∀ e ∈ l, ∀ f, e.frame = some f → σ f = none
theorem Zt3.frl {A : Around} {env : Env} {h : Heap} {σ : AH} (F : Zt3 g A env h σ) : FrL g A h σ := let ⟨e0, outer, h1, h2, h3, h4, _⟩ := F; ⟨_, h1, h3, h4⟩
structure Zfs (g : Gr) (r : Nat) (f : Value) (t : TF) : Prop where
  run : ∀ A s σ xs vs Q E, GOk g → FrL g A s.heap σ → Zki A r true → Rel g s.heap σ → VRs g s.heap xs vs → t xs σ Q E →
  wpAny (model g.prog g.w) A (call f vs []) (Zbj g s σ Q) (Zaw g A s σ E) s
structure Xu (g : Gr) (r : Nat) (f : Value) (t : TF) : Prop where
  run : ∀ A s σ xs vs Q E, GOk g → FrL g A s.heap σ → Zki A r true → Rel g s.heap σ → VRs g s.heap xs vs → t xs σ Q E →
  codeAny (model g.prog g.w) A (.call f ⟨vs, []⟩) (fun r s' => match r with | .ok (.ret v) => Zbj g s σ Q v s' | .ok _ => False | .error e => Zaw g A s σ E e s') s
theorem Xu.toF {r : Nat} {f : Value} {t : TF} (h : Xu g r f t) : Zfs g r f t := .mk fun A s σ xs vs Q E G F R Re Vs T => wpAny_call (h.run A s σ xs vs Q E G F R Re Vs T)
theorem Xu.mono {r : Nat} {f : Value} {t t' : TF} (h : Xu g r f t) (k : ∀ xs σ Q E, t' xs σ Q E → t xs σ Q E) : Xu g r f t' := .mk fun A s σ xs vs Q E G F R Re Vs T => h.run A s σ xs vs Q E G F R Re Vs (k _ _ _ _ T)
theorem Zfs.le {r r' : Nat} {f : Value} {t : TF} (h : Zfs g r f t) (k : r ≤ r') : Zfs g r' f t := .mk fun A s σ xs vs Q E G F R => h.run A s σ xs vs Q E G F (R.le k)
noncomputable def Z13 (sc : Scope) (ps : List String) : Bool := sc.kind == .function && Zcf sc.names && !sc.isGenerator && !sc.isCoroutine &&
  (sc.names.all fun x => x.2 != .free && x.1 != ("__debug__" : Str) && x.1 != ("__classdict__" : Str)) &&
  (ps.all fun p => sc.names.any fun y => y.1 == Str.ofString p && (y.2 == .local || y.2 == .cell))
theorem Za2 : ∀ (names : List (Str × NameKind)) (b : Nat) (acc : List (Str × Addr)) (x : Str), (x, NameKind.cell) ∈ names ∨ (acc.lookup x).isSome = true → ((cellsFrom b names acc).lookup x).isSome = true
  | [], b, acc, x, h => by
    rcases h with h | h
    · cases h
    · exact h
  | (n, k) :: rest, b, acc, x, h => by
    unfold cellsFrom
    split
    · refine Za2 rest _ _ x ?_
      rcases h with h | h
      · cases h with
        | head => right; simp [List.lookup_cons]
        | tail _ h => exact .inl h
      · right
        rw [List.lookup_cons]
        split
        · rfl
        · exact h
    · rename_i hk
      refine Za2 rest _ _ x ?_
      rcases h with h | h
      · cases h with
        | head => simp at hk
        | tail _ h => exact .inl h
      · exact .inr h
noncomputable def Loc.empty : Loc := fun _ => none
theorem Zme {h : Heap} {kd : Str → Option NameKind} : ∀ {ps : List String} {xs : List V} {vs : List Value} {m cm : Str → Option Value} {ℓ : Loc}, (∀ n v, ℓ n = some v → kd (Str.ofString n) = some .local → ∃ u, m (Str.ofString n) = some u ∧ VR g h v u) →
    (∀ n v, ℓ n = some v → kd (Str.ofString n) = some .cell → ∃ u, cm (Str.ofString n) = some u ∧ VR g h v u) → VRs g h xs vs → xs.length = ps.length →
    (∀ n v, ℓ.setAll ps xs n = some v → kd (Str.ofString n) = some .local → ∃ u, bindL kd ((ps.map Str.ofString).zip vs) m (Str.ofString n) = some u ∧ VR g h v u) ∧
    (∀ n v, ℓ.setAll ps xs n = some v → kd (Str.ofString n) = some .cell → ∃ u, bindC kd ((ps.map Str.ofString).zip vs) cm (Str.ofString n) = some u ∧ VR g h v u)
  | [], xs, vs, m, cm, ℓ, h1, h2, hv, hl => by
    cases xs with
    | nil => exact ⟨h1, h2⟩
    | cons _ _ => simp at hl
  | p :: ps, [], vs, m, cm, ℓ, h1, h2, hv, hl => by simp at hl
  | p :: ps, x :: xs, vs, m, cm, ℓ, h1, h2, hv, hl => by
    obtain ⟨v, vs, rfl, hx, hxs⟩ := Zn hv
    show (∀ n w, (ℓ.set p x).setAll ps xs n = some w → _ → ∃ u, bindL kd ((ps.map Str.ofString).zip vs) (if kd (Str.ofString p) = some .local then fun y => if y = Str.ofString p then some v else m y else m) (Str.ofString n) = some u ∧ _) ∧
      (∀ n w, (ℓ.set p x).setAll ps xs n = some w → _ → ∃ u, bindC kd ((ps.map Str.ofString).zip vs) (if kd (Str.ofString p) = some .local then cm else fun y => if y = Str.ofString p then some v else cm y) (Str.ofString n) = some u ∧ _)
    refine Zme (fun n w e k => ?_) (fun n w e k => ?_) hxs (by simpa using hl)
    · rw [Zad] at e
      by_cases z : n = p
      · subst z; rw [if_pos rfl] at e; cases e
        rw [if_pos k]; exact ⟨v, by simp, hx⟩
      · rw [if_neg z] at e
        obtain ⟨u, e1, e2⟩ := h1 n w e k
        refine ⟨u, ?_, e2⟩
        split
        · exact (if_neg fun q => z (Zau q)).trans e1
        · exact e1
    · rw [Zad] at e
      by_cases z : n = p
      · subst z; rw [if_pos rfl] at e; cases e
        rw [if_neg (by rw [k]; simp)]; exact ⟨v, by simp, hx⟩
      · rw [if_neg z] at e
        obtain ⟨u, e1, e2⟩ := h2 n w e k
        refine ⟨u, ?_, e2⟩
        split
        · exact e1
        · exact (if_neg fun q => z (Zau q)).trans e1
noncomputable def Zwh (ps : List String) (tb : TS) : TF := fun xs σ Q E => xs.length = ps.length ∧ tb (Loc.empty.setAll ps xs) σ (fun f _ σ' => match f with
  | .ret v => ∃ σ'', (∀ a o, σ'' a = some o → σ' a = some o) ∧ Q v σ''
  | _ => ∃ σ'', (∀ a o, σ'' a = some o → σ' a = some o) ∧ Q .none σ'') fun C _ σ' => ∃ σ'', (∀ a o, σ'' a = some o → σ' a = some o) ∧ E C σ''
theorem Zs6 {a : Addr} {o : Obj} {fd : FuncData} {body : List Stmt} {ps : List String} {tb : TS} (ho : g.b0.get? a = some o) (hd : o.data = .func fd) (hcd : g.b0.CodeRec fd.code fd.qualname) (hbody : fd.body = .stmts body)
    (hbind : ∀ vs : List Value, vs.length = ps.length → bindArgs fd ⟨vs, []⟩ = pure ((ps.map Str.ofString).zip vs)) (hclo : fd.closure = []) (hgl : fd.globals = mainGlobals) (hbl : fd.builtins = builtinsNs) (ok : Z13 fd.scope ps = true)
    (hb : Zhc g fd.scope r true body tb) : Xu g (r + 1) (.ref a) (Zwh ps tb) := .mk fun A s σ xs vs Q E G F Rm R hv h => by
  obtain ⟨hlen, h⟩ := h
  have hlv : vs.length = ps.length := (Zz hv) ▸ hlen
  simp only [Z13, Bool.and_eq_true] at ok
  obtain ⟨⟨⟨⟨⟨ok1, ok2⟩, ok5⟩, ok6⟩, ok3⟩, ok4⟩ := ok
  have hk : fd.scope.kind = .function := eq_of_beq ok1
  have keepCode : s.heap.CodeRec fd.code fd.qualname := hcd.keeps R.base
  have kdOf : ∀ p ∈ ps, fd.scope.names.lookup (Str.ofString p) = some .local ∨ fd.scope.names.lookup (Str.ofString p) = some .cell := fun p hp => by
    have := List.all_eq_true.mp ok4 p hp
    simp only [List.any_eq_true, Bool.and_eq_true] at this
    obtain ⟨⟨y, j⟩, hy, e, hj⟩ := this
    have e' : y = Str.ofString p := eq_of_beq e
    subst e'
    rw [Wx ok2 hy]
    cases j <;> simp at hj <;> simp
  refine codeAny_call_cells (body := body) (Rm.room) (R.base a o ho) hd (G.nolimit.keeps R.base) keepCode hbody (hbind vs hlv) hclo (fun x hx => ?_) (fun s₁ IC => ?_) (by simpa using ok6) (by simpa using ok5) hk
  · have hx1 : x.1 ∈ ps.map Str.ofString := List.of_mem_zip (a := x.1) (b := x.2) hx |>.1
    obtain ⟨p, hp, e⟩ := List.mem_map.mp hx1
    rcases kdOf p hp with q | q
    · exact .inl (e ▸ q)
    · exact .inr ⟨e ▸ q, e ▸ Za2 _ _ _ _ (.inl (mem_of_lookup q))⟩
  · generalize hE : callEnvC fd s.heap.objs.size a = env at IC ⊢
    have hsc : env.scope = fd.scope := by rw [← hE]; rfl
    have hloc : env.locals = s.heap.objs.size := by rw [← hE]; rfl
    have hcs : env.cells = cellsFrom (s.heap.objs.size + 1) fd.scope.names [] := by rw [← hE]; rfl
    have hfrm : env.frame = some s.heap.objs.size := by rw [← hE]; rfl
    have hglo : env.globals = mainGlobals := by rw [← hE]; exact hgl
    have hblt : env.builtins = builtinsNs := by rw [← hE]; exact hbl
    obtain ⟨h1, tk, rfl⟩ := IC.toInCall.same
    have kp := IC.toInCall.keep
    have kdE : ∀ x, env.kindOf x = fd.scope.names.lookup x := fun x => by show env.scope.names.lookup x = _; rw [hsc]
    have above : ∀ x cc, env.cells.lookup x = some cc → s.heap.objs.size < cc := fun x cc e => by rw [← hloc]; exact IC.above x cc (PySem.mem_of_lookup e)
    have freshC : ∀ x cc, env.cells.lookup x = some cc → s.heap.get? cc = none := fun x cc e => Heap.get?_none_of_le (Nat.le_of_lt (above x cc e))
    have freshL : s.heap.get? env.locals = none := by rw [hloc]; exact Z4 _
    have b0 : ∀ a, s.heap.get? a = none → g.b0.get? a = none := fun a e => by
      cases q : g.b0.get? a with
      | none => rfl
      | some o => rw [R.base a o q] at e; cases e
    have tk1 : Y2 g s.heap h1 := fun a o _ _ _ e _ _ => .of (kp a o e)
    obtain ⟨br1, br2⟩ := Zme (kd := env.kindOf) (ℓ := Loc.empty) (m := fun _ => none) (cm := fun _ => none) (ps := ps) (xs := xs) (vs := vs) (h := h1) (g := g) (fun n v e => nomatch e) (fun n v e => nomatch e) (VRs.mono tk1 hv) hlen
    have noFree : ∀ x, env.kindOf x ≠ some .free := fun x e => by
      rw [kdE] at e
      have := List.all_eq_true.mp ok3 _ (mem_of_lookup e)
      simp at this
    have L1 : LR g h1 σ env (Loc.empty.setAll ps xs) := by
      refine ⟨⟨_, IC.toInCall.ns, br1⟩, fun x cc e => ?_, fun n v e k => ?_, ⟨R.fresh freshL, b0 _ freshL⟩, fun x cc e => ⟨R.fresh (freshC x cc e), ?_, b0 _ (freshC x cc e)⟩, fun x y cc e1 e2 => ?_, fun x k => ?_⟩
      · obtain ⟨o, e1, e2⟩ := IC.cell x cc e; exact ⟨o, _, e1, e2⟩
      · rcases k with k | k
        · obtain ⟨u, e1, e2⟩ := br2 n v e k
          have : ((cellsFrom (s.heap.objs.size + 1) fd.scope.names []).lookup (Str.ofString n)).isSome = true := Za2 _ _ _ _ (.inl (mem_of_lookup (by rw [← kdE]; exact k)))
          obtain ⟨cc, hcc⟩ := Option.isSome_iff_exists.mp this
          have hcc' : env.cells.lookup (Str.ofString n) = some cc := by rw [hcs]; exact hcc
          exact ⟨cc, u, hcc', e1 ▸ IC.cell _ cc hcc', e2⟩
        · exact absurd k (noFree _)
      · rw [hloc]; exact Nat.ne_of_gt (above x cc e)
      · exact name_of_addr IC.apart (PySem.mem_of_lookup e1) (PySem.mem_of_lookup e2)
      · rcases k with k | k
        · have : ((cellsFrom (s.heap.objs.size + 1) fd.scope.names []).lookup x).isSome = true := Za2 _ _ _ _ (.inl (mem_of_lookup (by rw [← kdE]; exact k)))
          obtain ⟨cc, hcc⟩ := Option.isSome_iff_exists.mp this
          exact ⟨cc, by rw [hcs]; exact hcc⟩
        · exact absurd k (noFree _)
    have R1 : Rel g h1 σ := R.keeps kp
    have x1 : Ext No s.heap σ h1 σ := .keeps kp
    have F1 : Zt3 g (A.deeper env) env h1 σ := by
      obtain ⟨l, hl, ff, off⟩ := F
      have hns : ∃ o, h1.get? env.locals = some o ∧ ∀ vs, o.data ≠ .fields vs := L1.noFields (.inl rfl)
      refine ⟨env, l, by show A.frames.map (env :: ·) = _; rw [hl]; rfl, rfl, ⟨by rw [hsc, hk]; decide, ⟨s.heap.objs.size, ?_⟩, ?_⟩, fun e he f hf => ?_, by rw [hsc]; simpa using ok5, by rw [hsc]; simpa using ok6, hblt, hglo⟩
      · obtain ⟨o, e, d⟩ := hns
        exact ⟨o, hfrm, b0 _ (Z4 _), hloc ▸ e, d⟩
      · exact ff.of_keeps fun b o e _ => ⟨o, kp b o e, rfl⟩
      · cases he with
        | head => rw [hfrm] at hf; cases hf; exact R.fresh (Z4 _)
        | tail _ q => exact off e q f hf
    have X1 : Cx g fd.scope r true (A.deeper env) env h1 σ (Loc.empty.setAll ps xs) := by
      refine ⟨G, ⟨fun x k hm => .inl ?_, fun x k hm => ?_, by rw [hsc]; exact hk, hglo, hblt⟩, L1, F1, Rm.deeper env, R1⟩
      · rw [kdE]; exact Wx ok2 hm
      · have := List.all_eq_true.mp ok3 _ hm
        simp only [Bool.and_eq_true] at this
        exact ⟨by simpa using this.1.2, by simpa using this.2⟩
    have freshOwn : ∀ b, Own env b → s.heap.get? b = none := fun b w => by
      rcases w with rfl | ⟨x, e⟩
      · exact freshL
      · exact freshC x b e
    refine wpAny_mono (hb.run (A.deeper env) env { s with heap := h1, toks := tk } _ σ _ _ X1 h) (fun f s' p => ?_) fun e s' p => ?_
    · obtain ⟨f', ℓ', σ', hf', _, hR', hx', hs', hq⟩ := p
      have fin : ∀ {x : V} {u : Value}, VR g s'.heap x u → (∃ σ'', (∀ a o, σ'' a = some o → σ' a = some o) ∧ Q x σ'') → Zbj g s σ Q u s' := fun {x u} hu q => by
        obtain ⟨σ'', hsub, hq⟩ := q
        exact ⟨x, σ'', hu, hR'.forget hsub, (x1.absorb hx' freshOwn).forget hsub, Zbo.trans ⟨rfl, rfl, rfl⟩ hs', hq⟩
      cases f' with
      | ret v => obtain ⟨u, rfl, hu⟩ := hf'; exact fin hu hq
      | next => cases hf'; exact fin (W6.mpr rfl) hq
      | brk => cases hf'; exact fin (W6.mpr rfl) hq
      | cont => cases hf'; exact fin (W6.mpr rfl) hq
    · obtain ⟨_, _, _, hX, _⟩ := p; exact hX.elim
theorem Z1 {a : Addr} {o : Obj} {nm q : Str} {pa : Arguments} {body : List Stmt} {scp : Scope} {gl : Addr} {clo : List (Str × Addr)} {dv kd doc pm : Value} {an : Option Addr} {cd ct : Value} {bl : Addr} {ps : List String} {tb : TS} (ho : g.b0.get? a = some o)
    (hd : o.data = .func ⟨nm, q, pa, .stmts body, scp, gl, clo, dv, kd, doc, pm, an, cd, ct, bl⟩) (hcd : g.b0.CodeRec cd q) (hbody : FuncBody.stmts body = .stmts body)
    (hbind : ∀ vs : List Value, vs.length = ps.length → bindArgs ⟨nm, q, pa, .stmts body, scp, gl, clo, dv, kd, doc, pm, an, cd, ct, bl⟩ ⟨vs, []⟩ = pure ((ps.map Str.ofString).zip vs)) (hclo : clo = []) (hgl : gl = mainGlobals) (hbl : bl = builtinsNs) (ok : Z13 scp ps = true)
    (hb : Zhc g scp r true body tb) : Xu g (r + 1) (.ref a) (Zwh ps tb) := Zs6 ho hd hcd hbody hbind hclo hgl hbl ok hb
end
section
open PySem PyProof.Rows
variable {g : Gr} {sc csc : Scope} {r : Nat} {c : Bool}
noncomputable def Glo (g : Gr) (n : String) (v : Value) : Prop := ∃ mg, g.b0.Ns mainGlobals mg ∧ mg (Str.ofString n) = some v
noncomputable def Bui (g : Gr) (n : String) (v : Value) : Prop := ∃ mg mb, g.b0.Ns mainGlobals mg ∧ mg (Str.ofString n) = none ∧ g.b0.Ns builtinsNs mb ∧ mb (Str.ofString n) = some v
noncomputable def Wn (g : Gr) (n : String) (v : Value) : Prop := Glo g n v ∨ Bui g n v
theorem X7 {A : Around} {env : Env} {s : Shared} {σ : AH} {ℓ : Loc} {n : String} {v : Value} {pos : Pos} {E : Value → Shared → Prop} {Q : Value → Shared → Prop} (X : Cx g sc r c A env s.heap σ ℓ) (hm : (Str.ofString n, NameKind.globalImplicit) ∈ sc.names) (hk : Wn g n v) (h : Q v s) :
    wpAny (model g.prog g.w) A (eval (.Name (Str.ofString n) pos) env) Q E s := by
  have kd : env.kindOf (Str.ofString n) = some .globalImplicit := by
    rcases X.ok.kinds _ _ hm with q | ⟨q, _⟩
    · exact q
    · cases q
  refine Calls.Name_function_global X.ok.kind kd ?_ (X.ok.plain _ _ hm).1
  rcases hk with ⟨mg, h1, h2⟩ | ⟨mg, mb, h1, h2, h3, h4⟩
  · exact Calls.loadGlobal_global (by rw [X.ok.globals]; exact h1.at' fun o e => X.rel.base _ o e) h2 h
  · exact Calls.loadGlobal_builtin (by rw [X.ok.globals]; exact h1.at' fun o e => X.rel.base _ o e) h2 (by rw [X.ok.builtins]; exact h3.at' fun o e => X.rel.base _ o e) h4 h
theorem Z7 {n : String} {pos : Pos} {v : Value} {x : V} (hm : (Str.ofString n, NameKind.globalImplicit) ∈ sc.names) (hk : Wn g n v) (hx : ∀ h, VR g h x v) : Xy g sc r c (.Name (Str.ofString n) pos) (Zm x) := .mk fun A env s ℓ σ Q E X h =>
  X7 X hm hk (.here (hx _) X.rel h)
noncomputable def Zef (es : List Expr) : Prop := (es.all fun e => !Zfy e) = true
theorem Zef.any : ∀ {es : List Expr}, Zef es → ∀ env, (starEach es env).any (·.1) = false
  | [], _, env => rfl
  | e :: es, h, env => by
    simp only [Zef, List.all_cons, Bool.and_eq_true] at h
    rw [Xe env (by simpa using h.1), List.any_cons, Zef.any h.2 env]; rfl
theorem Zcy {M : Model} {A : Around} {E : Value → Shared → Prop} {s : Shared} {f : Value} {l : List (Bool × Sem Value)} {Q : Args → Shared → Prop} (hp : l.any (·.1) = false)
    (h : wpAny M A (spliced l) (fun vs s' => Q ⟨vs, []⟩ s') E s) : wpAny M A (evalArgs f true l []) Q E s := by
  match l, hp, h with
  | [], _, h =>
    unfold evalArgs
    show wpAny M A (spliced [] >>= _) Q E s
    refine wpAny_bind (wpAny_mono h (fun vs s' h' => ?_) fun _ _ x => x)
    refine wpAny_bind (wpAny_pure ?_)
    refine wpAny_holding ?_
    exact wpAny_bind (wpAny_pure (wpAny_bind (wpAny_pure (wpAny_pure h'))))
  | (false, x) :: rest, _, h => exact Calls.evalArgs_plain h
  | (true, x) :: rest, hp, _ => simp at hp
theorem Wz {es : List Expr} (hp : Zef es) (pos : Pos) (env : Env) : (backTo pos (starEach es env)).any (·.1) = false := by
  have := hp.any env
  unfold backTo
  rw [List.any_map]
  exact this
noncomputable def Zs0 (g : Gr) (v : Value) : Prop := (∃ a o fd, v = .ref a ∧ g.b0.get? a = some o ∧ o.data = .func fd) ∨ (∃ id, v = .builtin id) ∨ ∃ T, v = .type T
theorem X8 {A : Around} {E : Value → Shared → Prop} {s : Shared} {pos : Pos} {f : Value} {first : List Value} {l : List (Bool × Sem Value)} {Q : Value → Shared → Prop} (hf : Zs0 g f) (hp : l.any (·.1) = false)
    (h : wpAny (model g.prog g.w) A (spliced l) (fun vs s' => (∀ a o, g.b0.get? a = some o → s'.heap.get? a = some o) ∧ wpAny (model g.prog g.w) A (call f (first ++ vs) []) Q E s') E s) : wpAny (model g.prog g.w) A (callWith pos f first l []) Q E s := by
  rcases hf with ⟨a, o, fd, rfl, ho, hd⟩ | ⟨id, rfl⟩ | ⟨T, rfl⟩
  · exact Calls.callWith_function (o := o) (fd := fd) (Zcy hp (wpAny_mono h (fun vs s' h' => ⟨⟨h'.1 a o ho, hd⟩, h'.2⟩) fun _ _ x => x))
  · exact Calls.callWith_builtin hp (Zcy hp (wpAny_mono h (fun vs s' h' => h'.2) fun _ _ x => x))
  · exact PySem.callWith_type hp (Zcy hp (wpAny_mono h (fun vs s' h' => h'.2) fun _ _ x => x))
noncomputable def Ye (ts : TL) (t : TF) : TE := fun ℓ σ Q E => ts ℓ σ (fun vs σ₁ => t vs σ₁ Q E) E
noncomputable def FnG (g : Gr) (n : String) (r : Nat) (t : TF) : Prop := ∃ v, Wn g n v ∧ Zs0 g v ∧ Zfs g r v t
theorem FnG.le {n : String} {r r' : Nat} {t : TF} (h : FnG g n r t) (k : r ≤ r') : FnG g n r' t := let ⟨v, h1, h2, h3⟩ := h; ⟨v, h1, h2, h3.le k⟩
theorem Zom {n : String} {p pos : Pos} {args : List Expr} {ts : TL} {t : TF} (hm : (Str.ofString n, NameKind.globalImplicit) ∈ sc.names) (hf : FnG g n r t) (hL : Zml g sc r true args ts) (hp : Zef args) :
    Xy g sc r true (.Call (.Name (Str.ofString n) p) args [] pos) (Ye ts t) := .mk fun A env s ℓ σ Q E X h => by
  obtain ⟨v, hk, hc, hF⟩ := hf
  show wpAny _ A (do callWith pos (← eval (.Name (Str.ofString n) p) env) [] (backTo pos (starEach args env)) (backToKw pos (keywordEach [] env))) _ _ s
  refine wpAny_bind (X7 X hm hk ?_)
  refine X8 hc (Wz hp pos env) (wpAny_mono (hL.run A env pos s ℓ σ _ E X h) (fun vs s₁ p => ?_) fun _ _ p => p)
  refine Za3.elim p fun xs σ₁ hv hR hx hs hq => ?_
  have X1 := X.step hR hx
  exact ⟨fun a o e => hR.base a o e, Zbd hx hs (hF.run A s₁ σ₁ xs vs Q E X.gok X1.fr.frl X1.room hR hv hq)⟩
theorem Zbl {s s' : Shared} {σ : AH} {Q : V → AH → Prop} {x : V} {v : Value} (R : Rel g s.heap σ) (e : s'.heap = s.heap) (sm : Zbo s s') (hv : VR g s.heap x v) (h : Q x σ) : Zbj g s σ Q v s' :=
  ⟨x, σ, e ▸ hv, e ▸ R, e ▸ .refl, sm, h⟩
noncomputable def Zjt (x : V) (σ : AH) : Option Nat := match x with
  | .tup xs => some xs.length
  | .frz xs => some xs.length
  | .ref a => match σ a with
    | some (.list xs) => some xs.length
    | some (.dictI kvs _) => some kvs.length
    | some (.dictS kvs _) => some kvs.length
    | _ => none
  | _ => none
noncomputable def Zjf : TF := fun xs σ Q _ => match xs with | [x] => (match Zjt x σ with | some n => Q (.int n) σ | none => False) | _ => False
theorem Wb : Zfs g r (.builtin "len") Zjf := .mk fun A s σ xs vs Q E G F Rm R hv h => by
  match xs, hv, h with
  | [x], hv, h =>
    obtain ⟨v, _, rfl, hx, hr⟩ := Zn hv
    rw [Z2 hr]
    simp only [Zjf] at h
    split at h
    · rename_i n e
      have key : ∀ (m : Nat) (tk tk' : Nat), m = n → Zbj g s σ Q (.int m tk) { s with toks := tk' } := fun m tk tk' q => by subst q; exact Zbl R rfl ⟨rfl, rfl, rfl⟩ (Z9.mpr ⟨_, rfl⟩) h
      cases x with
      | tup ys =>
        obtain ⟨hf, a, o, us, m, rfl, _, ho, hc, hd, hvs⟩ := Wq.mp hx
        cases e
        have hl : ys.length = us.size := by rw [Zz hvs]; simp
        exact PyProof.Rows.len_tuple ⟨o, ho, hc, m, hd⟩ (hl ▸ hf.fit) (key _ _ _ hl.symm)
      | frz ys =>
        obtain ⟨hf, a, o, us, m, rfl, ho, hc, hd, hvs⟩ := Zc5.mp hx
        cases e
        have hl : ys.length = us.size := by rw [Zz hvs]; simp
        exact PySem.Calls.call_len_list ⟨o, R.base a o ho, hc, m, hd⟩ (hl ▸ hf.fit) (key _ _ _ hl.symm)
      | ref a =>
        rw [Yi.mp hx]
        simp only [Zjt] at e
        split at e
        · rename_i ys q
          cases e
          obtain ⟨hf, us, m, ho, hvs⟩ := (R.own a _ q).2
          have hl : ys.length = us.size := by rw [Zz hvs]; simp
          exact PySem.Calls.call_len_list ⟨_, ho, rfl, m, rfl⟩ (hl ▸ hf.fit) (key _ _ _ hl.symm)
        · rename_i kvs ep q
          cases e
          obtain ⟨hf, us, hd, hk, hvs⟩ := (R.own a _ q).2
          have hl : kvs.length = us.length := by have := congrArg List.length hk; simpa using this.symm
          exact call_len_dict (Xk G R q) hd.dictOf (hl ▸ hf.fit) (key _ _ _ hl.symm)
        · rename_i kvs ep q
          cases e
          obtain ⟨hf, us, hd, hk, hvs⟩ := (R.own a _ q).2
          have hl : kvs.length = us.length := by have := congrArg List.length hk; simpa using this.symm
          exact call_len_dict (Xk G R q) hd.dictOf (hl ▸ hf.fit) (key _ _ _ hl.symm)
        · cases e
      | _ => cases e
    · exact h.elim
  | [], _, h => exact h.elim
  | _ :: _ :: _, _, h => exact h.elim
end
section
open PySem PyProof.Rows
variable {g : Gr} {sc csc : Scope} {r : Nat} {c : Bool}
noncomputable def Zjy : List V → Option (List Int)
  | [] => some []
  | .int i :: xs => (Zjy xs).map (i :: ·)
  | _ => none
theorem Zg3 : ∀ {xs : List V} {ns : List Int}, Zjy xs = some ns → xs = ns.map V.int
  | [], ns, h => by cases h; rfl
  | x :: xs, ns, h => by
    cases x with
    | int i =>
      simp only [Zjy] at h
      cases e : Zjy xs with
      | none => rw [e] at h; cases h
      | some ms => rw [e] at h; cases h; rw [Zg3 e]; rfl
    | _ => cases h
theorem Zcg (ns : List Int) : Zjy (ns.map V.int) = some ns := by
  induction ns with
  | nil => rfl
  | cons n ns ih => simp [Zjy, ih]
theorem Zc1 {h : Heap} : ∀ {ns : List Int} {vs : List Value}, VRs g h (ns.map V.int) vs → ∀ (i : Nat) (v : Value), vs[i]? = some v → ∃ t, v = Value.int (ns.getD i 0) t
  | [], vs, a, i, v, e => by rw [Z2 a] at e; cases e
  | n :: ns, vs, a, i, v, e => by
    obtain ⟨u, us, rfl, hu, hus⟩ := Zn a
    cases i with
    | zero => cases e; obtain ⟨t, rfl⟩ := Z9.mp hu; exact ⟨t, rfl⟩
    | succ i => exact Zc1 hus i v (by simpa using e)
theorem Zd0 (bt : Nat → Nat → Bool) : ∀ k, argBest bt k ≤ k
  | 0 => Nat.le_refl _
  | k + 1 => by
    unfold argBest
    split
    · exact Nat.le_refl _
    · exact Nat.le_succ_of_le (Zd0 bt k)
theorem Zib (val : Nat → Int) : ∀ k i, i ≤ k → val i ≤ val (argBest (fun i j => decide (val i > val j)) k)
  | 0, i, h => by have : i = 0 := by exact Zwo h
                  subst this; exact Int.le_refl _
  | k + 1, i, h => by
    have ih := Zib val k
    unfold argBest
    by_cases q : val (k + 1) > val (argBest (fun i j => decide (val i > val j)) k)
    · rw [if_pos (by simpa using q)]
      rcases Nat.lt_or_ge i (k + 1) with w | w
      · have := ih i (by exact Zt9 w); exact Z3s q this
      · have : i = k + 1 := by exact Zt8 h w
        subst this; exact Zwn
    · rw [if_neg (by simpa using q)]
      rcases Nat.lt_or_ge i (k + 1) with w | w
      · exact ih i (by exact Zt9 w)
      · have : i = k + 1 := by exact Zt8 h w
        subst this; exact Z3r q
theorem Zia (val : Nat → Int) : ∀ k i, i ≤ k → val (argBest (fun i j => decide (val i < val j)) k) ≤ val i
  | 0, i, h => by have : i = 0 := by exact Zwo h
                  subst this; exact Int.le_refl _
  | k + 1, i, h => by
    have ih := Zia val k
    unfold argBest
    by_cases q : val (k + 1) < val (argBest (fun i j => decide (val i < val j)) k)
    · rw [if_pos (by simpa using q)]
      rcases Nat.lt_or_ge i (k + 1) with w | w
      · have := ih i (by exact Zt9 w); exact Z3q q this
      · have : i = k + 1 := by exact Zt8 h w
        subst this; exact Zwn
    · rw [if_neg (by simpa using q)]
      rcases Nat.lt_or_ge i (k + 1) with w | w
      · exact ih i (by exact Zt9 w)
      · have : i = k + 1 := by exact Zt8 h w
        subst this; exact Z2l q
noncomputable def Za9 (x : V) (σ : AH) : Option (List Int) := match x with
  | .ref a => match σ a with | some (.list xs) => Zjy xs | _ => none
  | _ => none
noncomputable def Zv5 : TF := fun xs σ Q _ => match xs with
  | [x] => match Za9 x σ with | some ns => ns ≠ [] ∧ ∀ m, m ∈ ns → (∀ n ∈ ns, n ≤ m) → Q (.int m) σ | none => False
  | _ => False
noncomputable def Zwf : TF := fun xs σ Q _ => match xs with
  | [x] => match Za9 x σ with | some ns => ns ≠ [] ∧ ∀ m, m ∈ ns → (∀ n ∈ ns, m ≤ n) → Q (.int m) σ | none => False
  | _ => False
theorem Zea {h : Heap} {σ : AH} {x : V} {v : Value} {ns : List Int} (R : Rel g h σ) (hv : VR g h x v) (e : Za9 x σ = some ns) : ∃ a vs n, v = .ref a ∧ h.get? a = some { cls := .type "list", data := .seq vs n } ∧ VRs g h (ns.map V.int) vs.toList := by
  cases x with
  | ref a =>
    simp only [Za9] at e
    split at e
    · rename_i xs q
      obtain ⟨_, vs, n, ho, hvs⟩ := (R.own a _ q).2
      rw [Zg3 e] at hvs
      exact ⟨a, vs, n, Yi.mp hv, ho, hvs⟩
    · cases e
  | _ => cases e
theorem Zmf {ns : List Int} {k : Nat} (h : k < ns.length) : ns.getD k 0 ∈ ns := by
  rw [List.getD_eq_getElem?_getD, List.getElem?_eq_getElem h]; exact List.getElem_mem h
theorem Zlz {ns : List Int} {n : Int} (h : n ∈ ns) : ∃ i, i < ns.length ∧ ns.getD i 0 = n := by
  obtain ⟨i, hi, e⟩ := List.getElem_of_mem h
  exact ⟨i, hi, by rw [List.getD_eq_getElem?_getD, List.getElem?_eq_getElem hi]; exact e⟩
theorem Zlq : Zfs g r (.builtin "max") Zv5 := .mk fun A s σ xs vs Q E G F Rm R hv h => by
  match xs, hv, h with
  | [x], hv, h =>
    obtain ⟨v, _, rfl, hx, hr⟩ := Zn hv
    rw [Z2 hr]
    simp only [Zv5] at h
    split at h
    · rename_i ns e
      obtain ⟨a, us, n, rfl, ho, hus⟩ := Zea R hx e
      have hlen : ns.length = us.size := by have := Zz hus; simpa using this
      have hpos : 0 < ns.length := List.length_pos_iff.mpr h.1
      have hne : a ≠ s.heap.objs.size := Nat.ne_of_lt (Heap.lt_size ho)
      refine call_max_walk (wpAny_pyIter_list ⟨_, ho, rfl, n, rfl⟩ ?_)
      refine ⟨s.heap.objs.size, _, _, us.size, _, _, _, rfl, Walks.list (by show A.handled = none; exact Rm.calm rfl) _ a hne us, ⟨⟨_, Heap.get?_push_size _ rfl, rfl, rfl⟩, ⟨_, Heap.get?_push_of_some _ ho, rfl, n, rfl⟩⟩, ?_, by exact Z2k hlen hpos,
        CmpOf.ints_gt (fun i => ns.getD i 0) (fun i v q => Zc1 hus i v (by simpa using q)), fun v h' tk q kp => ?_⟩
      · intro b hb
        simp at hb
        rcases hb with rfl | rfl
        · rw [Heap.size_push]; exact Nat.lt_succ_self _
        · rw [Heap.size_push]; exact Nat.lt_succ_of_lt (Heap.lt_size ho)
      · obtain ⟨t, rfl⟩ := Zc1 hus (argBest (fun i j => decide (ns.getD i 0 > ns.getD j 0)) (us.size - 1)) v (by rw [Array.getElem?_toList]; exact q)
        have hb := Zd0 (fun i j => decide (ns.getD i 0 > ns.getD j 0)) (us.size - 1)
        refine .keeps (fun b o e => kp b o (fun hm => ?_) (Heap.get?_push_of_some _ e)) ⟨rfl, rfl, rfl⟩ (Z9.mpr ⟨t, rfl⟩) R (h.2 _ (Zmf (by exact Z2j hlen hpos hb)) fun m hm => ?_)
        · simp at hm; subst hm; rw [Z4] at e; cases e
        · obtain ⟨i, hi, rfl⟩ := Zlz hm
          exact Zib (fun i => ns.getD i 0) (us.size - 1) i (by exact Z2i hlen hpos hi)
    · exact h.elim
  | [], _, h => exact h.elim
  | _ :: _ :: _, _, h => exact h.elim
theorem Zq4 : Zfs g r (.builtin "min") Zwf := .mk fun A s σ xs vs Q E G F Rm R hv h => by
  match xs, hv, h with
  | [x], hv, h =>
    obtain ⟨v, _, rfl, hx, hr⟩ := Zn hv
    rw [Z2 hr]
    simp only [Zwf] at h
    split at h
    · rename_i ns e
      obtain ⟨a, us, n, rfl, ho, hus⟩ := Zea R hx e
      have hlen : ns.length = us.size := by have := Zz hus; simpa using this
      have hpos : 0 < ns.length := List.length_pos_iff.mpr h.1
      have hne : a ≠ s.heap.objs.size := Nat.ne_of_lt (Heap.lt_size ho)
      refine call_min_walk (wpAny_pyIter_list ⟨_, ho, rfl, n, rfl⟩ ?_)
      refine ⟨s.heap.objs.size, _, _, us.size, _, _, _, rfl, Walks.list (by show A.handled = none; exact Rm.calm rfl) _ a hne us, ⟨⟨_, Heap.get?_push_size _ rfl, rfl, rfl⟩, ⟨_, Heap.get?_push_of_some _ ho, rfl, n, rfl⟩⟩, ?_, by exact Z2k hlen hpos,
        CmpOf.ints_lt (fun i => ns.getD i 0) (fun i v q => Zc1 hus i v (by simpa using q)), fun v h' tk q kp => ?_⟩
      · intro b hb
        simp at hb
        rcases hb with rfl | rfl
        · rw [Heap.size_push]; exact Nat.lt_succ_self _
        · rw [Heap.size_push]; exact Nat.lt_succ_of_lt (Heap.lt_size ho)
      · obtain ⟨t, rfl⟩ := Zc1 hus (argBest (fun i j => decide (ns.getD i 0 < ns.getD j 0)) (us.size - 1)) v (by rw [Array.getElem?_toList]; exact q)
        have hb := Zd0 (fun i j => decide (ns.getD i 0 < ns.getD j 0)) (us.size - 1)
        refine .keeps (fun b o e => kp b o (fun hm => ?_) (Heap.get?_push_of_some _ e)) ⟨rfl, rfl, rfl⟩ (Z9.mpr ⟨t, rfl⟩) R (h.2 _ (Zmf (by exact Z2j hlen hpos hb)) fun m hm => ?_)
        · simp at hm; subst hm; rw [Z4] at e; cases e
        · obtain ⟨i, hi, rfl⟩ := Zlz hm
          exact Zia (fun i => ns.getD i 0) (us.size - 1) i (by exact Z2i hlen hpos hi)
    · exact h.elim
  | [], _, h => exact h.elim
  | _ :: _ :: _, _, h => exact h.elim
noncomputable def Zgj : TF := fun xs σ Q _ => match xs with
  | [x] => match Zce x σ with | some vs => ∀ a, σ a = none → Q (.ref a) (σ.set a (.list vs)) | none => False
  | _ => False
theorem Zrc {h : Heap} {σ : AH} {x : V} {v : Value} {xs : List V} (R : Rel g h σ) (hv : VR g h x v) (e : Zce x σ = some xs) : Xv xs.length ∧ ∃ a o T vs n, v = .ref a ∧ (T = "list" ∨ T = "tuple") ∧ h.get? a = some o ∧ o.cls = .type T ∧ o.data = .seq vs n ∧ VRs g h xs vs.toList := by
  cases x with
  | tup ys => obtain ⟨hf, a, o, us, m, rfl, _, ho, hc, hd, hvs⟩ := Wq.mp hv; cases e; exact ⟨hf, a, o, _, us, m, rfl, .inr rfl, ho, hc, hd, hvs⟩
  | frz ys => obtain ⟨hf, a, o, us, m, rfl, ho, hc, hd, hvs⟩ := Zc5.mp hv; cases e; exact ⟨hf, a, o, _, us, m, rfl, .inl rfl, R.base a o ho, hc, hd, hvs⟩
  | ref a =>
    simp only [Zce] at e
    split at e
    · rename_i ys q
      cases e
      obtain ⟨hf, us, n, ho, hvs⟩ := (R.own a _ q).2
      exact ⟨hf, a, _, _, us, n, Yi.mp hv, .inl rfl, ho, rfl, rfl, hvs⟩
    · cases e
  | _ => cases e
theorem Zgm : Zfs g r (.type "list") Zgj := .mk fun A s σ xs vs Q E G F Rm R hv h => by
  match xs, hv, h with
  | [x], hv, h =>
    obtain ⟨v, _, rfl, hx, hr⟩ := Zn hv
    rw [Z2 hr]
    simp only [Zgj] at h
    split at h
    · rename_i ys e
      obtain ⟨hf, a, o, T, us, n, rfl, hT, ho, hc, hd, hus⟩ := Zrc R hx e
      have hlen : ys.length = us.size := by have := Zz hus; simpa using this
      refine call_list_seq a hT ho hc hd (fun h' c' kp hn => ?_) (by rw [← hlen]; exact hf.line)
      refine ⟨.ref _, _, Yi.mpr rfl, R.alloc (ao := .list ys) kp (Z4 _) ⟨hf, us, c', hn, VRs.mono (fun a o _ _ _ e _ _ => .of (kp a o e)) hus⟩, .alloc kp (Z4 _), ⟨rfl, rfl, rfl⟩, h _ (R.fresh (Z4 _))⟩
    · exact h.elim
  | [], _, h => exact h.elim
  | _ :: _ :: _, _, h => exact h.elim
inductive TyK where
  | int
  | bool
  | str
  | tuple
  | list
  | dict
noncomputable def TyK.name : TyK → String
  | .int => "int"
  | .bool => "bool"
  | .str => "str"
  | .tuple => "tuple"
  | .list => "list"
  | .dict => "dict"
noncomputable def Zn3 (k : TyK) (v : V) (σ : AH) : Option Bool := match v with
  | .int _ => (match k with | .int => some true | .bool => some false | _ => none)
  | .tup _ => (match k with | .tuple => some true | .list => some false | _ => none)
  | .ref a => match σ a with
    | some (.list _) => (match k with | .list => some true | .tuple => some false | _ => none)
    | _ => none
  | .str _ => (match k with | .str => some true | _ => none)
  | _ => none
noncomputable def Zqv (k : TyK) (t : TE) : TE := fun ℓ σ Q E => t ℓ σ (fun v σ₁ => match Zn3 k v σ₁ with | some b => Q (.bool b) σ₁ | none => False) E
theorem Zvd {A : Around} {E : Value → Shared → Prop} {s : Shared} {σ : AH} {k : TyK} {x : V} {v : Value} {b : Bool} {Q : V → AH → Prop} (R : Rel g s.heap σ) (hx : VR g s.heap x v) (e : Zn3 k x σ = some b) (h : Q (.bool b) σ) :
    wpAny (model g.prog g.w) A (call (.builtin "isinstance") [v, .type k.name]) (Zbj g s σ Q) E s := by
  have key : ∀ tk, Zbj g s σ Q (.bool b) { s with toks := tk } := fun tk => Zbl R rfl ⟨rfl, rfl, rfl⟩ (Wo.mpr rfl) h
  have key0 : Zbj g s σ Q (.bool b) s := key s.toks
  cases x with
  | int i =>
    obtain ⟨t, rfl⟩ := Z9.mp hx
    cases k <;> cases e
    · exact IsiPair.int_int key0
    · exact IsiPair.int_bool (key _)
  | tup ys =>
    obtain ⟨_, a, o, us, m, rfl, _, ho, hc, hd, _⟩ := Wq.mp hx
    cases k <;> cases e
    · exact IsiPair.tuple_tuple ho hc key0
    · exact IsiPair.tuple_list ho hc (key _)
  | ref a =>
    rw [Yi.mp hx]
    simp only [Zn3] at e
    split at e
    · rename_i ys q
      obtain ⟨_, us, n, ho, _⟩ := (R.own a _ q).2
      cases k <;> cases e
      · exact IsiPair.list_tuple ho rfl (key _)
      · exact IsiPair.list_list ho rfl key0
    · cases e
  | str y =>
    obtain ⟨_, t, rfl⟩ := Y9.mp hx
    cases k <;> cases e
    exact IsiPair.str_str key0
  | _ => cases e
theorem Yk {k : TyK} {e : Expr} {p p' pos : Pos} {t : TE} (hm : (Str.ofString "isinstance", NameKind.globalImplicit) ∈ sc.names) (hb : Wn g "isinstance" (.builtin "isinstance")) (hm' : (Str.ofString k.name, NameKind.globalImplicit) ∈ sc.names) (hb' : Wn g k.name (.type k.name))
    (h1 : Xy g sc r true e t) (hs : Zfy e = false) :
    Xy g sc r true (.Call (.Name (Str.ofString "isinstance") p) [e, .Name (Str.ofString k.name) p'] [] pos) (Zqv k t) := .mk fun A env s ℓ σ Q E X h => by
  show wpAny _ A (do callWith pos (← eval (.Name (Str.ofString "isinstance") p) env) [] (backTo pos (starEach [e, .Name (Str.ofString k.name) p'] env)) (backToKw pos (keywordEach [] env))) _ _ s
  refine wpAny_bind (X7 X hm hb ?_)
  rw [Xe env hs, Xe (es := []) env rfl]
  refine X8 (.inr (.inl ⟨_, rfl⟩)) rfl ?_
  show wpAny _ A (spliced [(false, eval e env), (false, eval (.Name (Str.ofString k.name) p') env)]) _ _ s
  refine Calls.spliced_cons (wpAny_mono (h1.run A env s ℓ σ _ E X h) (fun v s₁ p => ?_) fun _ _ p => p)
  refine Za3.elim p fun x σ₁ hv hR hx hs1 hq => ?_
  refine Calls.spliced_cons (X7 (X.step hR hx) hm' hb' (Calls.spliced_nil ⟨fun a o e => hR.base a o e, ?_⟩))
  split at hq
  · rename_i b e
    exact Zbd hx hs1 (Zvd hR hv e hq)
  · exact hq.elim
end
section
open PySem PyProof.Rows
variable {g : Gr} {sc csc : Scope} {r : Nat} {c : Bool}
theorem Zdg {s s₁ : Shared} {σ σ₁ : AH} {Q : List V → (AH → Prop) → Bool → AH → Prop} {items : List V} {inv : AH → Prop} {St : Nat → Heap → Prop} {tup : Bool} {o : Obj} (hR : Rel g s₁.heap σ₁) (hx : Ext No s.heap σ s₁.heap σ₁) (hs : Zbo s s₁)
    (IT : Zhj g items inv s₁.heap.objs.size (· = s₁.heap.objs.size) St tup) (hst : St 0 (s₁.heap.push o)) (hf : Xv items.length) (hq : Q items inv tup σ₁) : Zsa g s σ Q (.ref s₁.heap.objs.size) { s₁ with heap := s₁.heap.push o } := by
  have kp := Xg s₁.heap o
  refine ⟨items, inv, _, _, St, tup, σ₁, rfl, IT, hst, hR.keeps kp, hx.trans (.keeps kp), hs.trans ⟨rfl, rfl, rfl⟩, fun a e => ?_, hf, hq⟩
  subst e
  refine ⟨?_, hR.fresh (Z4 _)⟩
  cases e : s.heap.get? s₁.heap.objs.size with
  | none => rfl
  | some o => obtain ⟨o', e'⟩ := hx.pres _ o e; rw [Z4] at e'; cases e'
noncomputable def Zah (x : V) (σ : AH) (Q : List V → (AH → Prop) → Bool → AH → Prop) : Prop := match x with
  | .tup xs => Q xs (fun _ => True) false σ
  | .ref a => match σ a with
    | some (.list xs) => Q xs (fun σ => σ a = some (.list xs)) false σ
    | _ => False
  | _ => False
noncomputable def Zap (t : TE) : TI := fun ℓ σ Q E => t ℓ σ (fun x σ₁ => Zah x σ₁ Q) E
theorem Z3 {e : Expr} {t : TE} (h1 : Xy g sc r c e t) : Zt1 g sc r c e (Zap t) := .mk fun A env s ℓ σ Q E X h => by
  refine wpAny_mono (h1.run A env s ℓ σ _ E X h) (fun v s₁ p => ?_) fun _ _ p => p
  refine Za3.elim p fun x σ₁ hv hR hx hs hq => ?_
  cases x with
  | tup xs =>
    obtain ⟨hf, a, o, us, m, rfl, nh, ho, hc, hd, hvs⟩ := Wq.mp hv
    refine wpAny_pyIter_tuple ⟨o, ho, hc, m, hd⟩ (Zdg hR hx hs (Zk0 a _ xs) ⟨⟨_, Heap.get?_push_size _ rfl, rfl, rfl⟩, ?_⟩ hf hq)
    exact VR.mono (fun a o _ _ _ e _ _ => .of (Xg _ _ a o e)) hv
  | ref a =>
    rw [Yi.mp hv]
    simp only [Zah] at hq
    split at hq
    · rename_i xs e
      obtain ⟨hf, us, n, ho, hvs⟩ := (hR.own a _ e).2
      exact wpAny_pyIter_list ⟨_, ho, rfl, n, rfl⟩ (Zdg hR hx hs (Znn a _ xs) ⟨_, Heap.get?_push_size _ rfl, rfl, rfl⟩ hf hq)
    · exact hq.elim
  | _ => exact hq.elim
noncomputable def Zae (t : TE) : TI := fun ℓ σ Q E => t ℓ σ (fun x σ₁ => match x with | .int n => 0 ≤ n ∧ Xv n.toNat ∧ Q (X9 0 n.toNat) (fun _ => True) false σ₁ | _ => False) E
theorem Zna {A : Around} {s s₁ : Shared} {σ σ₁ : AH} {Q : List V → (AH → Prop) → Bool → AH → Prop} {E : Value → Shared → Prop} {lo hi : Int} {rr : Addr} {t u v : Tok} (hr : IsRange s₁.heap rr lo hi 1 t u v) (hlo : -(2 ^ 62) ≤ lo ∧ lo < 2 ^ 62) (hhi : -(2 ^ 62) ≤ hi ∧ hi < 2 ^ 62) (hR : Rel g s₁.heap σ₁) (hx : Ext No s.heap σ s₁.heap σ₁) (hs : Zbo s s₁)
    (hf : Xv (hi - lo).toNat) (hq : Q (X9 lo (hi - lo).toNat) (fun _ => True) false σ₁) : wpAny (model g.prog g.w) A (pyIter (.ref rr)) (Zsa g s σ Q) E s₁ := by
  refine wpAny_pyIter_range hr (small_one hlo.1 hlo.2 hhi.1 hhi.2) (Zdg hR hx hs (Zk1 _ lo (hi - lo).toNat) ?_ (by simpa [X9] using hf) hq)
  have hsz : Builtin.Range.rangeSize lo hi 1 = (((hi - lo).toNat : Nat) : Int) := by rw [rangeSize_one]; split <;> omega
  have e1 : lo + ((0 : Nat) : Int) = lo := by simp
  have e2 : (((hi - lo).toNat : Nat) : Int) - ((0 : Nat) : Int) = Builtin.Range.rangeSize lo hi 1 := by rw [hsz]; simp
  show IsRangeIter _ _ (lo + ((0 : Nat) : Int)) ((((hi - lo).toNat : Nat) : Int) - ((0 : Nat) : Int)) 1
  rw [e1, e2]
  exact Heap.get?_push_size _ rfl
theorem Yv {e : Expr} {p pos : Pos} {t : TE} (hm : (Str.ofString "range", NameKind.globalImplicit) ∈ sc.names) (hb : Wn g "range" (.type "range")) (h1 : Xy g sc r c e t) (hs : Zfy e = false) :
    Zt1 g sc r c (.Call (.Name (Str.ofString "range") p) [e] [] pos) (Zae t) := .mk fun A env s ℓ σ Q E X h => by
  show wpAny _ A (do callWith pos (← eval (.Name (Str.ofString "range") p) env) [] (backTo pos (starEach [e] env)) (backToKw pos (keywordEach [] env))) _ _ s
  refine wpAny_bind (X7 X hm hb ?_)
  rw [Xe (es := []) env hs]
  refine X8 (.inr (.inr ⟨_, rfl⟩)) rfl ?_
  show wpAny _ A (spliced [(false, eval e env)]) _ _ s
  refine Calls.spliced_cons (wpAny_mono (h1.run A env s ℓ σ _ E X h) (fun v s₁ p => ?_) fun _ _ p => p)
  refine Za3.elim p fun x σ₁ hv hR hx hs1 hq => ?_
  refine Calls.spliced_nil ⟨fun a o e => hR.base a o e, ?_⟩
  cases x with
  | int n =>
    obtain ⟨t, rfl⟩ := Z9.mp hv
    refine call_range_1 ?_
    have kp := Xg s₁.heap { cls := .type "range", data := .fields #[.int 0 s₁.toks, .int n t, .int 1 (s₁.toks + 1)] }
    have hn : n.toNat ≤ 1000000 := hq.2.1
    have hz : (n - 0).toNat = n.toNat := by simp
    exact Zna (lo := 0) (hi := n) (IsRange.new ..) (by decide) ⟨by have := hq.1; omega, by have := hq.1; exact Z3p hn hz⟩ (hR.keeps kp) (hx.trans (.keeps kp)) (hs1.trans ⟨rfl, rfl, rfl⟩) (hz ▸ hq.2.1) (hz ▸ hq.2.2)
  | _ => exact hq.elim
noncomputable def Zob (x : V) (σ : AH) : Option String := match x with
  | .ref a => match σ a with
    | some (.list _) => some "list"
    | some (.dictI _ _) => some "dict"
    | some (.dictS _ _) => some "dict"
    | some (.dictT _ _) => some "dict"
    | _ => none
  | .str _ => some "str"
  | _ => none
theorem Zig {s : Shared} {σ : AH} {x : V} {v : Value} {T : String} (R : Rel g s.heap σ) (hv : VR g s.heap x v) (e : Zob x σ = some T) : s.TypeIs v T ∧ ∀ a, v = .ref a → ∃ ob, s.heap.get? a = some ob ∧ ob.dict = none := by
  cases x with
  | str y => obtain ⟨_, t, rfl⟩ := Y9.mp hv; cases e; exact ⟨typeIs_str s y t, fun a q => nomatch q⟩
  | ref a =>
    rw [Yi.mp hv]
    simp only [Zob] at e
    split at e <;> first | cases e | skip
    · rename_i ys q
      obtain ⟨_, us, n, ho, _⟩ := (R.own a _ q).2
      exact ⟨⟨_, ho, rfl⟩, fun b q => by cases q; exact ⟨_, ho, rfl⟩⟩
    all_goals
      rename_i kvs ep q
      obtain ⟨_, us, ⟨o, es, ho, hc, _⟩, _⟩ := (R.own a _ q).2
      exact ⟨⟨_, ho, hc.1⟩, fun b q => by cases q; exact ⟨_, ho, hc.2.1⟩⟩
  | _ => cases e
noncomputable def Zga (k : TyK) (x : V) (σ : AH) : Prop := match x with
  | .ref a => match σ a with
    | some (.list _) => (match k with | .list => True | _ => False)
    | some (.dictI _ _) => (match k with | .dict => True | _ => False)
    | some (.dictS _ _) => (match k with | .dict => True | _ => False)
    | some (.dictT _ _) => (match k with | .dict => True | _ => False)
    | _ => False
  | .str _ => (match k with | .str => True | _ => False)
  | _ => False
theorem Zjd {k : TyK} {x : V} {σ : AH} (h : Zga k x σ) : Zob x σ = some k.name := by
  unfold Zga at h
  split at h
  · split at h <;> first | exact h.elim | (rename_i q; simp only [Zob, q]; cases k <;> first | exact h.elim | rfl)
  · cases k <;> first | exact h.elim | rfl
  · exact h.elim
noncomputable def Xf (T : TyK) (t : TF) (to : TE) (ts : TL) : TE := fun ℓ σ Q E => to ℓ σ (fun o σ₁ => Zga T o σ₁ ∧ ts ℓ σ₁ (fun vs σ₂ => t (o :: vs) σ₂ Q E) E) E
noncomputable def Ze1 : Expr → Bool
  | .Call .. => true
  | _ => false
theorem Zdz {o : Expr} {name : Str} {env : Env} (h : Ze1 o = false) : attributeBase o name env (eval o env) = eval o env := by
  cases o <;> first | rfl | cases h
theorem Ze3 {args : List Expr} {pos : Pos} {env : Env} (hp : Zef args) (hf : decide (args.length < 30) = true) : ((backTo pos (starEach args env)).all (fun x => !x.1) && (backToKw pos (keywordEach [] env)).all (fun x => x.1.isSome) && decide (args.length + ([] : List Keyword).length + (if ([] : List Keyword).isEmpty then 0 else 1) < 30)) = true := by
  have h1 : (backTo pos (starEach args env)).all (fun x => !x.1) = true := by
    have := Wz hp pos env
    rw [List.all_eq_true]
    intro x hx
    have := List.any_eq_false.mp this x hx
    simpa using this
  have h2 : (backToKw pos (keywordEach [] env)).all (fun x => x.1.isSome) = true := rfl
  rw [h1, h2]
  simpa using hf
theorem Zcq {o : Expr} {name : Str} {apos pos : Pos} {args : List Expr} {T : TyK} {id : String} {t : TF} {to : TE} {ts : TL} (pa : PlainAttrs T.name) (slot : Slot T.name name id) (hty : typeOf (.builtin id) = pure (.type "method_descriptor")) (hF : Zfs g r (.builtin id) t)
    (ho : Xy g sc r true o to) (hL : Zml g sc r true args ts) (hp : Zef args) (hbase : Ze1 o = false) (hfew : decide (args.length < 30) = true)
    (hline : (apos.endLine == pos.line) = true) : Xy g sc r true (.Call (.Attribute o name apos) args [] pos) (Xf T t to ts) := .mk fun A env s ℓ σ Q E X h => by
  refine wpAny_Call_method (Zdz hbase) (Ze3 hp hfew) hline pa slot hty (wpAny_mono (ho.run A env s ℓ σ _ E X h) (fun v s₁ p => ?_) fun _ _ p => p)
  obtain ⟨x, σ₁, hv, hR, hx, hs1, hT, hq⟩ := p
  have X1 := X.step hR hx
  refine ⟨(Zig hR hv (Zjd hT)).1, (Zig hR hv (Zjd hT)).2, ?_⟩
  refine X8 (.inr (.inl ⟨_, rfl⟩)) (Wz hp pos env) (wpAny_mono (hL.run A env pos s₁ ℓ σ₁ _ E X1 hq) (fun vs s₂ p => ?_) fun _ _ p => p.back hx hs1)
  refine Za3.elim p fun xs σ₂ hvs hR2 hx2 hs2 hq => ?_
  have X2 := X1.step hR2 hx2
  exact ⟨fun a o e => hR2.base a o e, Zbd (hx.trans hx2) (hs1.trans hs2) (hF.run A s₂ σ₂ (x :: xs) (v :: vs) Q E X.gok X2.fr.frl X2.room hR2 (Ys (hx2.vr hR Xo hv) hvs) hq)⟩
noncomputable def Wr : TF := fun xs σ Q _ => match xs with
  | [.ref a, x] => match σ a with | some (.list ys) => Xv (ys.length + 1) ∧ Q .none (σ.set a (.list (ys ++ [x]))) | _ => False
  | _ => False
theorem Zjs {s : Shared} {σ : AH} {Q : V → AH → Prop} {a : Addr} {ys zs : List V} {us : Array Value} {n : Nat} {h' : Heap} {v : Value} {x : V} (R : Rel g s.heap σ) (e : σ a = some (.list ys)) (hf : Xv zs.length) (ho' : h'.get? a = some { cls := .type "list", data := .seq us n })
    (sb : Heap.SameBut a s.heap h') (hvs : VRs g s.heap zs us.toList) (hv : VR g s.heap x v) (h : Q x (σ.set a (.list zs))) {tk : Nat} : Zbj g s σ Q v { s with heap := h', toks := tk } := by
  obtain ⟨o₀, e₀, c₀⟩ := Zby (R.own a _ e).2
  have tk : Y2 g s.heap h' := fun b o us m _ q cc d => by
    refine .of (sb.extBut b o (fun z => ?_) q)
    subst z; rw [e₀] at q; cases q; exact c₀ _ _ cc d
  exact ⟨x, _, VR.mono tk hv, R.upd (ao' := .list zs) e sb ⟨hf, us, n, ho', VRs.mono tk hvs⟩, .upd e sb ⟨_, ho'⟩, ⟨rfl, rfl, rfl⟩, h⟩
theorem Zkr : Zfs g r (.builtin "list.append") Wr := .mk fun A s σ xs vs Q E G F Rm R hv h => by
  unfold Wr at h
  split at h
  · rename_i a x
    obtain ⟨v, _, rfl, ha, hr⟩ := Zn hv
    obtain ⟨u, _, rfl, hx, hr⟩ := Zn hr; clear hr
    rw [Z2 hr, Yi.mp ha]
    split at h
    · rename_i ys e
      obtain ⟨hf, us, n, ho, hvs⟩ := (R.own a _ e).2
      have hlen : ys.length = us.size := by have := Zz hvs; simpa using this
      refine wpAny_list_append_plain ⟨n, ho⟩ (fun h' hpl sb => ?_) (by rw [← hlen]; exact hf.line)
      obtain ⟨m, ho'⟩ := hpl
      exact Zjs R e (by simpa using h.1) ho' sb (by rw [Array.toList_push]; exact Zmj hvs hx) (W6.mpr rfl) h.2
    · exact h.elim
  · exact h.elim
noncomputable def Zjg : TF := fun xs σ Q _ => match xs with
  | [x, .int k] => match Za9 x σ with | some ns => Q (.int (ns.count k : Nat)) σ | none => False
  | _ => False
theorem Zch {h : Heap} : ∀ {ns : List Int} {vs : List Value}, VRs g h (ns.map V.int) vs → IntsAre vs ns
  | [], vs, a => by rw [Z2 a]; exact .nil
  | n :: ns, vs, a => by
    obtain ⟨u, us, rfl, hu, hus⟩ := Zn a
    obtain ⟨t, rfl⟩ := Z9.mp hu
    exact .cons n t (Zch hus)
theorem Zm0 : Zfs g r (.builtin "list.count") Zjg := .mk fun A s σ xs vs Q E G F Rm R hv h => by
  unfold Zjg at h
  split at h
  · rename_i x k
    obtain ⟨v, _, rfl, hx, hr⟩ := Zn hv
    obtain ⟨u, _, rfl, hk, hr2⟩ := Zn hr
    obtain ⟨t, rfl⟩ := Z9.mp hk
    rw [Z2 hr2]
    split at h
    · rename_i ns e
      obtain ⟨a, us, n, rfl, ho, hus⟩ := Zea R hx e
      exact count_list_ints ⟨_, ho, rfl, n, rfl⟩ (Zch hus) (Zbl R rfl ⟨rfl, rfl, rfl⟩ (Z9.mpr ⟨_, rfl⟩) h)
    · exact h.elim
  · exact h.elim
end
section
open PySem PyProof.Rows
variable {g : Gr} {sc csc : Scope} {r : Nat} {c : Bool}
theorem Za4 {x : Str} (h : x.length ≤ 1000000) : Xv x.length := h
section
variable {o : Expr} {apos pos : Pos} {args : List Expr} {to : TE} {ts : TL}
theorem Za0 (ho : Xy g sc r true o to) (hL : Zml g sc r true args ts) (hp : Zef args) (hbase : Ze1 o = false) (hfew : decide (args.length < 30) = true)
    (hline : (apos.endLine == pos.line) = true) : Xy g sc r true (.Call (.Attribute o (Str.ofString "append") apos) args [] pos) (Xf .list Wr to ts) :=
  Zcq (T := .list) F.plainAttrs_list F.slot_list_append F.type_list_append Zkr ho hL hp hbase hfew hline
theorem Zsh (ho : Xy g sc r true o to) (hL : Zml g sc r true args ts) (hp : Zef args) (hbase : Ze1 o = false) (hfew : decide (args.length < 30) = true)
    (hline : (apos.endLine == pos.line) = true) : Xy g sc r true (.Call (.Attribute o (Str.ofString "count") apos) args [] pos) (Xf .list Zjg to ts) :=
  Zcq (T := .list) F.plainAttrs_list F.slot_list_count F.type_list_count Zm0 ho hL hp hbase hfew hline
end
noncomputable def nth {α : Type} : List α → Nat → Option α
  | [], _ => none
  | a :: _, 0 => some a
  | _ :: l, i + 1 => nth l i
theorem at_ {α : Type} : ∀ {l : List α} {i : Nat} {x : α}, nth l i = some x → x ∈ l
  | _ :: _, 0, _, h => by cases h; exact .head _
  | _ :: _, _ + 1, _, h => .tail _ (at_ h)
theorem Zph {vs : List Value} (h : vs.length = 1) : ∃ a, vs = [a] := List.length_eq_one_iff.mp h
theorem Zrn {vs : List Value} (h : vs.length = 2) : ∃ a b, vs = [a, b] := by
  cases vs with
  | nil => cases h
  | cons a l => obtain ⟨b, rfl⟩ := Zph (Nat.succ.inj h); exact ⟨_, _, rfl⟩
theorem Zpg {vs : List Value} (h : vs.length = 3) : ∃ a b c, vs = [a, b, c] := by
  cases vs with
  | nil => cases h
  | cons a l => obtain ⟨b, c, rfl⟩ := Zrn (Nat.succ.inj h); exact ⟨_, _, _, rfl⟩
theorem Zqw {vs : List Value} (h : vs.length = 4) : ∃ a b c d, vs = [a, b, c, d] := by
  cases vs with
  | nil => cases h
  | cons a l => obtain ⟨b, c, d, rfl⟩ := Zpg (Nat.succ.inj h); exact ⟨_, _, _, _, rfl⟩
theorem Zuc {vs : List Value} (h : vs.length = 5) : ∃ a b c d e, vs = [a, b, c, d, e] := by
  cases vs with
  | nil => cases h
  | cons a l => obtain ⟨b, c, d, e, rfl⟩ := Zqw (Nat.succ.inj h); exact ⟨_, _, _, _, _, rfl⟩
theorem Z2q {vs : List Value} (h : vs.length = 6) : ∃ a b c d e f, vs = [a, b, c, d, e, f] := by
  cases vs with
  | nil => cases h
  | cons a l => obtain ⟨b, c, d, e, f, rfl⟩ := Zuc (Nat.succ.inj h); exact ⟨_, _, _, _, _, _, rfl⟩
theorem Zj2 {mg : Str → Option Value} {o : Obj} {es : Array DictEntry} {ep : Nat} {n : String} {v : Value} (hN : g.b0.Ns mainGlobals mg) (h3 : g.b0.get? mainGlobals = some o) (hd : o.data = .dict es ep) (e : nsFind es (Str.ofString n) = some v) : Wn g n v := by
  obtain ⟨o', es', ep', ho, hd', hk, hf⟩ := id hN
  rw [h3] at ho; cases ho
  rw [hd] at hd'; cases hd'
  exact .inl ⟨mg, hN, (hf _).symm.trans e⟩
theorem Zbw {mg mb : Str → Option Value} {o : Obj} {es : Array DictEntry} {ep : Nat} {n : String} {v : Value} (hN : g.b0.Ns mainGlobals mg) (h3 : g.b0.get? mainGlobals = some o) (hd : o.data = .dict es ep) (e : nsFind es (Str.ofString n) = none)
    (hB : g.b0.Ns builtinsNs mb) (hb : ∀ x : Str, x ≠ "__name__" → mb x = bootBuiltins x) (hn : Str.ofString n ≠ "__name__") (hv : bootBuiltins (Str.ofString n) = some v) : Wn g n v := by
  obtain ⟨o', es', ep', ho, hd', hk, hf⟩ := id hN
  rw [h3] at ho; cases ho
  rw [hd] at hd'; cases hd'
  exact .inr ⟨mg, mb, hN, (hf _).symm.trans e, hB, (hb _ hn).trans hv⟩
theorem Zy {n id : String} {t : TF} (h : Wn g n (.builtin id)) (hF : Zfs g r (.builtin id) t) : FnG g n r t := ⟨_, h, .inr (.inl ⟨_, rfl⟩), hF⟩
theorem Zdl {n id : String} {t : TF} (h : Wn g n (.type id)) (hF : Zfs g r (.type id) t) : FnG g n r t := ⟨_, h, .inr (.inr ⟨_, rfl⟩), hF⟩
theorem Wh {n : String} {a : Addr} {o : Obj} {fd : FuncData} {t : TF} (h : Wn g n (.ref a)) (ho : g.b0.get? a = some o) (hd : o.data = .func fd) (hF : Zfs g r (.ref a) t) : FnG g n r t := ⟨_, h, .inl ⟨a, o, fd, rfl, ho, hd⟩, hF⟩
theorem Zq {h : Heap} {c : Addr} {oc : Obj} {vs : Array Value} {tq : Tok} {q : Str} (hoc : h.get? c = some oc) (hd : oc.data = .fields vs) (hq : vs[1]? = some (.str q tq)) : h.CodeRec (.ref c) q := ⟨c, oc, vs, tq, rfl, hoc, hd, hq⟩
end
section
open PySem PyProof.Rows
theorem Zd {σ : AH} {a : Addr} {o : AO} : (σ.set a o) a = some o := if_pos rfl
theorem Zf {σ : AH} {a b : Addr} {o : AO} (h : b ≠ a) : (σ.set a o) b = σ b := if_neg h
noncomputable def Sub (σ σ' : AH) : Prop := ∀ a o, σ a = some o → σ' a = some o
theorem Sub.refl {σ : AH} : Sub σ σ := fun _ _ h => h
theorem Sub.trans {σ σ' σ'' : AH} (x : Sub σ σ') (y : Sub σ' σ'') : Sub σ σ'' := fun a o h => y a o (x a o h)
theorem Sub.new {σ σ' : AH} {a : Addr} {o : AO} (x : Sub σ σ') (h : σ' a = none) : Sub σ (σ'.set a o) := fun b p e => by
  have e' := x b p e
  rw [Zf fun z => by rw [z, h] at e'; cases e']
  exact e'
theorem Sub.upd {σ σ' : AH} {a : Addr} {o : AO} (x : Sub σ σ') (h : σ a = none) : Sub σ (σ'.set a o) := fun b p e => by
  rw [Zf fun z => by rw [z, h] at e; cases e]
  exact x b p e
theorem Sub.none {σ σ' : AH} {a : Addr} (x : Sub σ σ') (h : σ' a = Option.none) : σ a = Option.none := by
  cases e : σ a with
  | none => rfl
  | some o => rw [x a o e] at h; cases h
theorem Z1x {σ : AH} {a b : Addr} {o : AO} (h : σ a = some o) (k : σ b = none) : a ≠ b := fun z => by rw [z, k] at h; cases h
theorem Zl {σ : AH} {a b : Addr} {o p : AO} (h : σ a = some o) (k : σ b = none) : (σ.set b p) a = some o := by rw [Zf (Z1x h k)]; exact h
theorem Zjr {t : Tgt} {inv : AH → Prop} {tb : TS} {Q : Fl → Loc → AH → Prop} {E : Addr → Loc → AH → Prop} (I : List V → Loc → AH → Prop) (h0 : ∀ ℓ σ, I [] ℓ σ → inv σ ∧ Q .next ℓ σ)
    (h1 : ∀ x xs ℓ σ, (∀ ℓ' σ', I xs ℓ' σ' → Zbh t inv tb xs ℓ' σ' Q E) → I (x :: xs) ℓ σ → inv σ ∧ Xd t x ℓ σ fun ℓ₁ => tb ℓ₁ σ (fun f ℓ₂ σ₂ => match f with
      | .next => Zbh t inv tb xs ℓ₂ σ₂ Q E
      | .cont => Zbh t inv tb xs ℓ₂ σ₂ Q E
      | .brk => Q .next ℓ₂ σ₂
      | .ret v => Q (.ret v) ℓ₂ σ₂) E) : ∀ xs ℓ σ, I xs ℓ σ → Zbh t inv tb xs ℓ σ Q E
  | [], ℓ, σ, h => h0 ℓ σ h
  | x :: xs, ℓ, σ, h => h1 x xs ℓ σ (fun ℓ' σ' h' => Zjr I h0 h1 xs ℓ' σ' h') h
theorem Zkb {α : Type} {t : Tgt} {inv : AH → Prop} {tifs : TB} {telt : TE} {ℓ : Loc} {σ : AH} {Q : List V → AH → Prop} {E : Addr → AH → Prop} (f : α → V) (p : α → Bool) (F : α → V) (hinv : inv σ) :
    ∀ (xs : List α) (acc : List V), (∀ x ∈ xs, ∃ ℓ₁, (∀ P : Loc → Prop, P ℓ₁ → Xd t (f x) ℓ.bare σ P) ∧ (∀ Qb, Qb (p x) σ → tifs ℓ₁ σ Qb E) ∧ (p x = true → ∀ Qv, Qv (F x) σ → telt ℓ₁ σ Qv E)) →
      Q (acc ++ (xs.filter p).map F) σ → Ze5 t inv tifs telt ℓ (xs.map f) acc σ Q E
  | [], acc, _, h => ⟨hinv, by simpa using h⟩
  | x :: xs, acc, hs, h => by
    obtain ⟨ℓ₁, h1, h2, h3⟩ := hs x (.head _)
    have ih := Zkb (t := t) (inv := inv) (tifs := tifs) (telt := telt) (ℓ := ℓ) (E := E) (Q := Q) f p F hinv xs
    refine ⟨hinv, h1 _ (h2 _ ?_)⟩
    cases e : p x with
    | true =>
      refine h3 e _ (ih _ (fun y hy => hs y (.tail _ hy)) ?_)
      rw [List.filter_cons_of_pos (by simpa using e)] at h
      simpa using h
    | false =>
      refine ih _ (fun y hy => hs y (.tail _ hy)) ?_
      rw [List.filter_cons_of_neg (by simp [e])] at h
      exact h
theorem Zkv {lo : Int} {n i : Nat} (h : i < n) : (X9 lo n).drop i = .int (lo + (i : Int)) :: (X9 lo n).drop (i + 1) := by
  have hl : i < (X9 lo n).length := by simpa [X9] using h
  rw [List.drop_eq_getElem_cons hl]
  simp [X9]
theorem Znb {lo : Int} {n : Nat} : (X9 lo n).drop n = [] := List.drop_eq_nil_of_le (by simp [X9])
theorem Zkx {t : Tgt} {inv : AH → Prop} {tb : TS} {Q : Fl → Loc → AH → Prop} {E : Addr → Loc → AH → Prop} {n : Nat} (I : Nat → Loc → AH → Prop) (h0 : ∀ ℓ σ, I n ℓ σ → inv σ ∧ Q .next ℓ σ)
    (h1 : ∀ i ℓ σ, i < n → (∀ ℓ' σ', I (i + 1) ℓ' σ' → Zbh t inv tb ((X9 0 n).drop (i + 1)) ℓ' σ' Q E) → I i ℓ σ → inv σ ∧ Xd t (.int (i : Int)) ℓ σ fun ℓ₁ => tb ℓ₁ σ (fun f ℓ₂ σ₂ => match f with
      | .next => Zbh t inv tb ((X9 0 n).drop (i + 1)) ℓ₂ σ₂ Q E
      | .cont => Zbh t inv tb ((X9 0 n).drop (i + 1)) ℓ₂ σ₂ Q E
      | .brk => Q .next ℓ₂ σ₂
      | .ret v => Q (.ret v) ℓ₂ σ₂) E) {ℓ : Loc} {σ : AH} (h : I 0 ℓ σ) : Zbh t inv tb (X9 0 n) ℓ σ Q E := by
  have key : ∀ k i ℓ σ, n - i = k → i ≤ n → I i ℓ σ → Zbh t inv tb ((X9 0 n).drop i) ℓ σ Q E := by
    intro k
    induction k with
    | zero =>
      intro i ℓ σ hk hi h
      have : i = n := by exact Z3o hk hi
      subst this
      rw [Znb]
      exact h0 ℓ σ h
    | succ k ih =>
      intro i ℓ σ hk hi h
      have hlt : i < n := by exact Z3n hk hi
      rw [Zkv hlt]
      have := h1 i ℓ σ hlt (fun ℓ' σ' h' => ih (i + 1) ℓ' σ' (by exact Z3m hk hlt) hlt h') h
      rw [show (0 : Int) + (i : Int) = (i : Int) by exact Z3l]
      exact this
  simpa using key n 0 ℓ σ (by exact Z3k) (by exact Z2h) h
theorem Zp3 (i : Nat) {α : Type} (f : α → Int) (xs : List α) (k : Int) : (xs.map f).count k = (xs.filter fun o => f o == k).length := by
  rw [List.count_eq_countP, List.countP_map, List.countP_eq_length_filter]; rfl
theorem Zh4 {α : Type} (xs : List α) : xs.filter (fun _ => true) = xs := by
  induction xs with
  | nil => rfl
  | cons x xs ih => rw [List.filter_cons_of_pos rfl, ih]
theorem Zfp {α : Type} {t : Tgt} {inv : AH → Prop} {telt : TE} {ℓ : Loc} {σ : AH} {Q : List V → AH → Prop} {E : Addr → AH → Prop} (f : α → V) (F : α → V) (hinv : inv σ) (xs : List α)
    (hs : ∀ x ∈ xs, ∃ ℓ₁, (∀ P : Loc → Prop, P ℓ₁ → Xd t (f x) ℓ.bare σ P) ∧ ∀ Qv, Qv (F x) σ → telt ℓ₁ σ Qv E) (h : Q (xs.map F) σ) : Ze5 t inv (Wd true) telt ℓ (xs.map f) [] σ Q E :=
  Zkb f (fun _ => true) F hinv xs [] (fun x hx => let ⟨ℓ₁, h1, h2⟩ := hs x hx; ⟨ℓ₁, h1, fun _ h => h, fun _ => h2⟩) (by rw [Zh4]; exact h)
theorem Yu {ps : List String} {tb : TS} {xs : List V} {σ : AH} {Q : V → AH → Prop} {E : Addr → AH → Prop} (hl : xs.length = ps.length)
    (h : ∀ (K : Fl → Loc → AH → Prop) (KE : Addr → Loc → AH → Prop), (∀ v ℓ' σ' σ'', Sub σ'' σ' → Q v σ'' → K (.ret v) ℓ' σ') → (∀ ℓ' σ' σ'', Sub σ'' σ' → Q .none σ'' → K .next ℓ' σ') → (∀ C ℓ' σ' σ'', Sub σ'' σ' → E C σ'' → KE C ℓ' σ') →
      tb (Loc.empty.setAll ps xs) σ K KE) : Zwh ps tb xs σ Q E :=
  ⟨hl, h _ _ (fun _ _ _ σ'' hs hq => ⟨σ'', hs, hq⟩) (fun _ _ σ'' hs hq => ⟨σ'', hs, hq⟩) fun _ _ _ σ'' hs hq => ⟨σ'', hs, hq⟩⟩
theorem Zrk {t : Tgt} {inv : AH → Prop} {tb : TS} {Q : Fl → Loc → AH → Prop} {E : Addr → Loc → AH → Prop} (I : List V → Loc → AH → Prop) (h0 : ∀ ℓ σ, I [] ℓ σ → inv σ ∧ Q .next ℓ σ)
    (h1 : ∀ x xs ℓ σ (K : Fl → Loc → AH → Prop), (∀ ℓ' σ', I xs ℓ' σ' → K .next ℓ' σ') → (∀ v ℓ' σ', Q (.ret v) ℓ' σ' → K (.ret v) ℓ' σ') → (∀ ℓ' σ', Q .next ℓ' σ' → K .brk ℓ' σ') → (∀ ℓ' σ', I xs ℓ' σ' → K .cont ℓ' σ') →
      I (x :: xs) ℓ σ → inv σ ∧ Xd t x ℓ σ fun ℓ₁ => tb ℓ₁ σ K E) {xs : List V} {ℓ : Loc} {σ : AH} (h : I xs ℓ σ) : Zbh t inv tb xs ℓ σ Q E :=
  Zjr I h0 (fun x xs ℓ σ ih hI => h1 x xs ℓ σ _ (fun ℓ' σ' h => ih ℓ' σ' h) (fun _ _ _ h => h) (fun _ _ h => h) (fun ℓ' σ' h => ih ℓ' σ' h) hI) xs ℓ σ h
theorem Zi1 {t : Tgt} {inv : AH → Prop} {tb : TS} {Q : Fl → Loc → AH → Prop} {E : Addr → Loc → AH → Prop} {n : Nat} (I : Nat → Loc → AH → Prop) (h0 : ∀ ℓ σ, I n ℓ σ → inv σ ∧ Q .next ℓ σ)
    (h1 : ∀ i ℓ σ (K : Fl → Loc → AH → Prop), i < n → (∀ ℓ' σ', I (i + 1) ℓ' σ' → K .next ℓ' σ') → (∀ v ℓ' σ', Q (.ret v) ℓ' σ' → K (.ret v) ℓ' σ') → (∀ ℓ' σ', Q .next ℓ' σ' → K .brk ℓ' σ') → (∀ ℓ' σ', I (i + 1) ℓ' σ' → K .cont ℓ' σ') →
      I i ℓ σ → inv σ ∧ Xd t (.int (i : Int)) ℓ σ fun ℓ₁ => tb ℓ₁ σ K E) {ℓ : Loc} {σ : AH} (h : I 0 ℓ σ) : Zbh t inv tb (X9 0 n) ℓ σ Q E :=
  Zkx I h0 (fun i ℓ σ hi ih hI => h1 i ℓ σ _ hi (fun ℓ' σ' h => ih ℓ' σ' h) (fun _ _ _ h => h) (fun _ _ h => h) (fun ℓ' σ' h => ih ℓ' σ' h) hI) h
theorem Zaf {t : Tgt} {inv : AH → Prop} {tb : TS} {Q : Fl → Loc → AH → Prop} {E : Addr → Loc → AH → Prop} (I : List V → Loc → AH → Prop) (h0 : ∀ ℓ σ, I [] ℓ σ → inv σ ∧ Q .next ℓ σ)
    (h1 : ∀ x xs ℓ σ (K : Fl → Loc → AH → Prop), (∀ ℓ' σ', I xs ℓ' σ' → K .next ℓ' σ') → (∀ v ℓ' σ', Q (.ret v) ℓ' σ' → K (.ret v) ℓ' σ') → I (x :: xs) ℓ σ → inv σ ∧ Xd t x ℓ σ fun ℓ₁ => tb ℓ₁ σ K E) {xs : List V} {ℓ : Loc} {σ : AH} (h : I xs ℓ σ) : Zbh t inv tb xs ℓ σ Q E :=
  Zrk I h0 (fun x xs ℓ σ K a b _ _ => h1 x xs ℓ σ K a b) h
theorem Ww {t : Tgt} {inv : AH → Prop} {tb : TS} {Q : Fl → Loc → AH → Prop} {E : Addr → Loc → AH → Prop} {n : Nat} (I : Nat → Loc → AH → Prop) (h0 : ∀ ℓ σ, I n ℓ σ → inv σ ∧ Q .next ℓ σ)
    (h1 : ∀ i ℓ σ (K : Fl → Loc → AH → Prop), i < n → (∀ ℓ' σ', I (i + 1) ℓ' σ' → K .next ℓ' σ') → (∀ v ℓ' σ', Q (.ret v) ℓ' σ' → K (.ret v) ℓ' σ') → I i ℓ σ → inv σ ∧ Xd t (.int (i : Int)) ℓ σ fun ℓ₁ => tb ℓ₁ σ K E) {ℓ : Loc} {σ : AH} (h : I 0 ℓ σ) : Zbh t inv tb (X9 0 n) ℓ σ Q E :=
  Zi1 I h0 (fun i ℓ σ K hi a b _ _ => h1 i ℓ σ K hi a b) h
theorem Zo {t ts : TS} {ℓ : Loc} {σ : AH} {Q : Fl → Loc → AH → Prop} {E : Addr → Loc → AH → Prop} (h : ∀ K : Fl → Loc → AH → Prop, (∀ ℓ' σ', ts ℓ' σ' Q E → K .next ℓ' σ') → t ℓ σ K E) : Zuh t ts ℓ σ Q E :=
  h _ (fun _ _ h => h)
theorem Yl {t ts : TS} {ℓ : Loc} {σ : AH} {Q : Fl → Loc → AH → Prop} {E : Addr → Loc → AH → Prop} (h : ∀ K : Fl → Loc → AH → Prop, (∀ ℓ' σ', ts ℓ' σ' Q E → K .next ℓ' σ') → (∀ v ℓ' σ', Q (.ret v) ℓ' σ' → K (.ret v) ℓ' σ') → t ℓ σ K E) : Zuh t ts ℓ σ Q E :=
  h _ (fun _ _ h => h) (fun _ _ _ h => h)
theorem Yg {t ts : TS} {ℓ : Loc} {σ : AH} {Q : Fl → Loc → AH → Prop} {E : Addr → Loc → AH → Prop} (h : ∀ K : Fl → Loc → AH → Prop, (∀ v ℓ' σ', Q (.ret v) ℓ' σ' → K (.ret v) ℓ' σ') → t ℓ σ K E) : Zuh t ts ℓ σ Q E :=
  h _ (fun _ _ _ h => h)
theorem Yp {α : Type} {f : α → V} {v : V} {xs : List V} {l : List α} (h : v :: xs = l.map f) : ∃ a r, l = a :: r ∧ v = f a ∧ xs = r.map f := by
  cases l with
  | nil => cases h
  | cons a r => injection h with h1 h2; exact ⟨a, r, rfl, h1, h2⟩
theorem Xb {α : Type} {f : α → V} {l : List α} (h : [] = l.map f) : l = [] := by
  cases l with
  | nil => rfl
  | cons a r => cases h
end
section
open PySem PyProof.Rows
noncomputable def Zet (r : List Int) : V := .tup (r.map V.int)
noncomputable def Ziu (r : List Int) : PyData := .tuple (r.map PyData.int)
theorem Zcj {σ : AH} : ∀ (ns : List Int), X6 σ (ns.map PyData.int) (ns.map V.int)
  | [] => by simp [X6]
  | n :: ns => by
    simp only [List.map_cons, X6]
    exact ⟨_, _, rfl, by simp [Y3], Zcj ns⟩
theorem Zmc {σ : AH} (r : List Int) : Y3 σ (Ziu r) (Zet r) := by
  unfold Ziu Y3; exact ⟨_, rfl, Zcj r⟩
theorem Ze4 {σ : AH} : ∀ (rs : List (List Int)), X6 σ (rs.map Ziu) (rs.map Zet)
  | [] => by simp [X6]
  | r :: rs => by
    simp only [List.map_cons, X6]
    exact ⟨_, _, rfl, Zmc r, Ze4 rs⟩
theorem Zci {σ : AH} {a : Addr} {xs : List V} {ds : List PyData} (e : σ a = some (.list xs)) (h : X6 σ ds xs) : Y3 σ (.list ds) (.ref a) := by
  unfold Y3; exact ⟨a, xs, rfl, e, h⟩
theorem Zbv : ∀ ns : List Int, PyData.canLayAll0 (ns.map PyData.int) = true
  | [] => by simp [PyData.canLayAll0]
  | n :: ns => by simp [PyData.canLayAll0, PyData.canLay0, Zbv ns]
theorem Zbm : ∀ ns : List Int, PyData.depthAll (ns.map PyData.int) ≤ 1
  | [] => by simp [PyData.depthAll]
  | n :: ns => by
    have := Zbm ns
    simp only [List.map_cons, PyData.depthAll, PyData.depth]; exact Z2g this
theorem Zed : ∀ rs : List (List Int), PyData.canLayAll0 (rs.map Ziu) = true
  | [] => by simp [PyData.canLayAll0]
  | n :: ns => by simp [PyData.canLayAll0, PyData.canLay0, Ziu, Zbv, Zed ns]
theorem Zfm : ∀ rs : List (List Int), PyData.depthAll (rs.map Ziu) ≤ 3
  | [] => by simp [PyData.depthAll]
  | n :: ns => by
    have := Zfm ns
    have := Zbm n
    simp only [List.map_cons, PyData.depthAll, Ziu, PyData.depth]; omega
theorem Zkz (n : Int) : Lay (.int n) := ⟨by simp [PyData.canLay0], by simp [PyData.depth]⟩
theorem Zrp : Lay .none := ⟨by simp [PyData.canLay0], by simp [PyData.depth]⟩
theorem Zi3 (ns : List Int) : Lay (.list (ns.map PyData.int)) := ⟨by simp [PyData.canLay0, Zbv], by have := Zbm ns; simp only [PyData.depth]; exact Zwm this⟩
theorem Zto (r : List Int) : Lay (Ziu r) := ⟨by simp [Ziu, PyData.canLay0, Zbv], by have := Zbm r; simp only [Ziu, PyData.depth]; exact Zwm this⟩
theorem Zl5 (rs : List (List Int)) : Lay (.list (rs.map Ziu)) := ⟨by simp [PyData.canLay0, Zed], by have := Zfm rs; simp only [PyData.depth]; exact Z3j this⟩
theorem Zcz : ∀ ns ms : List Int, PyData.eqvAll (ns.map PyData.int) (ms.map PyData.int) = (ns == ms)
  | [], [] => by simp [PyData.eqvAll]
  | [], m :: ms => by simp [PyData.eqvAll]
  | n :: ns, [] => by simp [PyData.eqvAll]
  | n :: ns, m :: ms => by
    simp only [List.map_cons, PyData.eqvAll, PyData.eqv, Zcz ns ms]
    rw [Bool.eq_iff_iff]; simp
theorem Zp0 (r t : List Int) : PyData.eqv (Ziu r) (Ziu t) = (r == t) := by
  simp only [Ziu, PyData.eqv, Zcz]
theorem Zeb : ∀ rs ts : List (List Int), PyData.eqvAll (rs.map Ziu) (ts.map Ziu) = (rs == ts)
  | [], [] => by simp [PyData.eqvAll]
  | [], m :: ms => by simp [PyData.eqvAll]
  | n :: ns, [] => by simp [PyData.eqvAll]
  | n :: ns, m :: ms => by
    simp only [List.map_cons, PyData.eqvAll, Zp0, Zeb ns ms]
    rw [Bool.eq_iff_iff]; simp
theorem Zr4 {σ : AH} {a b : Addr} {rs ts : List (List Int)} {Q : Bool → Prop} (ha : σ a = some (.list (rs.map Zet))) (hb : σ b = some (.list (ts.map Zet))) (h : Q (rs == ts)) : eqD (.ref a) (.ref b) σ Q := by
  unfold eqD
  exact ⟨_, _, Zci ha (Ze4 rs), Zci hb (Ze4 ts), Zl5 rs, Zl5 ts, by simpa only [PyData.eqv, Zeb] using h⟩
theorem Zp7 : ∀ (ns : List Int) (k : Int), ((ns.map PyData.int).any fun y => PyData.eqv y (.int k)) = decide (k ∈ ns)
  | [], k => by simp
  | n :: ns, k => by
    simp only [List.map_cons, List.any_cons, Zp7 ns k, PyData.eqv]
    by_cases q : n = k
    · subst q; simp
    · have q' : ¬ k = n := fun z => q z.symm
      have : (n == k) = false := by simpa using q
      rw [this]; simp [q']
theorem Zdx {σ : AH} {a : Addr} {ns : List Int} {k : Int} {Q : Bool → Prop} (ha : σ a = some (.list (ns.map V.int))) (h : Q (decide (k ∈ ns))) : inD (.int k) (.ref a) σ Q := by
  simp only [inD, ha]
  exact ⟨_, .int k, Zcj ns, by simp [Y3], Zi3 ns, Zkz k, by rw [Zp7]; exact h⟩
theorem Zdm {xs : List V} {i : Nat} {x : V} (h : xs[i]? = some x) : atV xs (i : Int) = some x := by
  have hl : i < xs.length := by
    rcases Nat.lt_or_ge i xs.length with q | q
    · exact q
    · rw [List.getElem?_eq_none q] at h; cases h
  have e : seqIndex? (i : Int) xs.length = some i := by
    unfold seqIndex?
    rw [if_neg (show ¬ ((i : Int) < 0) by exact Zwl)]
    simp only
    rw [if_pos (by simp; exact Z3i hl)]
    simp
  unfold atV
  rw [e]; exact h
theorem Z8 {xs : List V} {k : Int} {x : V} (h0 : 0 ≤ k) (h : xs[k.toNat]? = some x) : atV xs k = some x := by
  have : k = ((k.toNat : Nat) : Int) := by exact Zv7 h0
  rw [this]; exact Zdm h
theorem Zun {r : List Int} {i : Nat} (h : i < r.length) : atV (r.map V.int) (i : Int) = some (.int (r.getD i 0)) := by
  refine Zdm ?_
  simp [h]
end
section
open PySem PySem.W PyProof.Rows
variable {g : Gr} {sc csc : Scope} {r : Nat} {c : Bool} {K : Frag}
structure Zsc (K : Frag) (C : Addr) : Prop where
  get : plainGet K C (Str.ofString "x") = true
  dict : hasDictIn K C = true
  set : findIn K (.ref C) "__setattr__" = some (some (.builtin "object.__setattr__"))
  over : plainOver K C = true
theorem Zhz {o : Obj} {es : Array DictEntry} {ep : Nat} {name : Str} (hd : o.data = .dict es ep) (hk : StrKeys es) : lookIn name o = some (nsFind es name) := by
  unfold lookIn
  rw [hd]
  have hr : es.toList.any (·.refKey) = false := by
    rw [List.any_eq_false]
    intro e he
    obtain ⟨n, t, q⟩ := hk e (by simpa using he)
    simp [DictEntry.refKey, q]
  unfold nsFind findBy
  cases q : es.toList.find? (·.key.isStr name) with
  | none =>
    have : es.find? (fun e => e.key.isStr name) = none := by rw [← Array.find?_toList]; exact q
    simp [hr, this]
  | some e =>
    have : es.find? (fun e => e.key.isStr name) = some e := by rw [← Array.find?_toList]; exact q
    simp [this]
variable {g : Gr} {sc csc : Scope} {r : Nat} {c : Bool} {K : Frag}
theorem Zjo {kvs : List (Str × V)} {x : Str} (h : kvs.lookup x ≠ none) : x ∈ kvs.map (·.1) := by
  induction kvs with
  | nil => simp at h
  | cons p kvs ih =>
    obtain ⟨y, v⟩ := p
    rw [List.lookup_cons] at h
    by_cases z : x = y
    · subst z; simp
    · have zb : (x == y) = false := by simpa using z
      rw [zb] at h
      exact List.mem_map.mpr (let ⟨q, h1, h2⟩ := List.mem_map.mp (ih h); ⟨q, .tail _ h1, h2⟩)
noncomputable def Zhw (e : DictEntry) : Str := match e.key with | .str n _ => n | _ => Str.empty
theorem Zrh {h : Heap} {a : Addr} {m : Str → Option Value} (hn : h.Ns1 a m) (names : List Str) (hm : ∀ x, m x ≠ none → x ∈ names) : ∃ o es ep, h.get? a = some o ∧ o.data = .dict es ep ∧ es.size ≤ names.length := by
  obtain ⟨o, es, ep, ho, hd, hk, hu, hf⟩ := hn
  refine ⟨o, es, ep, ho, hd, ?_⟩
  have isn : ∀ e ∈ es.toList, e.key.isStr (Zhw e) = true := fun e he => by
    obtain ⟨n, t, q⟩ := hk e (by simpa using he)
    simp [Zhw, q, Value.isStr]
  have hnd : (es.toList.map Zhw).Nodup := by
    unfold List.Nodup
    rw [List.pairwise_map]
    refine List.Pairwise.imp_of_mem (fun {a b} ha hb h q => ?_) hu
    exact h (Zhw a) (isn a ha) (q ▸ isn b hb)
  have hsub : es.toList.map Zhw ⊆ names := fun x hx => by
    obtain ⟨e, he, rfl⟩ := List.mem_map.mp hx
    refine hm _ fun q => ?_
    rw [← hf] at q
    unfold nsFind findBy at q
    have : es.find? (fun e' => e'.key.isStr (Zhw e)) = none := by simpa using q
    rw [Array.find?_eq_none] at this
    exact this e (by simpa using he) (isn e he)
  have := List.Nodup.length_le_of_subset hnd hsub
  simpa using this
theorem Zk3 {h : Heap} {σ : AH} {x C d : Addr} {kvs : List (Str × V)} (R : Rel g h σ) (hx : σ x = some (.inst C d)) (hd : σ d = some (.attrs kvs)) :
    ∃ od, InstAt h x (instObj C d) C (some od) ∧ (∀ name v, kvs.lookup name = some v → ∃ u, lookIn name od = some (some u) ∧ VR g h v u) ∧ (∀ name, kvs.lookup name = none → lookIn name od = some none) ∧ Xv kvs.length ∧ ∃ m, h.Ns1 d m ∧ ∀ x, (∀ v, kvs.lookup x = some v → ∃ u, m x = some u ∧ VR g h v u) ∧ (kvs.lookup x = none → m x = none) := by
  have ox : h.get? x = some (instObj C d) := (R.own x _ hx).2
  obtain ⟨hft, m, hn, hm⟩ := (R.own d _ hd).2
  obtain ⟨od, es, ep, hod, hdd, hk, _, hf⟩ := id hn
  refine ⟨od, ⟨ox, rfl, rfl, hod⟩, fun name v e => ?_, fun name e => ?_, hft, m, hn, hm⟩
  · obtain ⟨u, h1, h2⟩ := (hm name).1 v e
    exact ⟨u, by rw [Zhz hdd hk, hf, h1], h2⟩
  · rw [Zhz hdd hk, hf, (hm name).2 e]
theorem Zpq {h : Heap} {x : V} {v : Value} (hv : VR g h x v) : handedIn v = true := by
  cases x with
  | none => rw [W6.mp hv]; rfl
  | bool b => rw [Wo.mp hv]; rfl
  | int i => obtain ⟨t, rfl⟩ := Z9.mp hv; rfl
  | str y => obtain ⟨_, t, rfl⟩ := Y9.mp hv; rfl
  | ref a => rw [Yi.mp hv]; rfl
  | tup xs => obtain ⟨_, a, _, _, _, rfl, _⟩ := Wq.mp hv; rfl
  | frz xs => obtain ⟨_, a, _, _, _, rfl, _⟩ := Zc5.mp hv; rfl
noncomputable def Zf3 (C : Addr) (name : Str) (v : V) (σ : AH) : Option V := match v with
  | .ref x => match σ x with
    | some (.inst C' d) => if C' = C then (match σ d with | some (.attrs kvs) => kvs.lookup name | _ => none) else none
    | _ => none
  | _ => none
theorem Zg9 {C x d : Addr} {name : Str} {σ : AH} {kvs : List (Str × V)} {u : V} (hx : σ x = some (.inst C d)) (hd : σ d = some (.attrs kvs)) (h : kvs.lookup name = some u) : Zf3 C name (.ref x) σ = some u := by
  simp [Zf3, hx, hd, h]
theorem Zlf {C : Addr} {name : Str} {v u : V} {σ : AH} (h : Zf3 C name v σ = some u) : ∃ x d kvs, v = .ref x ∧ σ x = some (.inst C d) ∧ σ d = some (.attrs kvs) ∧ kvs.lookup name = some u := by
  unfold Zf3 at h
  split at h
  · rename_i x
    split at h
    · rename_i C' d e
      split at h
      · rename_i q; subst q
        split at h
        · rename_i kvs e'; exact ⟨x, d, kvs, rfl, e, e', h⟩
        · cases h
      · cases h
    · cases h
  · cases h
noncomputable def Za5 (C : Addr) (name : String) (t : TE) : TE := fun ℓ σ Q E => t ℓ σ (fun v σ₁ => match Zf3 C (Str.ofString name) v σ₁ with | some u => Q u σ₁ | none => False) E
theorem Yc {C : Addr} {e : Expr} {name : String} {pos : Pos} {t : TE} {attr : Option Value} (hK : K.In g.b0) (hc : Zsc K C) (ha : findIn K (.ref C) (Str.ofString name) = some attr) (hn : noGet K attr = true) (hcall : Ze1 e = false) (h1 : Xy g sc r c e t) :
    Xy g sc r c (.Attribute e (Str.ofString name) pos) (Za5 C name t) := .mk fun A env s ℓ σ Q E X h => by
  rw [arm_eval_Attribute, Zdz hcall]
  refine wpAny_bind (wpAny_mono (h1.run A env s ℓ σ _ E X h) (fun v s₁ p => ?_) fun _ _ p => p)
  refine Za3.elim p fun x σ₁ hv hR hx hs hq => ?_
  split at hq
  · rename_i u e
    obtain ⟨a, d, kvs, rfl, h2, h3, h4⟩ := Zlf e
    rw [Yi.mp hv]
    obtain ⟨od, I, l1, l2, _⟩ := Zk3 hR h2 h3
    obtain ⟨uv, l3, hu⟩ := l1 _ _ h4
    refine wpAny_bind (wpAny_standAt (wpAny_bind (wpAny_holding (get_value (fun a o e => hR.base a o (hK a o e)) I (plainGet_of hc.get).1 (findObj_own hc.dict ha hn l3) (Zpq hu) ?_))))
    refine wpAny_bind (wpAny_letTemporaryGo (wpAny_pure ?_))
    exact ⟨u, σ₁, hu, hR, hx, hs.trans ⟨rfl, rfl, rfl⟩, hq⟩
  · exact hq.elim
inductive Zvx (C : Addr) (name : String) (ℓ : Loc) (Q : Fl → Loc → AH → Prop) (v o : V) (σ₂ : AH) : Prop
  | mk (x d : Addr) (kvs : List (Str × V)) (h1 : o = .ref x) (h2 : σ₂ x = some (.inst C d)) (h3 : σ₂ d = some (.attrs kvs)) (h4 : Xv (kvs.length + 1)) (h5 : Q .next ℓ (σ₂.set d (.attrs ((Str.ofString name, v) :: kvs)))) : Zvx C name ℓ Q v o σ₂
noncomputable def Zek (C : Addr) (name : String) (to tv : TE) : TS := fun ℓ σ Q E => tv ℓ σ (fun v σ₁ => to ℓ σ₁ (Zvx C name ℓ Q v) fun C σ' => E C ℓ σ') fun C σ' => E C ℓ σ'
theorem Zb5 {C : Addr} {o value : Expr} {name : String} {pos' pos : Pos} {to tv : TE} (hK : K.In g.b0) (hc : Zsc K C) (ht : takerIn K C (Str.ofString name) = some none) (h1 : Xy g sc r c o to) (h2 : Xy g sc r c value tv)
    (hs : ∀ env, swapsWith value (some (.Attribute o (Str.ofString name) pos')) pos.line env = pure false) : Zmk g sc r c (.Assign [.Attribute o (Str.ofString name) pos'] value pos) (Zek C name to tv) := .mk fun A env s ℓ σ Q E X h => by
  refine plainObj_wpAny_Assign_Attribute (wpAny_mono (h2.run A env s ℓ σ _ _ X h) (fun v s₁ p => ?_) fun _ _ p => p.toS X) (hs env)
  refine Za3.elim p fun xv σ₁ hv hR1 hx1 hs1 hq => ?_
  have X1 := X.step hR1 hx1
  refine wpAny_mono (h1.run A env s₁ ℓ σ₁ _ _ X1 hq) (fun ov s₂ p => ?_) fun _ _ p => (p.toS X1).back hx1.own hs1
  obtain ⟨xo, σ₂, ho, hR2, hx2, hs2, x, d, kvs, rfl, e1, e2, hfit, hq⟩ := p
  have X2 := X1.step hR2 hx2
  rw [Yi.mp ho]
  have hv2 := hx2.vr hR1 Xo hv
  obtain ⟨od, I, l1, l2, hft, m, hn, hm⟩ := Zk3 hR2 e1 e2
  have XK : K.In s₂.heap := fun a o e => hR2.base a o (hK a o e)
  obtain ⟨cd, hcd, hdd⟩ := any_some hc.dict
  refine set_plain XK I hc.set (osa_open (s := { s₂ with toks := s₂.toks + 1 }) XK I hc.over ht fun b => ?_)
  have hx0 := I.at_
  have XK' : K.In ({ s₂ with toks := s₂.toks + 1 } : Shared).heap := XK
  refine wpAny_bind (wpAny_pure (wpAny_bind (wpAny_bind (wpAny_loadPart hx0 (wpAny_bind ((looks_clsIn XK' hcd).here ?_))))))
  rw [hdd]
  refine wpAny_pure (a := some d) (wpAny_bind (wpAny_pure (wpAny_bind ?_)))
  refine wpAny_nsSet1 (s := { s₂ with toks := s₂.toks + 1 }) hn fun h' hn' sb => ?_
  have tk : Y2 g s₂.heap h' := fun b o us k _ q cc dd => by
    refine .of (sb.extBut b o (fun z => ?_) q)
    obtain ⟨o', es, ep, ho', hd', _⟩ := hn
    subst z; rw [ho'] at q; cases q; rw [hd'] at dd; cases dd
  have hor : OR g h' d (.attrs ((Str.ofString name, xv) :: kvs)) := by
    refine ⟨hfit, _, hn', fun y => ⟨fun w q => ?_, fun q => ?_⟩⟩
    · rw [List.lookup_cons] at q
      by_cases z : y = Str.ofString name
      · subst z
        simp only [beq_self_eq_true] at q
        cases q
        exact ⟨v, by simp, VR.mono tk hv2⟩
      · have zb : (y == Str.ofString name) = false := by simpa using z
        rw [zb] at q
        obtain ⟨u, h1, h2⟩ := (hm y).1 w q
        exact ⟨u, by rw [if_neg z]; exact h1, VR.mono tk h2⟩
    · rw [List.lookup_cons] at q
      by_cases z : y = Str.ofString name
      · subst z; simp at q
      · have zb : (y == Str.ofString name) = false := by simpa using z
        rw [zb] at q
        rw [if_neg z]; exact (hm y).2 q
  have pd : ∃ o, h'.get? d = some o := let ⟨o, _, _, e, _⟩ := hn'; ⟨o, e⟩
  have R3 : Rel g h' (σ₂.set d (.attrs ((Str.ofString name, xv) :: kvs))) := hR2.upd e2 sb hor
  have x3 : Ext No s₂.heap σ₂ h' (σ₂.set d (.attrs ((Str.ofString name, xv) :: kvs))) := .upd e2 sb pd
  have hsz : ∃ o es ep, h'.get? d = some o ∧ o.data = .dict es ep ∧ es.size ≤ kvs.length + 1 := by
    have := Zrh hn' (Str.ofString name :: kvs.map (·.1)) fun y q => ?_
    · simpa using this
    · by_cases z : y = Str.ofString name
      · rw [z]; exact .head _
      · rw [if_neg z] at q
        refine .tail _ (Zjo fun w => q ((hm y).2 w))
  obtain ⟨od', es', ep', ho', hd', hle⟩ := hsz
  refine wpAny_bind (wpAny_lookBehind ho' (by rw [hd']; exact pastItsLine_dict (by have := hfit.line; exact Z3h hle this)) (wpAny_pure ?_))
  show Zd2 g env s σ Q .next _
  exact ⟨.next, ℓ, _, rfl, X2.loc.step hR2 x3, R3, ((hx1.trans hx2).trans x3).own, (hs1.trans hs2).trans ⟨rfl, rfl, rfl⟩, hq⟩
end
section
open PySem PySem.W PyProof.Rows
variable {g : Gr} {sc csc : Scope} {r : Nat} {c : Bool} {K : Frag}
theorem Zg8 {A : Around} {E : Value → Shared → Prop} {s : Shared} {pos : Pos} {f : Value} {first : List Value} {l : List (Bool × Sem Value)} {Q : Value → Shared → Prop} (hK : K.In g.b0) (hk : keepIn K f = true) (hp : l.any (·.1) = false)
    (h : wpAny (model g.prog g.w) A (spliced l) (fun vs s' => (∀ a o, g.b0.get? a = some o → s'.heap.get? a = some o) ∧ wpAny (model g.prog g.w) A (call f (first ++ vs) []) Q E s') E s) : wpAny (model g.prog g.w) A (callWith pos f first l []) Q E s :=
  callWith_of (P := fun h => K.In h) (by simp [hp]) (keeps_K hk) (Zcy hp (wpAny_mono h (fun vs s' h' => ⟨fun a o e => h'.1 a o (hK a o e), h'.2⟩) fun _ _ x => x))
noncomputable def FnM (g : Gr) (K : Frag) (C : Addr) (name : String) (r : Nat) (t : TF) : Prop := ∃ f, findIn K (.ref C) (Str.ofString name) = some (some (.ref f)) ∧ isFn K (.ref f) = true ∧ keepIn K (.ref f) = true ∧ Zfs g r (.ref f) t
theorem FnM.le {C : Addr} {name : String} {r r' : Nat} {t : TF} (h : FnM g K C name r t) (k : r ≤ r') : FnM g K C name r' t := let ⟨f, h1, h2, h3, h4⟩ := h; ⟨f, h1, h2, h3, h4.le k⟩
noncomputable def instOf (C : Addr) (name : Str) (o : V) (σ : AH) : Prop := ∃ x d kvs, o = .ref x ∧ σ x = some (.inst C d) ∧ σ d = some (.attrs kvs) ∧ kvs.lookup name = none
noncomputable def Yy (C : Addr) (name : String) (t : TF) (to : TE) (ts : TL) : TE := fun ℓ σ Q E => to ℓ σ (fun o σ₁ => instOf C (Str.ofString name) o σ₁ ∧ ts ℓ σ₁ (fun vs σ₂ => t (o :: vs) σ₂ Q E) E) E
theorem Zs {C : Addr} {o : Expr} {name : String} {apos pos : Pos} {args : List Expr} {t : TF} {to : TE} {ts : TL} (hK : K.In g.b0) (hc : Zsc K C) (hF : FnM g K C name r t)
    (ho : Xy g sc r true o to) (hL : Zml g sc r true args ts) (hp : Zef args) (hbase : Ze1 o = false) (hfew : decide (args.length < 30) = true)
    (hline : (apos.endLine == pos.line) = true) : Xy g sc r true (.Call (.Attribute o (Str.ofString name) apos) args [] pos) (Yy C name t to ts) := .mk fun A env s ℓ σ Q E X h => by
  obtain ⟨f, hf, hfn, hkf, hF⟩ := hF
  rw [arm_eval_Call, Zdz hbase]
  refine wpAny_bind (wpAny_mono (ho.run A env s ℓ σ _ E X h) (fun v s₁ p => ?_) fun _ _ p => p)
  obtain ⟨xo, σ₁, hv, hR, hx, hs1, ⟨x, d, kvs, rfl, e1, e2, e3⟩, hq⟩ := p
  have X1 := X.step hR hx
  rw [Yi.mp hv]
  obtain ⟨od, I, l1, l2, _⟩ := Zk3 hR e1 e2
  have XK : K.In s₁.heap := fun a o e => hR.base a o (hK a o e)
  refine wpAny_bind (wpAny_standAt ?_)
  have fin : wpAny (model g.prog g.w) A (callWith pos (.ref f) [.ref x] (backTo pos (starEach args env)) []) (Zbj g s σ Q) (Zaw g A s σ E) s₁ := by
    refine Zg8 hK hkf (Wz hp pos env) (wpAny_mono (hL.run A env pos s₁ ℓ σ₁ _ E X1 hq) (fun vs s₂ p => ?_) fun _ _ p => p.back hx hs1)
    refine Za3.elim p fun xs σ₂ hvs hR2 hx2 hs2 hq => ?_
    have X2 := X1.step hR2 hx2
    exact ⟨fun a o e => hR2.base a o e, Zbd (hx.trans hx2) (hs1.trans hs2) (hF.run A s₂ σ₂ (.ref x :: xs) (.ref x :: vs) Q E X.gok X2.fr.frl X2.room hR2 (Ys (Yi.mpr rfl) hvs) hq)⟩
  have hform : methodCallForm (args.length + ([] : List Keyword).length) (backTo pos (starEach args env)) (backToKw pos (keywordEach [] env)) = true := Ze3 hp hfew
  have hpos : methodCallPos true o env apos pos = pure pos := by unfold methodCallPos; simp [hline]
  unfold methodCall
  rw [hform]
  refine wpAny_bind (wpAny_holding (method_fn XK I (plainGet_of hc.get).1 (plainGet_of hc.get).2 hf (beq_iff_eq.mp hfn) (by show (lookIn (Str.ofString name) od).map _ = _; rw [l2 _ e3]; rfl) ?_))
  exact wpAny_bind (wpAny_of_eq hpos fin)
theorem Zki.made {A : Around} {r : Nat} {c : Bool} {C : Addr} {vs : List Value} (x : Zki A (r + 1) c) : Zki (A.under (.builtin "type.__call__" ⟨.ref C :: vs, []⟩)) r c :=
  ⟨by have := x.depth; show A.depth + 1 + 2 * r + 110 < _; exact om4 this, by have := x.units; show A.units + 1 + 20 * r + 100 < _; exact Z3g this, x.calm⟩
noncomputable def Zui (C : Addr) (t : TF) : TF := fun xs σ Q E => ∀ x d, σ x = none → σ d = none → x ≠ d → t (.ref x :: xs) ((σ.set d (.attrs [])).set x (.inst C d)) (fun v σ' => v = .none ∧ Q (.ref x) σ') E
theorem Zq3 {C fI : Addr} {t : TF} (hK : K.In g.b0) (hm : makesIn K C = true) (hi : findIn K (.ref C) "__init__" = some (some (.ref fI))) (hf : typeIn K (.ref fI) = some (.type "function")) (hI : Xu g r (.ref fI) t) : Zfs g (r + 1) (.ref C) (Zui C t) := .mk fun A s σ xs vs Q E G F Rm R hv h => by
  obtain ⟨hh, gg, dd, tt, os⟩ := s
  have X : K.In hh := fun a o e => R.base a o (hK a o e)
  refine wpAny_call (make_core (makes_of X hm) (looks_findIn X hi) (fun self => bind_fn X self hf) (.inl rfl) ?_)
  have k1 : ∀ a o, hh.get? a = some o → (hh.push emptyDict).get? a = some o := fun a o e => Heap.get?_push_of_some _ e
  have k2 : ∀ a o, hh.get? a = some o → ((hh.push emptyDict).push (instObj C hh.objs.size)).get? a = some o := fun a o e => Heap.get?_push_of_some _ (k1 a o e)
  have fr1 : hh.get? (hh.objs.size + 1) = none := Heap.get?_none_of_le (Nat.le_succ _)
  have fr0 : hh.get? hh.objs.size = none := Z4 _
  have hD : ((hh.push emptyDict).push (instObj C hh.objs.size)).get? hh.objs.size = some emptyDict := Heap.get?_push_of_some _ (Heap.get?_push_size _ rfl)
  have hX : ((hh.push emptyDict).push (instObj C hh.objs.size)).get? (hh.objs.size + 1) = some (instObj C hh.objs.size) := by
    have := Heap.get?_push_size (o := instObj C hh.objs.size) (hh.push emptyDict) rfl
    rwa [Heap.size_push] at this
  have R1 : Rel g ((hh.push emptyDict).push (instObj C hh.objs.size)) (σ.set hh.objs.size (.attrs [])) := by
    refine R.alloc k2 fr0 ⟨Yh rfl, fun _ => none, ⟨emptyDict, #[], 0, hD, rfl, fun e he => by simp at he, List.Pairwise.nil, fun _ => rfl⟩, fun x => ⟨fun v q => (nomatch q), fun _ => rfl⟩⟩
  have b0 : g.b0.get? (hh.objs.size + 1) = none := by
    cases q : g.b0.get? (hh.objs.size + 1) with
    | none => rfl
    | some o => have := R.base _ o q; rw [show (Shared.heap ⟨hh, gg, dd, tt, os⟩) = hh from rfl, fr1] at this; cases this
  have R2 := R1.claim (a := hh.objs.size + 1) (ao := .inst C hh.objs.size) b0 hX
  have x2 : Ext No hh σ ((hh.push emptyDict).push (instObj C hh.objs.size)) ((σ.set hh.objs.size (.attrs [])).set (hh.objs.size + 1) (.inst C hh.objs.size)) := by
    refine ⟨fun a o e _ _ => .of (k2 a o e), fun a o e => ⟨o, k2 a o e⟩, fun a q => ?_⟩
    by_cases z : a = hh.objs.size + 1
    · rw [z]; exact .inr fr1
    · rw [Zf z] at q
      by_cases z2 : a = hh.objs.size
      · rw [z2]; exact .inr fr0
      · rw [Zf z2] at q; exact .inl q
  have F2 : FrL g (A.under (.builtin "type.__call__" ⟨.ref C :: vs, []⟩)) ((hh.push emptyDict).push (instObj C hh.objs.size)) ((σ.set hh.objs.size (.attrs [])).set (hh.objs.size + 1) (.inst C hh.objs.size)) := by
    obtain ⟨l, h1, h2, h3⟩ := F
    refine ⟨l, h1, h2.of_keeps fun b o e _ => ⟨o, k2 b o e, rfl⟩, fun e he f hf' => ?_⟩
    obtain ⟨_, o, ho, _⟩ := h2.mem (List.mem_filterMap.mpr ⟨e, he, hf'⟩)
    exact x2.off ho (h3 e he f hf')
  have σx : σ (hh.objs.size + 1) = none := R.fresh fr1
  have σd : σ hh.objs.size = none := R.fresh fr0
  refine codeAny_mono (hI.run (A.under (.builtin "type.__call__" ⟨.ref C :: vs, []⟩)) ⟨(hh.push emptyDict).push (instObj C hh.objs.size), gg, dd, tt, os⟩ _ (.ref (hh.objs.size + 1) :: xs) (.ref (hh.objs.size + 1) :: vs) _ E G F2 Rm.made R2 (Ys (Yi.mpr rfl) (VRs.mono (fun a o _ _ _ e _ _ => .of (k2 a o e)) hv))
    (h _ _ σx σd (Nat.succ_ne_self _))) fun rr s' p => ?_
  match rr, p with
  | .ok (.ret v), p =>
    obtain ⟨y, σ', hy, hR', hx', hs', rfl, hq⟩ := p
    exact ⟨W6.mp hy, .ref _, σ', Yi.mpr rfl, hR', x2.trans hx', Zbo.trans ⟨rfl, rfl, rfl⟩ hs', hq⟩
  | .error e, p => obtain ⟨_, _, h1, _⟩ := p; exact h1.elim
end
section
open PySem PySem.W PyProof.Rows
variable {g : Gr} {sc csc : Scope} {r : Nat} {c : Bool} {K : Frag}
theorem Zjp (its : Array Value) (n : Nat) (f : Array Value → Array Value) : ∃ n', Obj.mapSeq f { cls := .type "list", data := .seq its n } = { cls := .type "list", data := .seq (f its) n' } := by
  simp [Obj.mapSeq]
theorem Zip {prog : Program} {w : World} {A : Around} {E : Value → Shared → Prop} {s : Shared} {l : Addr} {items : Array Value} {n : Nat} {k : Int} {t : Tok} {v : Value} {Q : Unit → Shared → Prop} (ho : s.heap.get? l = some { cls := .type "list", data := .seq items n }) (h0 : 0 ≤ k) (hfit : k < 2 ^ 63) (hn : k < items.size)
    (hQ : ∀ h' n', h'.get? l = some { cls := .type "list", data := .seq (items.setIfInBounds k.toNat v) n' } → Heap.SameBut l s.heap h' → Q () { s with heap := h' }) :
    wpAny (model prog w) A (setItem (.ref l) (.int k t) v) Q E s := by
  have hl : s.heap.IsList l items := ⟨_, ho, rfl, n, rfl⟩
  obtain ⟨o, ho', hc, ne, hd⟩ := id hl
  have eo : o = { cls := .type "list", data := .seq items n } := by rw [ho] at ho'; cases ho'; rfl
  unfold setItem
  try with_reducible refine wpAny_holding ?_
  first | refine wpAny_bind (wpAny_pure ?_) | skip
  refine wpAny_bind (wpAny_sequenceKey hl.typeIs (by decide) ?_)
  refine wpAny_bind (wpAny_callSpecial?_slot (name := Str.ofString "__setitem__") hl.typeIs slot_list_setitem
    (wpAny_call_entry slot_list_setitem hl.typeIs entry_list_setitem ?_ (args_list_setitem _ _ _)))
  show wpAny _ _ (Builtin.List.listSubscript? (.int k t) >>= _) _ _ s
  refine wpAny_bind (wpAny_listSubscript_int (fitsIndex_of h0 hfit) ?_)
  clear hfit
  obtain ⟨j, rfl⟩ := Int.eq_ofNat_of_zero_le h0
  have hj : j < items.size := by exact Z2f hn
  have hx' : items[j]? = some items[j] := Array.getElem?_eq_getElem hj
  show wpAny _ _ ((seqItemAt l j >>= fun r => pure (r.map (j, ·))) >>= _) _ _ s
  refine wpAny_bind (wpAny_bind (wpAny_seqItemAt ho' hd (wpAny_pure ?_)))
  rw [hx']
  show wpAny _ _ (setSeqItemAt l j v >>= _) _ _ s
  obtain ⟨n', hm⟩ := Zjp items n (·.setIfInBounds j v)
  have hfin : (s.heap.update l (Obj.mapSeq (·.setIfInBounds j v))).get? l = some { cls := .type "list", data := .seq (items.setIfInBounds j v) n' } := by
    rw [Heap.get?_update_self _ ho (by rw [hm]; rfl), hm]
  refine wpAny_bind (wpAny_setSeqItemAt ho' hd ?_)
  first
    | exact wpAny_bind (wpAny_pure (wpAny_pure ⟨.none, rfl, wpAny_pure (hQ _ _ hfin (Heap.SameBut.update ..))⟩))
    | exact wpAny_pure ⟨.none, rfl, wpAny_pure (hQ _ _ hfin (Heap.SameBut.update ..))⟩
noncomputable def Zfb {K : Type} [DecidableEq K] (kvs : List (K × V)) (k : K) (x : V) : List (K × V) :=
  if kvs.any (fun kv => decide (kv.1 = k)) then kvs.map (fun kv => if kv.1 = k then (kv.1, x) else kv) else kvs ++ [(k, x)]
theorem Zqa {h : Heap} {x : V} {v : Value} (hx : VR g h x v) : ∀ {xs : List V} {vs : List Value} (j : Nat), VRs g h xs vs → VRs g h (xs.set j x) (vs.set j v)
  | [], vs, j, a => by rw [Z2 a]; simpa using Xq
  | y :: xs, vs, j, a => by
    obtain ⟨u, us, rfl, hy, hus⟩ := Zn a
    cases j with
    | zero => exact Ys hx hus
    | succ j => exact Ys hy (Zqa hx j hus)
theorem Zp9 {K : Type} [DecidableEq K] {α β : Type} {us : List (K × α)} {kvs : List (K × β)} (hk : us.map (·.1) = kvs.map (·.1)) (k : K) : (us.any fun kv => decide (kv.1 = k)) = kvs.any fun kv => decide (kv.1 = k) := by
  have h1 : (us.any fun kv => decide (kv.1 = k)) = (us.map (·.1)).any fun y => decide (y = k) := by simp [List.any_map, Function.comp_def]
  have h2 : (kvs.any fun kv => decide (kv.1 = k)) = (kvs.map (·.1)).any fun y => decide (y = k) := by simp [List.any_map, Function.comp_def]
  rw [h1, h2, hk]
theorem Zmz {K : Type} [DecidableEq K] {h : Heap} {k : K} {x : V} {v : Value} (hx : VR g h x v) {us : List (K × Value)} {kvs : List (K × V)} (hk : us.map (·.1) = kvs.map (·.1)) (hv : VRs g h (kvs.map (·.2)) (us.map (·.2))) :
    (stored us k v).map (·.1) = (Zfb kvs k x).map (·.1) ∧ VRs g h ((Zfb kvs k x).map (·.2)) ((stored us k v).map (·.2)) := by
  have rep : ∀ {us : List (K × Value)} {kvs : List (K × V)}, us.map (·.1) = kvs.map (·.1) → VRs g h (kvs.map (·.2)) (us.map (·.2)) →
      (us.map (fun kv => if kv.1 = k then (kv.1, v) else kv)).map (·.1) = (kvs.map (fun kv => if kv.1 = k then (kv.1, x) else kv)).map (·.1) ∧ VRs g h ((kvs.map (fun kv => if kv.1 = k then (kv.1, x) else kv)).map (·.2)) ((us.map (fun kv => if kv.1 = k then (kv.1, v) else kv)).map (·.2)) := by
    intro us
    induction us with
    | nil =>
      intro kvs hk hv
      cases kvs with
      | nil => exact ⟨rfl, Xq⟩
      | cons _ _ => simp at hk
    | cons u us ih =>
      intro kvs hk hv
      cases kvs with
      | nil => simp at hk
      | cons kv kvs =>
        simp only [List.map_cons, List.cons.injEq] at hk
        obtain ⟨w, ws, hw, hv1, hv2⟩ := Zn hv
        simp only [List.map_cons, List.cons.injEq] at hw
        obtain ⟨rfl, rfl⟩ := hw
        obtain ⟨i1, i2⟩ := ih hk.2 hv2
        simp only [List.map_cons]
        by_cases z : u.1 = k
        · have z' : kv.1 = k := hk.1 ▸ z
          rw [if_pos z, if_pos z']
          exact ⟨by rw [i1]; simp [hk.1], Ys hx i2⟩
        · have z' : ¬ kv.1 = k := hk.1 ▸ z
          rw [if_neg z, if_neg z']
          exact ⟨by rw [i1]; simp [hk.1], Ys hv1 i2⟩
  unfold stored Zfb
  rw [Zp9 hk k]
  split
  · exact rep hk hv
  · exact ⟨by simp [hk], by simpa using Zbn hv (Ys hx Xq)⟩
theorem Zgt {K : Type} [DecidableEq K] (kvs : List (K × V)) (k : K) (x : V) : (Zfb kvs k x).length ≤ kvs.length + 1 := by
  unfold Zfb; split <;> simp
theorem Zdf {A : Around} {env : Env} {s : Shared} {σ : AH} {ℓ : Loc} {Q : Fl → Loc → AH → Prop} {a : Addr} {ao ao' : AO} {h' : Heap} {tk : Nat} (X : Cx g sc r c A env s.heap σ ℓ) (e : σ a = some ao) (sb : Heap.SameBut a s.heap h') (ho : Y2 g s.heap h' → OR g h' a ao') (hq : Q .next ℓ (σ.set a ao')) : Zd2 g env s σ Q .next { s with heap := h', toks := tk } := by
  obtain ⟨o₀, e₀, c₀⟩ := Zby (X.rel.own a _ e).2
  have tks : Y2 g s.heap h' := fun b o us m _ q cc d => by
    refine .of (sb.extBut b o (fun z => ?_) q)
    subst z; rw [e₀] at q; cases q; exact c₀ _ _ cc d
  have hor := ho tks
  have pr : ∃ o, h'.get? a = some o := let ⟨o, q, _⟩ := Zby hor; ⟨o, q⟩
  have x : Ext No s.heap σ h' (σ.set a ao') := .upd e sb pr
  exact ⟨.next, ℓ, _, rfl, X.loc.step X.rel x, X.rel.upd e sb hor, x.own, ⟨rfl, rfl, rfl⟩, hq⟩
noncomputable def Wj (o i v : V) (σ : AH) (Q : AH → Prop) : Prop := match o with
  | .ref a => match σ a with
    | some (.list xs) => ∃ j : Nat, i = .int (j : Int) ∧ j < xs.length ∧ Q (σ.set a (.list (xs.set j v)))
    | some (.dictI kvs _) => ∃ k, i = .int k ∧ Xv (kvs.length + 1) ∧ ∀ ep, Q (σ.set a (.dictI (Zfb kvs k v) ep))
    | some (.dictT kvs _) => ∃ ks : List Int, i = .tup (ks.map V.int) ∧ Xv (kvs.length + 1) ∧ ∀ ep, Q (σ.set a (.dictT (Zfb kvs ks v) ep))
    | _ => False
  | _ => False
noncomputable def Wi (to ti tv : TE) : TS := fun ℓ σ Q E => tv ℓ σ (fun v σ₁ => to ℓ σ₁ (fun o σ₂ => ti ℓ σ₂ (fun i σ₃ => Wj o i v σ₃ fun σ' => Q .next ℓ σ') fun C σ' => E C ℓ σ') fun C σ' => E C ℓ σ') fun C σ' => E C ℓ σ'
theorem Zgl {h : Heap} {k : List Int} {x : V} {v : Value} {a : Addr} (hx : VR g h x v) {us : List (List Int × Addr × Value)} {kvs : List (List Int × V)} (hk : us.map (·.1) = kvs.map (·.1)) (hv : VRs g h (kvs.map (·.2)) (us.map (·.2.2))) :
    (storedH us k a v).map (·.1) = (Zfb kvs k x).map (·.1) ∧ VRs g h ((Zfb kvs k x).map (·.2)) ((storedH us k a v).map (·.2.2)) := by
  have rep : ∀ {us : List (List Int × Addr × Value)} {kvs : List (List Int × V)}, us.map (·.1) = kvs.map (·.1) → VRs g h (kvs.map (·.2)) (us.map (·.2.2)) →
      (us.map (putAt k v)).map (·.1) = (kvs.map (fun kv => if kv.1 = k then (kv.1, x) else kv)).map (·.1) ∧ VRs g h ((kvs.map (fun kv => if kv.1 = k then (kv.1, x) else kv)).map (·.2)) ((us.map (putAt k v)).map (·.2.2)) := by
    intro us
    induction us with
    | nil =>
      intro kvs hk hv
      cases kvs with
      | nil => exact ⟨rfl, Xq⟩
      | cons _ _ => simp at hk
    | cons u us ih =>
      intro kvs hk hv
      cases kvs with
      | nil => simp at hk
      | cons kv kvs =>
        simp only [List.map_cons, List.cons.injEq] at hk
        obtain ⟨w, ws, hw, hv1, hv2⟩ := Zn hv
        simp only [List.map_cons, List.cons.injEq] at hw
        obtain ⟨rfl, rfl⟩ := hw
        obtain ⟨i1, i2⟩ := ih hk.2 hv2
        simp only [List.map_cons]
        unfold putAt at i1 i2 ⊢
        by_cases z : u.1 = k
        · have z' : kv.1 = k := hk.1 ▸ z
          rw [if_pos z, if_pos z']
          exact ⟨by rw [i1]; simp [hk.1], Ys hx i2⟩
        · have z' : ¬ kv.1 = k := hk.1 ▸ z
          rw [if_neg z, if_neg z']
          exact ⟨by rw [i1]; simp [hk.1], Ys hv1 i2⟩
  have hany : (atKey us k).isSome = kvs.any fun kv => decide (kv.1 = k) := by
    rw [← Zp9 hk k]
    unfold atKey
    rw [Option.isSome_map, Bool.eq_iff_iff, List.find?_isSome]
    simp
  unfold storedH Zfb
  rw [hany]
  split
  · exact rep hk hv
  · exact ⟨by simp [hk], by simpa using Zbn hv (Ys hx Xq)⟩
variable {g : Gr} {sc csc : Scope} {r : Nat} {c : Bool} {K : Frag}
theorem Zb0 {K' : Type} [DecidableEq K'] {prog : Program} {w : World} {knd : KeyKind prog w K'} {h : Heap} {a : Addr} {kvs : List (K' × Value)} (x : h.DictOf knd a kvs) : ∃ ep, h.DictAt knd a kvs ep := let ⟨o, es, ep, r⟩ := x; ⟨ep, o, es, r⟩
theorem Yw {o i value : Expr} {pos' pos : Pos} {to ti tv : TE} (h1 : Xy g sc r c o to) (h2 : Xy g sc r c i ti) (h3 : Xy g sc r c value tv) (hs : ∀ env, swapsWith value (some (.Subscript o i pos')) pos.line env = pure false) :
    Zmk g sc r c (.Assign [.Subscript o i pos'] value pos) (Wi to ti tv) := .mk fun A env s ℓ σ Q E X h => by
  refine wpAny_Assign_Subscript (wpAny_mono (h3.run A env s ℓ σ _ _ X h) (fun v s₁ p => ?_) fun _ _ p => p.toS X) (hs env)
  refine Za3.elim p fun xv σ₁ hv hR1 hx1 hs1 hq => ?_
  have X1 := X.step hR1 hx1
  refine wpAny_mono (h1.run A env s₁ ℓ σ₁ _ _ X1 hq) (fun ov s₂ p => ?_) fun _ _ p => (p.toS X1).back hx1.own hs1
  refine Za3.elim p fun xo σ₂ ho hR2 hx2 hs2 hq => ?_
  have X2 := X1.step hR2 hx2
  have hx12 := hx1.trans hx2
  have hs12 := hs1.trans hs2
  refine wpAny_mono (h2.run A env s₂ ℓ σ₂ _ _ X2 hq) (fun iv s₃ p => ?_) fun _ _ p => (p.toS X2).back hx12.own hs12
  refine Za3.elim p fun xi σ₃ hi hR3 hx3 hs3 hq => ?_
  have X3 := X2.step hR3 hx3
  have hv3 := (hx2.trans hx3).vr hR1 Xo hv
  have ho3 := hx3.vr hR2 Xo ho
  refine wpAny_mono (Q := fun _ s' => Zd2 g env s₃ σ₃ Q .next s') ?_ (fun _ _ p => p.back (hx12.trans hx3).own (hs12.trans hs3)) fun _ _ (p : False) => p.elim
  unfold Wj at hq
  split at hq
  · rename_i a _
    rw [Yi.mp ho3]
    split at hq
    · rename_i xs e
      obtain ⟨j, rfl, hj, hq⟩ := hq
      obtain ⟨t, rfl⟩ := Z9.mp hi
      obtain ⟨hf, us, n, hou, hvs⟩ := (hR3.own a _ e).2
      have hlen : xs.length = us.size := by have := Zz hvs; simpa using this
      have hfl := hf
      unfold Xv at hfl
      refine Zip hou (by exact Zwk) (by exact Z3f hj hlen hfl) (by exact Z3e hj hlen) fun h' n' ho' sb => ?_
      refine Zdf (tk := s₃.toks) (ao' := .list (xs.set j xv)) X3 e sb (fun tk => ⟨by simpa using hf, _, n', ho', ?_⟩) hq
      have := Zqa (VR.mono tk hv3) j (VRs.mono tk hvs)
      simpa using this
    · rename_i kvs ep e
      obtain ⟨k, rfl, hft, hq⟩ := hq
      obtain ⟨t, rfl⟩ := Z9.mp hi
      obtain ⟨hf, us, hd, hk, hvs⟩ := (hR3.own a _ e).2
      have hlen : kvs.length = us.length := by have := congrArg List.length hk; simpa using this.symm
      refine wpAny_setItem_pairs (knd := intKind g.prog g.w) (k := k) (by simp [intKind, Value.isInt]) hd.dictOf (fun h' hd' sb => ?_) (by rw [← hlen]; exact hf.line)
      obtain ⟨ep', hd'⟩ := Zb0 hd'
      refine Zdf (ao' := .dictI (Zfb kvs k xv) ep') X3 e sb (fun tk => ?_) (hq ep')
      obtain ⟨p1, p2⟩ := Zmz (VR.mono tk hv3) hk (VRs.mono tk hvs)
      exact ⟨hft.le (Zgt _ _ _), _, hd', p1, p2⟩
    · rename_i kvs ep e
      obtain ⟨ks, rfl, hft, hq⟩ := hq
      obtain ⟨ka, rfl, nh, hka⟩ := Zbr hi
      obtain ⟨hf, us, hd, hk, hvs⟩ := (hR3.own a _ e).2
      have hlen : kvs.length = us.length := by have := congrArg List.length hk; simpa using this.symm
      refine wpAny_setItem_heap (knd := tupleKind (intKind g.prog g.w)) (tupleKind_room_in1 (by have := X3.room.cline; exact Zua this)) hka hd.ofH (fun h' hd' sb => ?_) (by rw [← hlen]; exact hf.line)
      obtain ⟨o', es', ep', g1, g2, g3, g4, g5, g6⟩ := hd'
      have hh : ∀ y ∈ us, ¬ g.hid y.2.1 := by obtain ⟨_, _, _, _, _, _, q, _⟩ := hd; exact fun y hy => (q y hy).1
      refine Zdf (ao' := .dictT (Zfb kvs ks xv) ep') X3 e sb (fun tk => ⟨hft.le (Zgt _ _ _), storedH us ks ka v, ⟨o', es', g1, g2, g3, g4, fun y hy => ⟨?_, g5 y hy⟩, g6⟩, (Zgl (VR.mono tk hv3) hk (VRs.mono tk hvs)).1, (Zgl (VR.mono tk hv3) hk (VRs.mono tk hvs)).2⟩) (hq ep')
      · unfold storedH at hy
        split at hy
        · obtain ⟨z, hz, rfl⟩ := List.mem_map.1 hy
          unfold putAt; split <;> exact hh z hz
        · rcases List.mem_append.1 hy with q | q
          · exact hh y q
          · rw [List.mem_singleton.1 q]; exact nh
    · exact hq.elim
  · exact hq.elim
end
section
open PySem PyProof.Rows
variable {g : Gr} {sc csc : Scope} {r : Nat} {c : Bool}
noncomputable def Zwi : TS := fun _ _ _ _ => False
theorem Zcb {st : Stmt} : Zmk g sc r c st Zwi := .mk fun A env s ℓ σ Q E X h => False.elim h
noncomputable def Zug (tt : TB) (tb : TS) : TS := fun ℓ σ Q E => ∃ I : Nat → Loc → AH → Prop, (∃ n, I n ℓ σ) ∧ ∀ n ℓ σ, I n ℓ σ → tt ℓ σ (fun b σ₂ => match b with
    | true => tb ℓ σ₂ (fun f ℓ₃ σ₃ => match f with
      | .next => ∃ m, m < n ∧ I m ℓ₃ σ₃
      | .cont => ∃ m, m < n ∧ I m ℓ₃ σ₃
      | .brk => Q .next ℓ₃ σ₃
      | .ret v => Q (.ret v) ℓ₃ σ₃) E
    | false => Q .next ℓ σ₂) fun C σ' => E C ℓ σ'
theorem Zhp {test : Expr} {body : List Stmt} {pos : Pos} {tt : TB} {tb : TS} (ht : Zn5 g sc r c test tt) (hb : Zhc g sc r c body tb) : Zmk g sc r c (.While test body [] pos) (Zug tt tb) := .mk fun A env s ℓ σ Q E X h => by
  obtain ⟨I, ⟨n0, h0⟩, hI⟩ := h
  refine wpAny_While (codeAny_whileLoop (fun n s' => ∃ ℓ' σ', I n ℓ' σ' ∧ LR g s'.heap σ' env ℓ' ∧ Rel g s'.heap σ' ∧ Ext (Own env) s.heap σ s'.heap σ' ∧ Zbo s s') ?_ n0 ⟨ℓ, σ, h0, X.loc, X.rel, .refl, .refl⟩)
  rintro n s' ⟨ℓ', σ', hi, hL, hR, hx, hsm⟩
  have X' : Cx g sc r c A env s'.heap σ' ℓ' := X.stepS hL hR hx
  refine wpAny_mono (ht.run A env s' ℓ' σ' _ _ X' (hI n ℓ' σ' hi)) (fun b s₂ p => ?_) fun e s₂ p => ((p.toS X').back hx hsm).noted fun e s' p => p.came fun e s' p => p
  obtain ⟨b', σ₂, rfl, hR2, hx2, hs2, hq⟩ := p
  have X2 := X'.step hR2 hx2
  have hx02 : Ext (Own env) s.heap σ s₂.heap σ₂ := hx.trans hx2.own
  have hs02 : Zbo s s₂ := hsm.trans hs2
  cases b' with
  | true =>
    simp only [if_true]
    refine wpAny_mono (hb.run A env s₂ ℓ' σ₂ _ E X2 hq) (fun f s₃ p => ?_) fun e s₃ p => (p.back hx02 hs02).noted fun e s' p => p.came fun e s' p => p
    obtain ⟨f', ℓ₃, σ₃, hf', hL3, hR3, hx3, hs3, hq⟩ := p
    cases f' with
    | next => cases hf'; obtain ⟨m, hm, hi'⟩ := hq; exact ⟨m, hm, ℓ₃, σ₃, hi', hL3, hR3, hx02.trans hx3, hs02.trans hs3⟩
    | cont => cases hf'; obtain ⟨m, hm, hi'⟩ := hq; exact ⟨m, hm, ℓ₃, σ₃, hi', hL3, hR3, hx02.trans hx3, hs02.trans hs3⟩
    | brk => cases hf'; exact ⟨.next, ℓ₃, σ₃, rfl, hL3, hR3, hx02.trans hx3, hs02.trans hs3, hq⟩
    | ret v => obtain ⟨u, rfl, hu⟩ := hf'; exact ⟨.ret v, ℓ₃, σ₃, ⟨u, rfl, hu⟩, hL3, hR3, hx02.trans hx3, hs02.trans hs3, hq⟩
  | false =>
    simp only [Bool.false_eq_true, if_false]
    exact wpAny_execs_nil ⟨.next, ℓ', σ₂, rfl, X2.loc, hR2, hx02, hs02, hq⟩
theorem Zjv (a I : Addr) (kvs : List (Int × V)) (ep : Nat) : Zhj g (kvs.map (·.2)) (fun σ => σ a = some (.dictI kvs ep)) I (· = I) (fun k h => h.IsValIter I a k kvs.length ep) false where
  stab := fun k h h' st _ kp => st.at fun o e => kp I o rfl e
  flds := fun k h b st e => by subst e; obtain ⟨o, ho, _, hd⟩ := st; exact ⟨o, ho, .inr ⟨_, hd⟩⟩
  self := fun k A E s Q st h => wpAny_pyIter_valiter st h
  item := fun k x A E s σ target Q hx st R iv off _ h => by
    obtain ⟨hf, us, hd, hk, hv⟩ := (R.own a _ iv).2
    have hlen : kvs.length = us.length := by have := congrArg List.length hk; simpa using this.symm
    obtain ⟨v, e, hxv⟩ := Zee hv hx
    rw [List.getElem?_map] at e
    cases eu : us[k]? with
    | none => rw [eu] at e; cases e
    | some p =>
      obtain ⟨kk, v'⟩ := p
      rw [eu] at e; cases e
      obtain ⟨oI, hoI, hcI, hdI⟩ := id st
      refine wpAny_pyNext_values_item (hlen ▸ st) hd eu fun h' st' sb => ?_
      obtain ⟨o', ho', hc', hd'⟩ := id st'
      refine Zbu ho' hc' hd' (by decide) (h _ _ (fun b o nb e => sb.extBut b o nb e) ⟨rfl, rfl, rfl⟩ (hlen ▸ st') (VR.mono (Zdb hoI hdI sb.extBut) hxv))
  last := fun k A E s σ Q hk' hh st R iv off h => by
    obtain ⟨hf, us, hd, hk, hv⟩ := (R.own a _ iv).2
    have hlen : kvs.length = us.length := by have := congrArg List.length hk; simpa using this.symm
    refine wpAny_pyNext_values_end hh (hlen ▸ st) hd (List.getElem?_eq_none (by simpa [hlen] using hk')) fun h' eb => h { s with heap := h' } (fun b o nb e => eb b o nb e) ⟨rfl, rfl, rfl⟩
noncomputable def Zii (t : TE) : TI := fun ℓ σ Q E => t ℓ σ (fun x σ₁ => match x with
  | .ref a => match σ₁ a with | some (.dictI kvs ep) => Q (kvs.map (·.2)) (fun σ => σ a = some (.dictI kvs ep)) false σ₁ | _ => False
  | _ => False) E
theorem Zd7 {e : Expr} {apos pos : Pos} {t : TE} (h1 : Xy g sc r c e t) (hbase : Ze1 e = false) (hline : (apos.endLine == pos.line) = true) : Zt1 g sc r c (.Call (.Attribute e (Str.ofString "values") apos) [] [] pos) (Zii t) := .mk fun A env s ℓ σ Q E X h => by
  refine wpAny_Call_method (Zdz hbase) (Ze3 (args := []) rfl rfl) hline F.plainAttrs_dict F.slot_dict_values F.type_dict_values (wpAny_mono (h1.run A env s ℓ σ _ E X h) (fun v s₁ p => ?_) fun _ _ p => p)
  refine Za3.elim p fun x σ₁ hv hR hx hs1 hq => ?_
  cases x with
  | ref a =>
    rw [Yi.mp hv]
    simp only at hq
    split at hq
    · rename_i kvs ep e
      obtain ⟨hf, us, hd, hk, hvs⟩ := (hR.own a _ e).2
      have hlen : kvs.length = us.length := by have := congrArg List.length hk; simpa using this.symm
      have ht := Zig hR hv (T := "dict") (by simp [Zob, e])
      rw [Yi.mp hv] at ht
      refine ⟨ht.1, ht.2, ?_⟩
      refine X8 (g := g) (.inr (.inl ⟨_, rfl⟩)) (Wz (es := []) rfl pos env) (Calls.spliced_nil ⟨fun a o e => hR.base a o e, ?_⟩)
      refine call_meetsIn F.slot_dict_values hd.dictOf.typeIs F.entry_dict_values (F.args_dict_values_1 _) (meets_dict_values (intKind g.prog g.w) a (Xk X.gok hR e)) ⟨⟨us, hd.dictOf⟩, ?_⟩
      have kp := Xg s₁.heap { cls := .type "dict_values", data := .fields #[.ref a] }
      refine wpAny_pyIter_values (knd := intKind g.prog g.w) ⟨_, Heap.get?_push_size _ rfl, rfl, rfl⟩ (hd.push _) ?_
      rw [← hlen]
      exact Zdg (s₁ := { s₁ with heap := s₁.heap.push { cls := .type "dict_values", data := .fields #[.ref a] } }) (hR.keeps kp) (hx.trans (.keeps kp)) (hs1.trans ⟨rfl, rfl, rfl⟩) (Zjv a _ kvs ep) ⟨_, Heap.get?_push_size _ rfl, rfl, rfl⟩ (by simpa using hf) hq
    · exact hq.elim
  | _ => exact hq.elim
theorem Zfo {α : Type} {t : Tgt} {inv : AH → Prop} {tifs : TB} {telt : TE} {ℓ : Loc} {σ : AH} {Q : List V → AH → Prop} {E : Addr → AH → Prop} (f : α → V) (p : α → Bool) (F : α → V) (hinv : ∀ σ', Sub σ σ' → inv σ') :
    ∀ (xs : List α) (acc : List V) (σ₀ : AH), Sub σ σ₀ → (∀ x ∈ xs, ∀ σ', Sub σ σ' → ∃ ℓ₁, (∀ P : Loc → Prop, P ℓ₁ → Xd t (f x) ℓ.bare σ' P) ∧ (∀ Qb : Bool → AH → Prop, (∀ σ'', Sub σ' σ'' → Qb (p x) σ'') → tifs ℓ₁ σ' Qb E) ∧
        (p x = true → ∀ σ'', Sub σ' σ'' → ∀ Qv : V → AH → Prop, (∀ σ₃, Sub σ'' σ₃ → Qv (F x) σ₃) → telt ℓ₁ σ'' Qv E)) →
      (∀ σ', Sub σ σ' → Q (acc ++ (xs.filter p).map F) σ') → Ze5 t inv tifs telt ℓ (xs.map f) acc σ₀ Q E
  | [], acc, σ₀, h0, _, h => ⟨hinv σ₀ h0, by simpa using h σ₀ h0⟩
  | x :: xs, acc, σ₀, h0, hs, h => by
    obtain ⟨ℓ₁, h1, h2, h3⟩ := hs x (.head _) σ₀ h0
    have ih := Zfo (t := t) (inv := inv) (tifs := tifs) (telt := telt) (ℓ := ℓ) (E := E) (Q := Q) f p F hinv xs
    refine ⟨hinv σ₀ h0, h1 _ (h2 _ fun σ₁ s1 => ?_)⟩
    cases e : p x with
    | true =>
      refine h3 e σ₁ s1 _ fun σ₂ s2 => ih _ σ₂ ((h0.trans s1).trans s2) (fun y hy => hs y (.tail _ hy)) fun σ' hσ' => ?_
      have := h σ' hσ'
      rw [List.filter_cons_of_pos (by simpa using e)] at this
      simpa using this
    | false =>
      refine ih _ σ₁ (h0.trans s1) (fun y hy => hs y (.tail _ hy)) fun σ' hσ' => ?_
      have := h σ' hσ'
      rw [List.filter_cons_of_neg (by simp [e])] at this
      exact this
end
section
open PySem PySem.W PyProof.Rows
variable {g : Gr} {sc csc : Scope} {r : Nat} {c : Bool} {K : Frag}
theorem Zbg {s : Shared} {σ : AH} {Q : V → AH → Prop} {h' : Heap} {tk : Nat} {b : Addr} {us : Array Value} {n : Nat} {xs : List V} (R : Rel g s.heap σ) (kp : ∀ a o, s.heap.get? a = some o → h'.get? a = some o) (hb : s.heap.get? b = none) (ho : h'.get? b = some { cls := .type "list", data := .seq us n }) (hf : Xv xs.length)
    (hv : VRs g h' xs us.toList) (hq : σ b = none → Q (.ref b) (σ.set b (.list xs))) : Zbj g s σ Q (.ref b) { s with heap := h', toks := tk } :=
  ⟨.ref b, _, Yi.mpr rfl, R.alloc (ao := .list xs) kp hb ⟨hf, us, n, ho, hv⟩, .alloc kp hb, ⟨rfl, rfl, rfl⟩, hq (R.fresh hb)⟩
noncomputable def Zho (t : TE) : TE := fun ℓ σ Q E => t ℓ σ (fun x σ₁ => match x with | .int n => 0 ≤ n ∧ Xv n.toNat ∧ (∀ a, σ₁ a = none → Q (.ref a) (σ₁.set a (.list (X9 0 n.toNat)))) | _ => False) E
theorem Znc {h : Heap} {n : Nat} {acc : List Value} (hl : acc.length = n) (hv : ∀ (i : Nat) v, acc[i]? = some v → ∃ t, v = Value.int (i : Int) t) : VRs g h (X9 0 n) acc := by
  have key : ∀ (acc : List Value) (k : Nat), (∀ (i : Nat) v, acc[i]? = some v → ∃ t, v = Value.int ((k + i : Nat) : Int) t) → VRs g h ((List.range' k acc.length).map fun (i : Nat) => V.int (i : Int)) acc := by
    intro acc
    induction acc with
    | nil => intro k _; exact Xq
    | cons a acc ih =>
      intro k h1
      rw [List.length_cons, List.range'_succ, List.map_cons]
      refine Ys (Z9.mpr ?_) (ih (k + 1) fun i v e => ?_)
      · simpa using h1 0 a rfl
      · obtain ⟨t, q⟩ := h1 (i + 1) v (by simpa using e)
        exact ⟨t, by rw [q]; congr 1; exact Z3d⟩
  have := key acc 0 (by simpa using hv)
  rw [hl] at this
  unfold X9
  rw [List.range_eq_range']
  simpa using this
theorem Zhf {e : Expr} {p p' pos pos' : Pos} {t : TE} (hm : (Str.ofString "list", NameKind.globalImplicit) ∈ sc.names) (hb : Wn g "list" (.type "list")) (hm' : (Str.ofString "range", NameKind.globalImplicit) ∈ sc.names) (hb' : Wn g "range" (.type "range")) (h1 : Xy g sc r true e t) (hs : Zfy e = false) :
    Xy g sc r true (.Call (.Name (Str.ofString "list") p) [.Call (.Name (Str.ofString "range") p') [e] [] pos'] [] pos) (Zho t) := .mk fun A env s ℓ σ Q E X h => by
  show wpAny _ A (do callWith pos (← eval (.Name (Str.ofString "list") p) env) [] (backTo pos (starEach [.Call (.Name (Str.ofString "range") p') [e] [] pos'] env)) (backToKw pos (keywordEach [] env))) _ _ s
  refine wpAny_bind (X7 X hm hb ?_)
  rw [Xe (es := []) env rfl]
  refine X8 (.inr (.inr ⟨_, rfl⟩)) rfl ?_
  show wpAny _ A (spliced [(false, eval (.Call (.Name (Str.ofString "range") p') [e] [] pos') env)]) _ _ s
  refine Calls.spliced_cons ?_
  show wpAny _ A (do callWith pos' (← eval (.Name (Str.ofString "range") p') env) [] (backTo pos' (starEach [e] env)) (backToKw pos' (keywordEach [] env))) _ _ s
  refine wpAny_bind (X7 X hm' hb' ?_)
  rw [Xe (es := []) env hs]
  refine X8 (.inr (.inr ⟨_, rfl⟩)) rfl ?_
  show wpAny _ A (spliced [(false, eval e env)]) _ _ s
  refine Calls.spliced_cons (wpAny_mono (h1.run A env s ℓ σ _ E X h) (fun v s₁ p => ?_) fun _ _ p => p)
  refine Za3.elim p fun x σ₁ hv hR hx hs1 hq => ?_
  refine Calls.spliced_nil ⟨fun a o e => hR.base a o e, ?_⟩
  cases x with
  | int n =>
    obtain ⟨t, rfl⟩ := Z9.mp hv
    refine call_range_1 ?_
    have kp := Xg s₁.heap { cls := .type "range", data := .fields #[.int 0 s₁.toks, .int n t, .int 1 (s₁.toks + 1)] }
    obtain ⟨h0, hf, hq⟩ := hq
    have hn : n.toNat ≤ 1000000 := hf
    have hR' := hR.keeps kp
    refine Calls.spliced_nil ⟨fun a o e => hR'.base a o e, ?_⟩
    refine call_list_range (n := n.toNat) (s := { s₁ with heap := s₁.heap.push { cls := .type "range", data := .fields #[.int 0 s₁.toks, .int n t, .int 1 (s₁.toks + 1)] }, toks := s₁.toks + 2 }) (X.room.calm rfl) (IsRange.new ..) (small_one (by decide) (by decide) (by exact Z3c h0) (by exact Z3b hn)) (by rw [rangeSize_one]; split <;> omega) (by exact Z3a hn) fun h' tk acc c' hk ho hacc => ?_
    have x1 : Ext No s.heap σ (s₁.heap.push { cls := .type "range", data := .fields #[.int 0 s₁.toks, .int n t, .int 1 (s₁.toks + 1)] }) σ₁ := hx.trans (.keeps kp)
    refine Za3.back (s₁ := { s₁ with heap := s₁.heap.push { cls := .type "range", data := .fields #[.int 0 s₁.toks, .int n t, .int 1 (s₁.toks + 1)] }, toks := s₁.toks + 2 }) x1 (hs1.trans ⟨rfl, rfl, rfl⟩) ?_
    refine Zbg (s := { s₁ with heap := s₁.heap.push { cls := .type "range", data := .fields #[.int 0 s₁.toks, .int n t, .int 1 (s₁.toks + 1)] }, toks := s₁.toks + 2 }) (xs := X9 0 n.toNat) hR' hk (Z4 _) ho (by simpa [X9] using hf) (Znc (by rw [Array.length_toList]; exact hacc.1) fun i v e => ?_) (hq _)
    obtain ⟨t, q⟩ := hacc.2 i v (by rw [← Array.getElem?_toList]; exact e)
    exact ⟨t, by rw [q]; congr 1; exact Z29⟩
  | _ => exact hq.elim
end
section
open PySem PySem.W PyProof.Rows
variable {prog : Program} {w : World}
noncomputable def Zl1 (a b : Int × Int × Int) : Bool := if a.1 = b.1 then (if a.2.1 = b.2.1 then decide (a.2.2 < b.2.2) else decide (a.2.1 < b.2.1)) else decide (a.1 < b.1)
theorem Zgf {A : Around} {s : Shared} (a b : Int) (t u : Tok) : SeqAt.EqAt A s (.int a t) (.int b u) (a == b) := SeqAt.EqAt.int_int a t b u
theorem Zq1 {A : Around} {E : Value → Shared → Prop} {s : Shared} {Q : Value → Shared → Prop} {p q : Addr} {op oq : Obj} {xs ys : Array Value} {n m : Nat} {a b : Int × Int × Int} {t1 t2 t3 u1 u2 u3 : Tok} {x y : Value}
    (hp : s.heap.get? p = some op) (cp : op.cls = .type "tuple") (dp : op.data = .seq xs n) (hq : s.heap.get? q = some oq) (cq : oq.cls = .type "tuple") (dq : oq.data = .seq ys m)
    (hx : xs.toList = [.int a.1 t1, .int a.2.1 t2, .int a.2.2 t3, x]) (hy : ys.toList = [.int b.1 u1, .int b.2.1 u2, .int b.2.2 u3, y]) (he : a = b → SeqAt.EqAt A.in1 s x y true) (hu : A.units < cLine)
    (h : Q (.bool (Zl1 a b)) s) : wpAny (model prog w) A (richCompare .Lt (.ref p) (.ref q)) Q E s := by
  refine wpAny_richCompare_same_room (op := .Lt) ⟨_, hp, cp⟩ ⟨_, hq, cq⟩ F.slot_tuple_lt (wpAny_call_entry F.slot_tuple_lt ⟨_, hp, cp⟩ F.entry_tuple_lt ?_ (F.args_tuple_lt_2 _ _)) hu
  show wpAny _ _ (isInstance (.ref q) (.type "tuple") >>= _) _ _ s
  refine wpAny_bind (wpAny_isInstance ⟨_, hq, cq⟩ isSubtype_tuple_tuple ?_)
  simp only [Bool.not_true, Bool.false_eq_true, if_false]
  refine wpAny_bind (wpAny_tupleItemsOf hp dp ?_)
  refine wpAny_bind (wpAny_tupleItemsOf hq dq ?_)
  rw [hx, hy]
  simp only [List.zip_cons_cons, List.zip_nil_left, List.forIn_cons, List.forIn_nil]
  have lt : ∀ {P : Value → Shared → Prop} {x y : Int} {t u : Tok}, P (.bool (decide (x < y))) s → wpAny (model prog w) A.in1 (richCompare .Lt (.int x t) (.int y u)) P E s := fun {P x y t u} hP =>
    richCompare_gives (op := .Lt) (typeIs_int s _ t) (typeIs_int s _ u) F.slot_int_lt F.entry_int_lt (F.args_int_lt_2 _ _) (gives_int_lt _ _ t u) (fun x => nomatch x) hP
  refine wpAny_bind (wpAny_bind (wpAny_bind (Zgf _ _ _ _ _ _ _ _ ?_)))
  by_cases h1 : a.1 = b.1
  case neg =>
    rw [if_pos (by simp [h1])]
    refine wpAny_bind (wpAny_rule (wpAny_bind (lt ?_)))
    refine wpAny_bind (wpAny_pure (wpAny_pure (wpAny_pure (wpAny_pure ⟨_, rfl, (fun e => nomatch e), ?_⟩))))
    unfold Zl1 at h; rw [if_neg h1] at h; exact h
  case pos =>
    rw [if_neg (by simp [h1])]
    refine wpAny_pure (wpAny_bind (wpAny_bind (Zgf _ _ _ _ _ _ _ _ ?_)))
    by_cases h2 : a.2.1 = b.2.1
    case neg =>
      rw [if_pos (by simp [h2])]
      refine wpAny_bind (wpAny_rule (wpAny_bind (lt ?_)))
      refine wpAny_bind (wpAny_pure (wpAny_pure (wpAny_pure (wpAny_pure ⟨_, rfl, (fun e => nomatch e), ?_⟩))))
      unfold Zl1 at h; rw [if_pos h1, if_neg h2] at h; exact h
    case pos =>
      rw [if_neg (by simp [h2])]
      refine wpAny_pure (wpAny_bind (wpAny_bind (Zgf _ _ _ _ _ _ _ _ ?_)))
      unfold Zl1 at h; rw [if_pos h1, if_pos h2] at h
      by_cases h3 : a.2.2 = b.2.2
      case neg =>
        rw [if_pos (by simp [h3])]
        refine wpAny_bind (wpAny_rule (wpAny_bind (lt ?_)))
        exact wpAny_bind (wpAny_pure (wpAny_pure (wpAny_pure (wpAny_pure ⟨_, rfl, (fun e => nomatch e), h⟩))))
      case pos =>
        rw [if_neg (by simp [h3])]
        have hab : a = b := by
          obtain ⟨a1, a2, a3⟩ := a; obtain ⟨b1, b2, b3⟩ := b
          simp only at h1 h2 h3; rw [h1, h2, h3]
        refine wpAny_pure (wpAny_bind (wpAny_bind (he hab _ _ _ _ ?_)))
        rw [if_neg (by simp)]
        refine wpAny_pure (wpAny_pure ?_)
        have hsx : xs.size = 4 := by rw [← Array.length_toList, hx]; rfl
        have hsy : ys.size = 4 := by rw [← Array.length_toList, hy]; rfl
        show wpAny _ _ (ret (Builtin.Tuple.tupleCompareSizes .Lt xs.size ys.size)) _ _ _
        rw [hsx, hsy]
        refine wpAny_pure ⟨_, rfl, (fun e => nomatch e), ?_⟩
        rw [h3] at h
        simpa [Builtin.Tuple.tupleCompareSizes] using h
section
variable {A : Around} {R : Result → Shared → Prop} {I : Addr} {fp wr : List Addr} {n : Nat} {P : Nat → Value → Prop} {St : Nat → Heap → Prop} {h0 : Heap}
noncomputable def Zhi (h0 h : Heap) : Prop := ∀ b o, h0.get? b = some o → h.get? b = some o
theorem Zpd (W : Walks prog w A.in1 I fp wr n P St) (bt : Nat → Nat → Bool) (hwr : ∀ b ∈ wr, h0.get? b = none)
    (hcmp : ∀ i j vi vj (s : Shared) (Q : Value → Shared → Prop) (E : Value → Shared → Prop), P i vi → P j vj → Zhi h0 s.heap → Q (.bool (bt i j)) s → wpAny (model prog w) A.in1 (richCompare .Lt vi vj) Q E s) (S : Addr) (hSf : S ∉ fp) (hS0 : h0.get? S = none) :
    ∀ (k j : Nat) (s : Shared) (vb : Value) (c : Nat), n - (j + 1) = k → j + 1 ≤ n → St (j + 1) s.heap → Zhi h0 s.heap → P (argBest bt j) vb →
    s.heap.get? S = some { cls := .type "list", dict := none, data := .seq #[vb, vb] c, slots := #[] } →
    (∀ v h' tk, P (argBest bt (n - 1)) v → Zhi h0 h' → R (.ok (.ret v)) { s with heap := h', toks := tk }) →
    codeAny (model prog w) A (.builtin "min.loop" ⟨[.ref I, .none, .ref S], []⟩) R s := by
  have hSw : S ∉ wr := fun h => hSf (W.sub _ h)
  have hname : (toString "min" ++ toString ".loop" : String) = "min.loop" := by decide
  have kpI : ∀ {h h' : Heap}, Zhi h0 h → (∀ b o, b ∉ wr → h.get? b = some o → h'.get? b = some o) → Zhi h0 h' := fun {h h'} k q b o e => q b o (fun hb => by rw [hwr b hb] at e; cases e) (k b o e)
  have kpS : ∀ {h : Heap} {f}, Zhi h0 h → Zhi h0 (h.update S f) := fun {h f} k b o e => (Heap.get?_update_other _ _ (fun z : S = b => by rw [← z, hS0] at e; cases e)).trans (k b o e)
  intro k
  induction k with
  | zero =>
    intro j s vb c hk hj hst kp hPb hS hR
    have hin : j + 1 = n := by exact Z28 hk hj
    refine codeAny_builtin F.entry_min_loop ?_
    rw [Around.under_plainId F.plain_min_loop _]
    show wpAny _ A.in1 (seqItems? (.ref S) >>= _) _ _ s
    refine wpAny_bind (wpAny_seqItems hS rfl ?_)
    show wpAny _ A.in1 (tryCatch (pyNext (.ref I)) _ >>= _) _ _ s
    refine wpAny_bind (wpAny_tryCatch (W.done s _ _ (hin ▸ hst) fun h' tk hk' => ?_))
    have hS' := hk' S _ hSw hS
    show wpAny _ A.in1 (updateSeq S (fun _ => #[]) >>= _) _ _ _
    refine wpAny_bind ?_
    refine wpAny_updateSeq hS' rfl (wpAny_bind (wpAny_letGo (wpAny_pure ?_)))
    exact hR vb _ tk (by rw [← hin]; exact hPb) (kpS (kpI kp hk'))
  | succ k ih =>
    intro j s vb c hk hj hst kp hPb hS hR
    have hlt : j + 1 < n := by exact Z27 hk hj
    refine codeAny_builtin F.entry_min_loop ?_
    rw [Around.under_plainId F.plain_min_loop _]
    show wpAny _ A.in1 (seqItems? (.ref S) >>= _) _ _ s
    refine wpAny_bind (wpAny_seqItems hS rfl ?_)
    show wpAny _ A.in1 (tryCatch (pyNext (.ref I)) _ >>= _) _ _ s
    refine wpAny_bind (wpAny_tryCatch (W.item (j + 1) s _ _ hlt hst fun v h' tk hP hst' hk' => ?_))
    have hS' := hk' S _ hSw hS
    have kp' := kpI kp hk'
    show wpAny _ A.in1 (tryCatch (holding [v, v] (richCompare .Lt v vb >>= _)) _ >>= _) _ _ _
    refine wpAny_bind (wpAny_tryCatch (wpAny_holding (wpAny_bind (hcmp (j + 1) (argBest bt j) v vb _ _ _ hP hPb kp' ?_))))
    refine wpAny_bind (wpAny_holding (wpAny_truthy_bool ?_))
    refine wpAny_bind (wpAny_letGo (wpAny_pure ?_))
    cases hb : bt (j + 1) (argBest bt j) with
    | true =>
      simp only [if_true]
      refine wpAny_bind ?_
      refine wpAny_updateSeq hS' rfl (wpAny_bind (wpAny_letGo ?_))
      rw [hname]
      refine wpAny_pure ⟨plainId_quiet F.plain_min_loop _, ih (j + 1) _ v _ (by exact Z2e hk hlt) hlt (W.frame _ _ _ hst' fun b hbf o e => ?_) (kpS kp') (by simp only [argBest, hb, if_true]; exact hP) (Heap.get?_update_self _ hS' rfl) fun v' h'' tk'' hP' hk'' => ?_⟩
      · exact (Heap.get?_update_other _ _ (fun h : S = b => hSf (by rw [h]; exact hbf))).trans e
      · exact hR v' h'' tk'' hP' hk''
    | false =>
      simp only [Bool.false_eq_true, if_false]
      refine wpAny_bind (wpAny_letGo ?_)
      rw [hname]
      refine wpAny_pure ⟨plainId_quiet F.plain_min_loop _, ih (j + 1) _ vb c (by exact Z2e hk hlt) hlt hst' kp' (by simp only [argBest, hb, Bool.false_eq_true, if_false]; exact hPb) hS' fun v' h'' tk'' hP' hk'' => ?_⟩
      exact hR v' h'' tk'' hP' hk''
end
theorem Zp5 {A : Around} {E : Value → Shared → Prop} {s : Shared} {l : Addr} {us : Array Value} (hh : A.handled = none) (hl : s.heap.IsList l us) (hne : 0 < us.size) (bt : Nat → Nat → Bool) {Q : Value → Shared → Prop}
    (hcmp : ∀ i j vi vj (s' : Shared) (Q : Value → Shared → Prop) (E : Value → Shared → Prop), us[i]? = some vi → us[j]? = some vj → Zhi s.heap s'.heap → Q (.bool (bt i j)) s' → wpAny (model prog w) A.in1 (richCompare .Lt vi vj) Q E s')
    (h : ∀ v h' tk, us[argBest bt (us.size - 1)]? = some v → Zhi s.heap h' → Q v { s with heap := h', toks := tk }) : wpAny (model prog w) A (call (.builtin "min") [.ref l]) Q E s := by
  have hname : (toString "min" ++ toString ".loop" : String) = "min.loop" := by decide
  have hlt : l < s.heap.objs.size := by obtain ⟨_, e, _⟩ := hl; exact Heap.lt_size e
  refine call_function_tree F.kind_min F.plain_min F.entry_min (F.args_min1 _) ?_
  show wpAny _ A.in1 (Builtin.Builtins.bindParams "min" ["key", "default"] 0 ⟨[], []⟩ >>= _) _ _ s
  refine wpAny_bind (wpAny_of_eq (show Builtin.Builtins.bindParams "min" ["key", "default"] 0 ⟨[], []⟩ = pure [none, none] from rfl) ?_)
  refine wpAny_bind (wpAny_pure ?_)
  refine wpAny_bind (wpAny_pyIter_list hl ?_)
  have W := Walks.list (prog := prog) (w := w) (A := A.in1) (by exact hh) s.heap.objs.size l (Nat.ne_of_lt hlt) us
  refine wpAny_bind (wpAny_newObj_type ?_)
  rw [hname]
  have kp1 := Xg s.heap { cls := .type "list_iterator", data := .fields #[.ref l, .int 0 0] }
  have st0 : (fun i h => Heap.IsListIter h s.heap.objs.size l i ∧ h.IsList l us) 0 (s.heap.push { cls := .type "list_iterator", data := .fields #[.ref l, .int 0 0] }) := ⟨⟨_, Heap.get?_push_size _ rfl, rfl, rfl⟩, hl.push _⟩
  have hsz : (s.heap.push { cls := .type "list_iterator", data := .fields #[.ref l, .int 0 0] }).objs.size = s.heap.objs.size + 1 := size_push' _ _
  have hSf : (s.heap.push { cls := .type "list_iterator", data := .fields #[.ref l, .int 0 0] }).objs.size ∉ [s.heap.objs.size, l] := by
    rw [hsz]; simp; exact fun q => by have h2 : s.heap.objs.size < s.heap.objs.size + 1 := Nat.lt_succ_self _; rw [q] at h2; exact Nat.lt_asymm hlt h2
  have kp2 := Xg (s.heap.push { cls := .type "list_iterator", data := .fields #[.ref l, .int 0 0] }) { cls := .type "list", data := .seq #[] }
  refine wpAny_pure ⟨plainId_quiet F.plain_min_loop _, ?_⟩
  refine codeAny_builtin F.entry_min_loop ?_
  rw [Around.under_plainId F.plain_min_loop _]
  show wpAny _ A.in1 (seqItems? (.ref (s.heap.push { cls := .type "list_iterator", data := .fields #[.ref l, .int 0 0] }).objs.size) >>= _) _ _ _
  refine wpAny_bind (wpAny_seqItems (Heap.get?_push_size _ rfl) rfl ?_)
  show wpAny _ A.in1 (tryCatch (pyNext (.ref s.heap.objs.size)) _ >>= _) _ _ _
  refine wpAny_bind (wpAny_tryCatch (W.item 0 _ _ _ hne (W.frame _ _ _ st0 fun b _ o e => kp2 b o e) fun v h' tk hP hst' hk' => ?_))
  have hS' := hk' (s.heap.push { cls := .type "list_iterator", data := .fields #[.ref l, .int 0 0] }).objs.size _ (by rw [hsz]; simp) (Heap.get?_push_size _ rfl)
  show wpAny _ A.in1 (updateSeq (s.heap.push { cls := .type "list_iterator", data := .fields #[.ref l, .int 0 0] }).objs.size (fun _ => #[v, v]) >>= _) _ _ _
  refine wpAny_bind ?_
  refine wpAny_updateSeq hS' rfl ?_
  rw [hname]
  have hS0 : s.heap.get? (s.heap.push { cls := .type "list_iterator", data := .fields #[.ref l, .int 0 0] }).objs.size = none := Heap.get?_none_of_le (by rw [hsz]; exact Nat.le_succ _)
  have kp3 : Zhi s.heap h' := fun b o e => hk' b o (by simp; exact Nat.ne_of_lt (Heap.lt_size e)) (kp2 b o (kp1 b o e))
  refine wpAny_pure ⟨plainId_quiet F.plain_min_loop _, Zpd (h0 := s.heap) W bt (fun b hb => ?_) hcmp _ hSf hS0 _ 0 _ v _ rfl hne (W.frame _ _ _ hst' fun b hbf o e => ?_) (fun b o e => ?_) hP (Heap.get?_update_self _ hS' rfl) fun v' h'' tk'' hP' hk'' => ?_⟩
  · simp at hb; subst hb; exact Z4 _
  · exact (Heap.get?_update_other _ _ (fun z => hSf (by rw [z]; exact hbf))).trans e
  · exact (Heap.get?_update_other _ _ (fun z => by rw [z] at hS0; rw [hS0] at e; cases e)).trans (kp3 b o e)
  · exact h v' h'' tk'' hP' hk''
variable {g : Gr} {sc : Scope} {r : Nat} {c : Bool}
noncomputable def Zkm (t : Int × Int × Int × Addr) : V := .tup [.int t.1, .int t.2.1, .int t.2.2.1, .ref t.2.2.2]
noncomputable def tri (t : Int × Int × Int × Addr) : Int × Int × Int := (t.1, t.2.1, t.2.2.1)
inductive Zv1 (xs : List V) (σ : AH) (Q : V → AH → Prop) : Prop
  | mk (a : Addr) (es : List (Int × Int × Int × Addr)) (h1 : xs = [.ref a]) (h2 : σ a = some (.list (es.map Zkm))) (h3 : es ≠ []) (h4 : ∀ t ∈ es, ∃ ns : List Int, σ t.2.2.2 = some (.list (ns.map V.int)) ∧ ∀ t' ∈ es, tri t = tri t' → σ t'.2.2.2 = some (.list (ns.map V.int)))
    (h5 : ∀ t ∈ es, (∀ t' ∈ es, t.1 ≤ t'.1) → Q (Zkm t) σ) : Zv1 xs σ Q
noncomputable def Zwe : TF := fun xs σ Q _ => Zv1 xs σ Q
theorem Zrm {a b : Int × Int × Int} (q : Zl1 a b = true) : a.1 ≤ b.1 := by
  unfold Zl1 at q
  split at q
  · omega
  · have := of_decide_eq_true q; exact Z26 this
theorem Ztl {a b : Int × Int × Int} (q : ¬ Zl1 a b = true) : b.1 ≤ a.1 := by
  unfold Zl1 at q
  split at q
  · omega
  · have : ¬ a.1 < b.1 := fun z => q (by simpa using z)
    exact Z2l this
theorem Zex (val : Nat → Int × Int × Int) : ∀ k i, i ≤ k → (val (argBest (fun i j => Zl1 (val i) (val j)) k)).1 ≤ (val i).1
  | 0, i, h => by have : i = 0 := by exact Zwo h
                  subst this; exact Int.le_refl _
  | k + 1, i, h => by
    have ih := Zex val k
    unfold argBest
    split
    · rename_i q
      have hle : (val (k + 1)).1 ≤ (val (argBest (fun i j => Zl1 (val i) (val j)) k)).1 := Zrm q
      rcases Nat.lt_or_ge i (k + 1) with w | w
      · have := ih i (by exact Zt9 w); exact Z25 hle this
      · have : i = k + 1 := by exact Zt8 h w
        subst this; exact Zwn
    · rename_i q
      rcases Nat.lt_or_ge i (k + 1) with w | w
      · exact ih i (by exact Zt9 w)
      · have : i = k + 1 := by exact Zt8 h w
        subst this
        exact Ztl q
theorem Ziv {h : Heap} {es : List (Int × Int × Int × Addr)} {vs : List Value} (hv : VRs g h (es.map Zkm) vs) {i : Nat} {v : Value} (e : vs[i]? = some v) : ∃ t, es[i]? = some t ∧ ∃ a o us n t1 t2 t3, v = .ref a ∧ h.get? a = some o ∧ o.cls = .type "tuple" ∧ o.data = .seq us n ∧ us.toList = [.int (tri t).1 t1, .int (tri t).2.1 t2, .int (tri t).2.2 t3, .ref t.2.2.2] := by
  have hlen := Zz hv
  have hi : i < es.length := by
    rcases Nat.lt_or_ge i es.length with q | q
    · exact q
    · rw [List.getElem?_eq_none (by rw [← hlen]; simpa using q)] at e; cases e
  obtain ⟨u, e', hu⟩ := Zee hv (i := i) (x := Zkm es[i]) (by simp [hi])
  rw [e] at e'; cases e'
  refine ⟨es[i], by simp [hi], ?_⟩
  obtain ⟨_, a, o, us, n, rfl, _, ho, hc, hd, hvs⟩ := Wq.mp hu
  obtain ⟨u1, r1, q1, h1, hvs⟩ := Zn hvs
  obtain ⟨u2, r2, rfl, h2, hvs⟩ := Zn hvs; clear hvs
  obtain ⟨u3, r3, rfl, h3, hvs⟩ := Zn hvs; clear hvs
  obtain ⟨u4, r4, rfl, h4, hvs⟩ := Zn hvs; clear hvs
  rw [Z2 hvs] at q1
  obtain ⟨t1, rfl⟩ := Z9.mp h1
  obtain ⟨t2, rfl⟩ := Z9.mp h2
  obtain ⟨t3, rfl⟩ := Z9.mp h3
  rw [Yi.mp h4] at q1
  exact ⟨a, o, us, n, t1, t2, t3, rfl, ho, hc, hd, q1⟩
theorem Zoi : Zfs g r (.builtin "min") Zwe := .mk fun A s σ xs vs Q E G F Rm R hv h => by
  obtain ⟨a, es, rfl, ea, hne, hsame, h⟩ := h
  obtain ⟨v, _, rfl, hx, hr⟩ := Zn hv
  rw [Z2 hr, Yi.mp hx]
  obtain ⟨hf, us, n, ho, hvs⟩ := (R.own a _ ea).2
  have hlen : es.length = us.size := by have := Zz hvs; simpa using this
  have hpos : 0 < us.size := by rw [← hlen]; exact List.length_pos_iff.mpr hne
  refine Zp5 (Rm.calm rfl) ⟨_, ho, rfl, n, rfl⟩ hpos (fun i j => Zl1 (tri (es.getD i (0, 0, 0, 0))) (tri (es.getD j (0, 0, 0, 0)))) (fun i j vi vj s' Q' E' hi hj kp hq => ?_) fun v h' tk hv' kp => ?_
  · obtain ⟨ti, ei, pa, po, pus, pn, t1, t2, t3, rfl, ho1, hc1, hd1, hl1⟩ := Ziv hvs (by rw [Array.getElem?_toList]; exact hi)
    obtain ⟨tj, ej, qa, qo, qus, qn, u1, u2, u3, rfl, ho2, hc2, hd2, hl2⟩ := Ziv hvs (by rw [Array.getElem?_toList]; exact hj)
    have di : es.getD i (0, 0, 0, 0) = ti := by rw [List.getD_eq_getElem?_getD, ei]; rfl
    have dj : es.getD j (0, 0, 0, 0) = tj := by rw [List.getD_eq_getElem?_getD, ej]; rfl
    rw [di, dj] at hq
    refine Zq1 (kp _ _ ho1) hc1 hd1 (kp _ _ ho2) hc2 hd2 hl1 hl2 (fun e => ?_) (by have := Rm.cline; show A.units + 1 < _; exact Zua this) hq
    obtain ⟨ns, e1, e2⟩ := hsame ti (List.mem_of_getElem? ei)
    have e2 := e2 tj (List.mem_of_getElem? ej) e
    by_cases z : ti.2.2.2 = tj.2.2.2
    · rw [z]; exact SeqAt.EqAt.same _
    · obtain ⟨_, lu, ln, lo, lv⟩ := (R.own _ _ e1).2
      obtain ⟨_, mu, mn, mo, mv⟩ := (R.own _ _ e2).2
      have hi1 := Zch lv
      have hi2 := Zch mv
      have ll : lu.size = mu.size := by
        have h1 := Zz lv; have h2 := Zz mv
        simp at h1 h2; exact Z24 h1 h2
      refine SeqAt.EqAt.of_refs z ?_
      have hall : (List.range lu.size).all (fun _ => true) = true := by simp
      rw [← hall]
      refine SeqAt.RcAt.lists ⟨_, kp _ _ lo, rfl, ln, rfl⟩ ⟨_, kp _ _ mo, rfl, mn, rfl⟩ ll (by have := Rm.cline; show A.units + 1 + 1 < _; exact Z23 this) fun k h1 h2 => ?_
      obtain ⟨t, q1⟩ := Zc1 lv k lu[k] (by simp [h1])
      obtain ⟨u, q2⟩ := Zc1 mv k mu[k] (by simp [h2])
      rw [q1, q2]
      have := Zgf (A := A.in1.in1.in1) (s := s') (ns.getD k 0) (ns.getD k 0) t u
      simpa using this
  · obtain ⟨t, et, _⟩ := Ziv hvs (by rw [Array.getElem?_toList]; exact hv')
    have hb := Zd0 (fun i j => Zl1 (tri (es.getD i (0, 0, 0, 0))) (tri (es.getD j (0, 0, 0, 0)))) (us.size - 1)
    obtain ⟨w, e', hw⟩ := Zee hvs (i := argBest (fun i j => Zl1 (tri (es.getD i (0, 0, 0, 0))) (tri (es.getD j (0, 0, 0, 0)))) (us.size - 1)) (x := Zkm t) (by rw [List.getElem?_map, et]; rfl)
    rw [Array.getElem?_toList, hv'] at e'; cases e'
    refine .keeps kp ⟨rfl, rfl, rfl⟩ (VR.mono (fun a o _ _ _ e _ _ => .of (kp a o e)) hw) R (h t (List.mem_of_getElem? et) fun t' ht' => ?_)
    obtain ⟨i, hi, rfl⟩ := List.getElem_of_mem ht'
    have := Zex (fun i => tri (es.getD i (0, 0, 0, 0))) (us.size - 1) i (by exact Z22 hlen hpos hi)
    have d1 : es.getD (argBest (fun i j => Zl1 (tri (es.getD i (0, 0, 0, 0))) (tri (es.getD j (0, 0, 0, 0)))) (us.size - 1)) (0, 0, 0, 0) = t := by rw [List.getD_eq_getElem?_getD, et]; rfl
    have d2 : es.getD i (0, 0, 0, 0) = es[i] := by simp [hi]
    simp only [d1, d2] at this
    exact this
end
section
open PySem PySem.W PyProof.Rows
variable {g : Gr} {sc csc : Scope} {r : Nat} {c : Bool} {K : Frag}
noncomputable def Zof : TE := fun _ σ Q _ => ∀ a ep, σ a = none → Q (.ref a) (σ.set a (.dictI [] ep))
theorem Zds {pos : Pos} : Xy g sc r c (.Dict [] [] pos) Zof := .mk fun A env s ℓ σ Q E X h => by
  refine wpAny_Dict_empty ?_
  have kp := Xg s.heap { cls := .type "dict", data := .dict #[] }
  have hD : (s.heap.push { cls := .type "dict", data := .dict #[] }).DictOf (intKind g.prog g.w) s.heap.objs.size [] := Heap.DictOf.new s.heap
  obtain ⟨ep, hD⟩ := Zb0 hD
  exact ⟨.ref s.heap.objs.size, σ.set s.heap.objs.size (.dictI [] ep), Yi.mpr rfl, X.rel.alloc kp (Z4 _) ⟨Yh rfl, [], hD, rfl, Xq⟩, .alloc kp (Z4 _), ⟨rfl, rfl, rfl⟩, h _ _ (X.rel.fresh (Z4 _))⟩
noncomputable def Zfr (t : TE) : Prop := ∀ ℓ σ Q E, t ℓ σ Q E → ∃ x, Q x σ ∧ ∀ σ' (Q' : V → AH → Prop) E', Q' x σ' → t ℓ σ' Q' E'
theorem Zej {x : V} : Zfr (Zm x) := fun ℓ σ Q E h => ⟨x, h, fun _ _ _ q => q⟩
theorem Zck {σ : AH} {a : Addr} {o p : AO} : (σ.set a o).set a p = σ.set a p := by
  funext b; unfold AH.set; split <;> rfl
noncomputable def Zse (k₁ v₁ k₂ v₂ : TE) : TE := fun ℓ σ Q E => k₁ ℓ σ (fun a σ₁ => v₁ ℓ σ₁ (fun x σ₂ => k₂ ℓ σ₂ (fun b σ₃ => v₂ ℓ σ₃ (fun y σ₄ => ∃ ka kb, a = .str ka ∧ b = .str kb ∧ ka ≠ kb ∧ ∀ d ep, σ₄ d = none → Q (.ref d) (σ₄.set d (.dictS [(ka, x), (kb, y)] ep))) E) E) E) E
theorem Zm1 {e₁ e₂ e₃ e₄ : Expr} {pos : Pos} {k₁ v₁ k₂ v₂ : TE} (u1 : Zfr k₁) (u2 : Zfr v₁) (u3 : Zfr k₂) (u4 : Zfr v₂) (h1 : Xy g sc r c e₁ k₁) (h2 : Xy g sc r c e₂ v₁) (h3 : Xy g sc r c e₃ k₂) (h4 : Xy g sc r c e₄ v₂) :
    Xy g sc r c (.Dict [some e₁, some e₃] [e₂, e₄] pos) (Zse k₁ v₁ k₂ v₂) := .mk fun A env s ℓ σ Q E X h => by
  obtain ⟨a, h, f1⟩ := u1 _ _ _ _ h
  obtain ⟨x, h, f2⟩ := u2 _ _ _ _ h
  obtain ⟨b, h, f3⟩ := u3 _ _ _ _ h
  obtain ⟨y, ⟨ka, kb, rfl, rfl, hne, h⟩, f4⟩ := u4 _ _ _ _ h
  refine wpAny_Dict_pairs (knd := strKind g.prog g.w) (pairs := [(eval e₁ env, do let x ← eval e₂ env; standAt pos; pure x), (eval e₃ env, do let x ← eval e₄ env; standAt pos; pure x)]) rfl (by simp) (by simp) ?_
  have kp := Xg s.heap { cls := .type "dict", data := .dict #[] }
  obtain ⟨ep, hD⟩ := Zb0 (Heap.DictOf.new (knd := strKind g.prog g.w) s.heap)
  have off : σ s.heap.objs.size = none := X.rel.fresh (Z4 _)
  have R0 : Rel g (s.heap.push { cls := .type "dict", data := .dict #[] }) (σ.set s.heap.objs.size (.dictS [] ep)) := X.rel.alloc kp (Z4 _) ⟨Yh rfl, [], hD, rfl, Xq⟩
  have x0 : Ext No s.heap σ (s.heap.push { cls := .type "dict", data := .dict #[] }) (σ.set s.heap.objs.size (.dictS [] ep)) := .alloc kp (Z4 _)
  have X0 : Cx g sc r c A env ({ s with heap := s.heap.push { cls := .type "dict", data := .dict #[] } } : Shared).heap (σ.set s.heap.objs.size (.dictS [] ep)) ℓ := X.step R0 x0
  have key : ∀ {e : Expr} {t : TE} {v : V}, Xy g sc r c e t → (∀ σ' (Q' : V → AH → Prop) E', Q' v σ' → t ℓ σ' Q' E') → ∀ {s₁ : Shared} {P : Value → Shared → Prop}, Cx g sc r c A env s₁.heap (σ.set s.heap.objs.size (.dictS [] ep)) ℓ →
      Ext No s.heap σ s₁.heap (σ.set s.heap.objs.size (.dictS [] ep)) → Zbo s s₁ → (∀ u s₂, VR g s₂.heap v u → Cx g sc r c A env s₂.heap (σ.set s.heap.objs.size (.dictS [] ep)) ℓ → Ext No s₁.heap (σ.set s.heap.objs.size (.dictS [] ep)) s₂.heap (σ.set s.heap.objs.size (.dictS [] ep)) → Zbo s s₂ → P u s₂) →
      wpAny (model g.prog g.w) A (eval e env) P (Zaw g A s σ E) s₁ := fun {e t v} hS f {s₁ P} X1 x1 sm k => by
    refine wpAny_mono (hS.run A env s₁ ℓ _ (fun w σ'' => w = v ∧ σ'' = σ.set s.heap.objs.size (.dictS [] ep)) E X1 (f _ _ _ ⟨rfl, rfl⟩)) (fun u s₂ p => ?_) fun _ _ p => p.back x1 sm
    obtain ⟨w, σ₂, hv, hR, hx, hs, rfl, rfl⟩ := p
    exact k u s₂ hv (X1.step hR hx) hx (sm.trans hs)
  refine evalPairs_cons (key h1 f1 X0 x0 ⟨rfl, rfl, rfl⟩ fun va s₁ hva X1 y1 m1 => ?_)
  refine wpAny_bind (key h2 f2 X1 (x0.trans y1) m1 fun vx s₂ hvx X2 y2 m2 => wpAny_bind (wpAny_standAt (wpAny_pure ?_)))
  refine evalPairs_cons (key h3 f3 X2 ((x0.trans y1).trans y2) m2 fun vb s₃ hvb X3 y3 m3 => ?_)
  refine wpAny_bind (key h4 f4 X3 (((x0.trans y1).trans y2).trans y3) m3 fun vy s₄ hvy X4 y4 m4 => wpAny_bind (wpAny_standAt (wpAny_pure ?_)))
  refine evalPairs_nil ?_
  obtain ⟨fa, ta, rfl⟩ := Y9.mp hva
  obtain ⟨fb, tb, rfl⟩ := Y9.mp hvb
  have hvx4 := (y3.trans y4).vr X2.rel Xo hvx
  have e0 : (σ.set s.heap.objs.size (.dictS [] ep)) s.heap.objs.size = some (.dictS [] ep) := Zd
  obtain ⟨_, us, hd, hk, _⟩ := (X4.rel.own _ _ e0).2
  have hus : us = [] := by cases us with | nil => rfl | cons _ _ => simp at hk
  subst hus
  refine ⟨[(ka, vx), (kb, vy)], ⟨strKind_is _ _ ka ta, rfl, strKind_is _ _ kb tb, rfl, trivial⟩, hd.dictOf, fun h' hd' sb => ?_⟩
  have hm : merged ([] : List (Str × Value)) [(ka, vx), (kb, vy)] = [(ka, vx), (kb, vy)] := by
    simp [merged, stored, hne]
  rw [hm] at hd'
  obtain ⟨ep', hd'⟩ := Zb0 hd'
  have tk : Y2 g s₄.heap h' := fun z o us m _ q cc d => by
    obtain ⟨o₀, e₀, c₀⟩ := Zby (X4.rel.own _ _ e0).2
    refine .of (sb.extBut z o (fun w => ?_) q)
    subst w; rw [e₀] at q; cases q; exact c₀ _ _ cc d
  have hor : OR g h' s.heap.objs.size (.dictS [(ka, x), (kb, y)] ep') := ⟨Yh rfl, _, hd', rfl, Ys (VR.mono tk hvx4) (Ys (VR.mono tk hvy) Xq)⟩
  have pr : ∃ o, h'.get? s.heap.objs.size = some o := let ⟨o, q, _⟩ := Zby hor; ⟨o, q⟩
  have R5 := X4.rel.upd e0 sb hor
  have x5 : Ext No s₄.heap (σ.set s.heap.objs.size (.dictS [] ep)) h' ((σ.set s.heap.objs.size (.dictS [] ep)).set s.heap.objs.size (.dictS [(ka, x), (kb, y)] ep')) := .upd e0 sb pr
  rw [Zck] at R5 x5
  exact ⟨.ref _, _, Yi.mpr rfl, R5, ((((x0.trans y1).trans y2).trans y3).trans y4).trans x5, m4.trans ⟨rfl, rfl, rfl⟩, h _ _ off⟩
variable {g : Gr} {sc csc : Scope} {r : Nat} {c : Bool} {K : Frag}
noncomputable def Zt5 : TF := fun xs σ Q _ => match xs with
  | [.ref a, .int k] => match σ a with
    | some (.dictI kvs _) => ∃ v, kvs.lookup k = some v ∧ ∀ ep, Q v (σ.set a (.dictI (kvs.filter fun kv => decide (kv.1 ≠ k)) ep))
    | _ => False
  | _ => False
theorem Zic {K' : Type} [DecidableEq K'] {h : Heap} (p : K' → Bool) : ∀ {us : List (K' × Value)} {kvs : List (K' × V)}, us.map (·.1) = kvs.map (·.1) → VRs g h (kvs.map (·.2)) (us.map (·.2)) →
    (us.filter fun u => p u.1).map (·.1) = (kvs.filter fun u => p u.1).map (·.1) ∧ VRs g h ((kvs.filter fun u => p u.1).map (·.2)) ((us.filter fun u => p u.1).map (·.2))
  | [], [], _, _ => ⟨rfl, Xq⟩
  | [], _ :: _, hk, _ => by simp at hk
  | _ :: _, [], hk, _ => by simp at hk
  | u :: us, kv :: kvs, hk, hv => by
    simp only [List.map_cons, List.cons.injEq] at hk
    obtain ⟨w, ws, hw, hv1, hv2⟩ := Zn hv
    simp only [List.map_cons, List.cons.injEq] at hw
    obtain ⟨rfl, rfl⟩ := hw
    obtain ⟨i1, i2⟩ := Zic p hk.2 hv2
    cases q : p kv.1 with
    | true =>
      have q' : p u.1 = true := by rw [hk.1]; exact q
      rw [List.filter_cons_of_pos (by simpa using q'), List.filter_cons_of_pos (by simpa using q)]
      exact ⟨by simp [hk.1, i1], Ys hv1 i2⟩
    | false =>
      have q' : p u.1 = false := by rw [hk.1]; exact q
      rw [List.filter_cons_of_neg (by simp [q']), List.filter_cons_of_neg (by simp [q])]
      exact ⟨i1, i2⟩
theorem Ziw {s : Shared} {σ : AH} {Q : V → AH → Prop} {a : Addr} {ao ao' : AO} {h' : Heap} {tk : Nat} {v : Value} {x : V} (R : Rel g s.heap σ) (e : σ a = some ao) (sb : Heap.SameBut a s.heap h') (ho : Y2 g s.heap h' → OR g h' a ao') (hv : VR g s.heap x v) (hq : Q x (σ.set a ao')) : Zbj g s σ Q v { s with heap := h', toks := tk } := by
  obtain ⟨o₀, e₀, c₀⟩ := Zby (R.own a _ e).2
  have tks : Y2 g s.heap h' := fun b o us m _ q cc d => by
    refine .of (sb.extBut b o (fun z => ?_) q)
    subst z; rw [e₀] at q; cases q; exact c₀ _ _ cc d
  have hor := ho tks
  have pr : ∃ o, h'.get? a = some o := let ⟨o, q, _⟩ := Zby hor; ⟨o, q⟩
  exact ⟨x, _, VR.mono tks hv, R.upd e sb hor, .upd e sb pr, ⟨rfl, rfl, rfl⟩, hq⟩
theorem Zq2 : Zfs g r (.builtin "dict.pop") Zt5 := .mk fun A s σ xs vs Q E G F Rm R hv h => by
  unfold Zt5 at h
  split at h
  · rename_i a k
    obtain ⟨v, _, rfl, ha, hr⟩ := Zn hv
    obtain ⟨u, _, rfl, hx, hr⟩ := Zn hr; clear hr
    rw [Z2 hr, Yi.mp ha]
    obtain ⟨t, rfl⟩ := Z9.mp hx
    split at h
    · rename_i kvs ep e
      obtain ⟨x, hl, h⟩ := h
      obtain ⟨hf, us, hd, hk, hvs⟩ := (R.own a _ e).2
      have hlen : kvs.length = us.length := by have := congrArg List.length hk; simpa using this.symm
      obtain ⟨xv, hat, hxv⟩ := Zdi hk hvs hl
      refine call_meetsIn PySem.F.slot_dict_pop hd.dictOf.typeIs PySem.F.entry_dict_pop (PySem.F.args_dict_pop_2 _ _) (meets_dict_pop_there (intKind g.prog g.w) _ (intKind_is _ _ k t) [] (.inl rfl) (by rfl)) ⟨us, xv, hd.dictOf, by rw [← hlen]; exact hf.line, hat, fun h' hd' sb => ?_⟩
      obtain ⟨ep', hd'⟩ := Zb0 hd'
      refine Ziw (ao' := .dictI (kvs.filter fun kv => decide (kv.1 ≠ k)) ep') R e sb (fun tk => ?_) hxv (h ep')
      obtain ⟨i1, i2⟩ := Zic (fun q => decide (q ≠ k)) hk hvs
      exact ⟨hf.le (List.length_filter_le _ _), _, hd', i1, VRs.mono tk i2⟩
    · exact h.elim
  · exact h.elim
noncomputable def Zdv (x : V) (σ : AH) : Option (List Int) := match x with
  | .ref a => match σ a with
    | some (.list xs) => Zjy xs
    | some (.dictI kvs _) => some (kvs.map (·.1))
    | _ => none
  | _ => none
noncomputable def Zcn : TF := fun xs σ Q _ => match xs with
  | [x] => match Zdv x σ with
    | some ns => ns.length < 64 ∧ ∀ (ns' : List Int) b, ns'.Perm ns → ns'.Pairwise (· ≤ ·) → σ b = none → Q (.ref b) (σ.set b (.list (ns'.map V.int)))
    | none => False
  | _ => False
theorem Zhb {h : Heap} : ∀ {vs : List Value} {ns : List Int}, IntsAre vs ns → VRs g h (ns.map V.int) vs := fun {vs ns} a => by
  induction a with
  | nil => exact Xq
  | cons n t _ ih => exact Ys (Z9.mpr ⟨t, rfl⟩) ih
theorem Zfz {us : List (Int × Value)} {P : Nat → Value → Prop} : ∀ (vs : List Value) (ks : List Int), vs.length = ks.length → (∀ (i : Nat) (v : Value), vs[i]? = some v → ∃ k, ks[i]? = some k ∧ ∃ t, v = Value.int k t) → IntsAre vs ks
  | [], [], _, _ => .nil
  | [], _ :: _, h, _ => by simp at h
  | _ :: _, [], h, _ => by simp at h
  | v :: vs, k :: ks, h, q => by
    obtain ⟨k', e, t, rfl⟩ := q 0 v rfl
    simp at e; subst e
    exact .cons _ t (Zfz (us := us) (P := P) vs ks (by simpa using h) fun i v e => by simpa using q (i + 1) v (by simpa using e))
variable {g : Gr} {sc csc : Scope} {r : Nat} {c : Bool} {K : Frag}
theorem Ws : Zfs g r (.builtin "sorted") Zcn := .mk fun A s σ xs vs Q E G F Rm R hv h => by
  match xs, hv, h with
  | [x], hv, h =>
    obtain ⟨v, _, rfl, hx, hr⟩ := Zn hv
    rw [Z2 hr]
    simp only [Zcn] at h
    split at h
    · rename_i ns e
      obtain ⟨h64, h⟩ := h
      have hfit : ∀ ns' : List Int, ns'.Perm ns → Xv (ns'.map V.int).length := fun ns' p => by rw [List.length_map, p.length_eq]; unfold Xv; exact Nat.le_of_lt (Nat.lt_of_lt_of_le h64 (by decide))
      cases x with
      | ref a =>
        rw [Yi.mp hx]
        simp only [Zdv] at e
        split at e
        · rename_i ys q
          obtain ⟨_, us, n, ho, hvs⟩ := (R.own a _ q).2
          rw [Zg3 e] at hvs
          have hI := Zch hvs
          refine sorted_ints (vs := us.toList) ⟨_, ho, rfl, n, by simp⟩ hI (by have := Zz hvs; simp at this ⊢; exact Z21 h64 this) fun out ns' a1 a2 a3 => ?_
          obtain ⟨e', he⟩ := sortedAll_at s.heap us.toList out
          exact Zbg (tk := s.toks) R (fun _ _ => sortedAll_old) (Heap.get?_none_of_le (Nat.le_succ _)) he (hfit _ a2) (Zhb a1) fun f => h ns' _ a2 a3 f
        · rename_i kvs ep q
          cases e
          obtain ⟨hf, us, hd, hk, hvs⟩ := (R.own a _ q).2
          have hlen : kvs.length = us.length := by have := congrArg List.length hk; simpa using this.symm
          refine Calls.call_function_entry kind_sorted plain_sorted entry_sorted (args_sorted1 _) ?_
          unfold Builtin.«sorted»
          refine wpAny_bind (m := checkCount "sorted" 1 1 _) (wpAny_pure ?_)
          refine wpAny_bind (kdu_collect (A := A.in1) (kdl_dict (knd := intKind g.prog g.w) (kvs := us) (ep := ep) (Xk G R q)) (by show A.handled = none; exact Rm.calm rfl) hd (by rw [← hlen]; exact hf.line) fun h' tk acc hkp hacc => ?_)
          have hl : acc.toList.length = us.length := by rw [Array.length_toList]; exact hacc.1
          have h64' : acc.toList.length < 64 := by rw [hl, ← hlen]; simpa using h64
          refine wpAny_bind (wpAny_newList ?_ (by rw [hl, ← hlen]; exact hf.line))
          have hI : IntsAre acc.toList (kvs.map (·.1)) := by
            refine Zfz (us := us) (P := fun _ _ => True) _ _ (by rw [hl, ← hlen]; simp) fun i v e => ?_
            obtain ⟨k, x, e1, e2⟩ := hacc.2 i v (by rw [← Array.getElem?_toList]; exact e)
            refine ⟨k, ?_, ?_⟩
            · rw [← hk, List.getElem?_map, e1]; rfl
            · cases v <;> simp [PySem.intKind, Value.isInt] at e2
              exact ⟨_, by rw [e2]⟩
          have hoL : (h'.push (seqObj "list" acc.toList.toArray 0)).get? h'.objs.size = some (seqObj "list" acc.toList.toArray 0) := Heap.get?_push_size _ rfl
          refine wpAny_bind (wpAny_holding (wpAny_call_entry slot_list_sort ⟨_, hoL, rfl⟩ entry_list_sort (list_sort_tree hoL hI h64' fun out ns' a1 a2 a3 => ⟨_, rfl, ?_⟩) (args_list_sort _)))
          refine wpAny_pure ⟨_, rfl, ?_⟩
          obtain ⟨e', he⟩ := sortedHeap_at (out := out) hoL
          refine Zbg R (fun b o q => ?_) ?_ he (hfit _ a2) (Zhb a1) fun f => h ns' _ a2 a3 f
          · have hb := Heap.lt_size (hkp b o q)
            rw [sortedHeap_old (Nat.ne_of_lt hb) (by rw [size_push']; exact Nat.lt_succ_of_lt hb), Heap.get?_push_ne _ _ _ (Nat.ne_of_lt hb)]
            exact hkp b o q
          · cases w : s.heap.get? h'.objs.size with
            | none => rfl
            | some o => exact absurd (Heap.lt_size (hkp _ o w)) (Nat.lt_irrefl _)
        · cases e
      | _ => cases e
    · exact h.elim
  | [], _, h => exact h.elim
  | _ :: _ :: _, _, h => exact h.elim
end
section
open PySem PySem.W PyProof.Rows
section
variable {prog : Program} {w : World} {A : Around} {E : Value → Shared → Prop} {s : Shared}
end
section
variable {g : Gr} {r : Nat} {A : Around}
end
end
section
open PySem PySem.W PyProof.Rows
variable {g : Gr} {r : Nat} {sc : Scope} {c : Bool}
noncomputable def Zlo (t : TE) : TB := fun ℓ σ Q E => t ℓ σ (fun x σ₁ => ∃ a kvs ep, x = .ref a ∧ σ₁ a = some (.dictI kvs ep) ∧ ∀ d ep', σ₁ d = none → Q (!kvs.isEmpty) (σ₁.set d (.dictI [] ep'))) E
theorem Zji {e : Expr} {t : TE} {p pos : Pos} (h1 : Xy g sc r c e t) : Zn5 g sc r c (.Compare e [.NotEq] [.Dict [] [] p] pos) (Zlo t) := .mk fun A env s ℓ σ Q E X h => by
  refine wpAny_isTrue_Compare1 (wpAny_mono (h1.run A env s ℓ σ _ E X h) (fun u s₁ p => ?_) fun _ _ p => p) rfl
  obtain ⟨x, σ₁, hu, hR, hx, hs, a, kvs, ep, rfl, e, hq⟩ := p
  have X₁ := X.step hR hx
  refine wpAny_mono (Zds.run A env s₁ ℓ σ₁ (fun v σ₂ => ∃ d ep', v = .ref d ∧ σ₁ d = none ∧ σ₂ = σ₁.set d (.dictI [] ep')) E X₁ fun d ep' q => ⟨d, ep', rfl, q, rfl⟩) (fun v s₂ p => ?_) fun _ _ p => p.back hx hs
  obtain ⟨b, σ₂, hv, hR2, hx2, hs2, d, ep', rfl, off, rfl⟩ := p
  have X₂ := X₁.step hR2 hx2
  have hne : a ≠ d := fun z => by rw [z, off] at e; cases e
  have e2 : (σ₁.set d (.dictI [] ep')) a = some (.dictI kvs ep) := by rw [Zf hne]; exact e
  obtain ⟨hf, us, hd, hk, _⟩ := (hR2.own a _ e2).2
  obtain ⟨_, us', hd', hk', _⟩ := (hR2.own d _ Zd).2
  have hus' : us' = [] := by cases us' with | nil => rfl | cons _ _ => simp at hk'
  subst hus'
  have hlen : kvs.length = us.length := by have := congrArg List.length hk; simpa using this.symm
  rw [Yi.mp hu, Yi.mp hv]
  refine keq_ne (knd := intKind g.prog g.w) (r := true) (Xk X.gok hR2 e2) (Xk X.gok hR2 Zd) hd.dictOf hd'.dictOf (by have := X.room.cline; exact Z20 this) (fun q => ?_) ?_
  · have : us = [] := List.length_eq_zero_iff.mp (by simpa using q)
    rw [this]; exact .nil
  · refine wpAny_truthy_bool ⟨!kvs.isEmpty, _, ?_, hR2, hx.trans hx2, hs.trans hs2, hq d ep' off⟩
    cases kvs with
    | nil => simp at hlen; simp [← hlen]
    | cons _ _ => simp at hlen; simp [← hlen]
end
section
structure Rw where
  n : Int
  l : Int
  r : Int
  h : Option Int
noncomputable def Rw.e (x : Rw) (s : Bool) : Int := if s then x.r else x.l
noncomputable def Inc (S : List Rw) : Prop := S.Pairwise fun x y => x.n < y.n
noncomputable def Y4 (S : List Rw) : Prop := ∀ x ∈ S, ∀ y ∈ S, ∀ s, x.e s = y.e s → x.h = y.h → x.h ≠ none → x.n = y.n
noncomputable def Zas (S : List Rw) (s : Bool) (e h : Int) : Prop := ∀ x ∈ S, x.e s = e → x.h ≠ some h
noncomputable def deg (S : List Rw) (s : Bool) (e : Int) : Nat := (S.filter fun x => x.e s == e).length
noncomputable def Zhe (S : List Rw) (s : Bool) (e h : Int) : Option Rw := S.find? fun x => x.e s == e && x.h == some h
theorem Inc.inj {S : List Rw} (hi : Inc S) : ∀ {x y : Rw}, x ∈ S → y ∈ S → x.n = y.n → x = y := by
  induction S with
  | nil => intro x y h; cases h
  | cons z S ih =>
    intro x y hx hy e
    rcases List.pairwise_cons.1 hi with ⟨h1, h2⟩
    rcases List.mem_cons.1 hx with p | p <;> rcases List.mem_cons.1 hy with q | q
    · rw [p, q]
    · have := h1 _ q; rw [← p] at this; omega
    · have := h1 _ p; rw [← q] at this; omega
    · exact ih h2 p q e
theorem Ziz : ∀ (a b : List Int), a.Nodup → (∀ x ∈ a, x ∈ b) → a.length ≤ b.length
  | [], b, _, _ => Nat.zero_le _
  | x :: a, b, hn, hs => by
    have hx : x ∈ b := hs x (.head _)
    rcases List.nodup_cons.1 hn with ⟨h1, h2⟩
    have := Ziz a (b.erase x) h2 fun y hy => (List.mem_erase_of_ne (by rintro rfl; exact h1 hy)).2 (hs y (.tail _ hy))
    rw [List.length_erase_of_mem hx] at this
    have : 0 < b.length := List.length_pos_of_mem hx
    simp only [List.length_cons]; omega
noncomputable def Xx (s : Bool) (i : Nat) : Bool := if i % 2 = 0 then s else !s
noncomputable def Xj (one other : Int) (i : Nat) : Int := if i % 2 = 0 then other else one
theorem Zbs {s : Bool} {i : Nat} : Xx s (i + 1) = !(Xx s i) := by
  unfold Xx
  rcases Nat.mod_two_eq_zero_or_one i with h | h
  · rw [if_neg (by exact Z2d h), if_pos h]
  · rw [if_pos (by exact Z2c h), if_neg (by exact Zv6 h)]; simp
theorem Zcm {one other : Int} {i : Nat} : Xj one other (i + 1) = one + other - Xj one other i := by
  unfold Xj
  rcases Nat.mod_two_eq_zero_or_one i with h | h
  · rw [if_neg (by exact Z2d h), if_pos h]; exact Z2z
  · rw [if_pos (by exact Z2c h), if_neg (by exact Zv6 h)]; exact Z2y
theorem Zm3 {s : Bool} {i j : Nat} (h : i % 2 = j % 2) : Xx s i = Xx s j := by unfold Xx; rw [h]
theorem Zfc {one other : Int} {i j : Nat} (h : i % 2 = j % 2) : Xj one other i = Xj one other j := by unfold Xj; rw [h]
theorem Zca {one other : Int} (hne : one ≠ other) {i j : Nat} (h : Xj one other i = Xj one other j) : i % 2 = j % 2 := by
  unfold Xj at h
  rcases Nat.mod_two_eq_zero_or_one i with a | a <;> rcases Nat.mod_two_eq_zero_or_one j with b | b
  · exact Z2x a b
  · rw [if_pos a, if_neg (by exact Zv6 b)] at h; exact absurd h.symm hne
  · rw [if_neg (by exact Zv6 a), if_pos b] at h; exact absurd h hne
  · exact Z2w a b
structure Zbc (S : List Rw) (s : Bool) (e one other : Int) (l : List Rw) : Prop where
  mem : ∀ x ∈ l, x ∈ S
  hue : ∀ i x, l[i]? = some x → x.h = some (Xj one other i)
  fst : ∀ x, l[0]? = some x → x.e s = e
  nxt : ∀ i x y, l[i]? = some x → l[i + 1]? = some y → y.e (Xx s (i + 1)) = x.e (Xx s (i + 1))
noncomputable def Zkk (s : Bool) (e : Int) (l : List Rw) : Int := match l.getLast? with | none => e | some x => x.e (Xx s l.length)
noncomputable def Zc2 (S : List Rw) (s : Bool) (e one other : Int) (l : List Rw) : Prop := Zas S (Xx s l.length) (Zkk s e l) (Xj one other l.length)
section
variable {S : List Rw} {s : Bool} {e one other : Int} {l : List Rw}
theorem Zbc.nil : Zbc S s e one other [] := ⟨fun _ h => absurd h (by simp), fun _ _ h => absurd h (by simp), fun _ h => absurd h (by simp), fun _ _ _ h => absurd h (by simp)⟩
theorem Zje {x : Rw} : Zkk s e (l ++ [x]) = x.e (Xx s (l.length + 1)) := by unfold Zkk; simp
theorem Zem {i : Nat} {x y : Rw} (h : (l ++ [x])[i]? = some y) : (i < l.length ∧ l[i]? = some y) ∨ (i = l.length ∧ y = x) := by
  rcases Nat.lt_trichotomy i l.length with q | q | q
  · left; exact ⟨q, by rwa [List.getElem?_append_left q] at h⟩
  · right; subst q; simp at h; exact ⟨rfl, h.symm⟩
  · rw [List.getElem?_append_right (by exact Z2b q), List.getElem?_eq_none (by simp; exact Zva q)] at h; cases h
theorem Zbc.snoc (P : Zbc S s e one other l) {x : Rw} (hx : x ∈ S) (hh : x.h = some (Xj one other l.length)) (he : x.e (Xx s l.length) = Zkk s e l) : Zbc S s e one other (l ++ [x]) := by
  refine ⟨fun y hy => ?_, fun i y hy => ?_, fun y hy => ?_, fun i y z hy hz => ?_⟩
  · rcases List.mem_append.1 hy with h | h
    · exact P.mem y h
    · rw [List.mem_singleton.1 h]; exact hx
  · rcases Zem hy with ⟨_, h⟩ | ⟨rfl, rfl⟩
    · exact P.hue i y h
    · exact hh
  · rcases Zem hy with ⟨_, h⟩ | ⟨q, rfl⟩
    · exact P.fst y h
    · have hl : l = [] := List.length_eq_zero_iff.1 q.symm
      subst hl; exact he
  · rcases Zem hz with ⟨q, h⟩ | ⟨q, rfl⟩
    · rcases Zem hy with ⟨_, h'⟩ | ⟨q', _⟩
      · exact P.nxt i y z h' h
      · exact Z1v q q'
    · rcases Zem hy with ⟨q', h'⟩ | ⟨q', _⟩
      · rw [q, he]
        unfold Zkk
        have : l.getLast? = some y := by
          rw [List.getLast?_eq_getElem?, ← q]; simpa using h'
        rw [this]
      · exact Z1u q q'
theorem Zbc.inj (P : Zbc S s e one other l) (hp : Y4 S) (hi : Inc S) (hne : one ≠ other) (hf : Zas S s e one) : ∀ (i j : Nat) (x y : Rw), i < j → l[i]? = some x → l[j]? = some y → x.n ≠ y.n := by
  intro i
  induction i with
  | zero =>
    intro j x y hij hx hy hn
    have hxy := hi.inj (P.mem x (List.mem_of_getElem? hx)) (P.mem y (List.mem_of_getElem? hy)) hn
    subst hxy
    have hpar := Zca hne (Option.some.inj ((P.hue _ _ hx).symm.trans (P.hue _ _ hy)))
    cases j with
    | zero => exact Z1t hij
    | succ j =>
      obtain ⟨z, hz⟩ : ∃ z, l[j]? = some z := by
        rcases Nat.lt_or_ge j l.length with q | q
        · exact ⟨_, List.getElem?_eq_getElem q⟩
        · rw [List.getElem?_eq_none (by exact Z1s hpar q)] at hy; cases hy
      have h1 := P.nxt j z x hz hy
      have hs : Xx s (j + 1) = s := by unfold Xx; rw [if_pos (by exact Z1r hpar)]
      rw [hs, P.fst x hx] at h1
      refine hf z (P.mem z (List.mem_of_getElem? hz)) h1.symm ?_
      rw [P.hue j z hz]; unfold Xj; rw [if_neg (by exact Z1q hpar)]
  | succ i ih =>
    intro j x y hij hx hy hn
    have hxy := hi.inj (P.mem x (List.mem_of_getElem? hx)) (P.mem y (List.mem_of_getElem? hy)) hn
    subst hxy
    have hpar := Zca hne (Option.some.inj ((P.hue _ _ hx).symm.trans (P.hue _ _ hy)))
    cases j with
    | zero => exact Z1p hij
    | succ j =>
      have pred : ∀ k, l[k + 1]? = some x → ∃ z, l[k]? = some z := fun k hk => by
        rcases Nat.lt_or_ge k l.length with q | q
        · exact ⟨_, List.getElem?_eq_getElem q⟩
        · rw [List.getElem?_eq_none (by exact Zu9 q)] at hk; cases hk
      obtain ⟨z, hz⟩ := pred i hx
      obtain ⟨z', hz'⟩ := pred j hy
      have h1 := P.nxt i z x hz hx
      have h2 := P.nxt j z' x hz' hy
      rw [← Zm3 hpar] at h2
      refine ih j z z' (by exact Z1o hij hpar) hz hz' (hp z (P.mem z (List.mem_of_getElem? hz)) z' (P.mem z' (List.mem_of_getElem? hz')) _ (h1.symm.trans h2) ?_ ?_)
      · rw [P.hue i z hz, P.hue j z' hz', Zfc (by exact Zu8 hpar : i % 2 = j % 2)]
      · rw [P.hue i z hz]; simp
theorem Zjn (as : List Int) (h : ∀ (i j : Nat) (x y : Int), i < j → as[i]? = some x → as[j]? = some y → x ≠ y) : as.Nodup := by
  rw [List.Nodup, List.pairwise_iff_getElem]
  intro i j hi hj hij
  exact h i j _ _ hij (List.getElem?_eq_getElem hi) (List.getElem?_eq_getElem hj)
theorem Zbc.nodup (P : Zbc S s e one other l) (hp : Y4 S) (hi : Inc S) (hne : one ≠ other) (hf : Zas S s e one) : (l.map Rw.n).Nodup := by
  refine Zjn _ fun i j x y hij hx hy => ?_
  rw [List.getElem?_map] at hx hy
  cases ex : l[i]? with
  | none => rw [ex] at hx; cases hx
  | some a =>
    cases ey : l[j]? with
    | none => rw [ey] at hy; cases hy
    | some b =>
      rw [ex] at hx; rw [ey] at hy; cases hx; cases hy
      exact P.inj hp hi hne hf i j a b hij ex ey
theorem Zbc.len (P : Zbc S s e one other l) (hp : Y4 S) (hi : Inc S) (hne : one ≠ other) (hf : Zas S s e one) : l.length ≤ S.length := by
  have := Ziz (l.map Rw.n) (S.map Rw.n) (P.nodup hp hi hne hf) fun x hx => by
    obtain ⟨a, ha, rfl⟩ := List.mem_map.1 hx
    exact List.mem_map.2 ⟨a, P.mem a ha, rfl⟩
  simpa using this
noncomputable def Xz (nums : List Int) (one other : Int) (x : Rw) : Rw := if x.n ∈ nums then { x with h := x.h.map fun h => one + other - h } else x
theorem Zag {nums : List Int} {x : Rw} : (Xz nums one other x).n = x.n := by unfold Xz; split <;> rfl
theorem Zg5 {nums : List Int} {x : Rw} {t : Bool} : (Xz nums one other x).e t = x.e t := by unfold Xz; split <;> rfl
theorem Xl {nums : List Int} {x : Rw} (h : x.n ∉ nums) : Xz nums one other x = x := if_neg h
theorem Zbc.at (P : Zbc S s e one other l) (hi : Inc S) {x : Rw} (hx : x ∈ S) (hn : x.n ∈ l.map Rw.n) : ∃ i : Nat, l[i]? = some x := by
  obtain ⟨a, ha, q⟩ := List.mem_map.1 hn
  have := hi.inj (P.mem a ha) hx q
  subst this
  obtain ⟨i, hi, e⟩ := List.getElem_of_mem ha
  exact ⟨i, by rw [List.getElem?_eq_getElem hi, e]⟩
theorem Zbc.flip_hue (P : Zbc S s e one other l) {i : Nat} {x : Rw} (hx : l[i]? = some x) : (Xz (l.map Rw.n) one other x).h = some (Xj one other (i + 1)) := by
  unfold Xz
  rw [if_pos (List.mem_map.2 ⟨x, List.mem_of_getElem? hx, rfl⟩)]
  show x.h.map _ = _
  rw [P.hue i x hx, Zcm]; rfl
theorem Zk5 {i : Nat} {x : Rw} (h : l[i + 1]? = some x) : ∃ z, l[i]? = some z := by
  rcases Nat.lt_or_ge i l.length with q | q
  · exact ⟨_, List.getElem?_eq_getElem q⟩
  · rw [List.getElem?_eq_none (by exact Zu9 q)] at h; cases h
theorem Zbc.near (P : Zbc S s e one other l) (D : Zc2 S s e one other l) (hp : Y4 S) (hf : Zas S s e one) {i : Nat} {x y : Rw} (hx : l[i]? = some x) (hy : y ∈ S) {t : Bool} (ht : y.e t = x.e t) (hh : y.h = some (Xj one other (i + 1))) : y.n ∈ l.map Rw.n := by
  have hcase : t = Xx s i ∨ t = Xx s (i + 1) := by rw [Zbs]; cases t <;> cases Xx s i <;> simp
  have fin : ∀ {k : Nat} {z : Rw}, l[k]? = some z → z.e t = y.e t → z.h = y.h → y.n ∈ l.map Rw.n := fun {k z} hk q1 q2 => by
    have hz := List.mem_of_getElem? hk
    have := hp z (P.mem z hz) y hy t q1 q2 (by rw [q2, hh]; simp)
    exact this ▸ List.mem_map.2 ⟨z, hz, rfl⟩
  rcases hcase with rfl | rfl
  · cases i with
    | zero =>
      refine absurd ?_ (hf y hy (by rw [← P.fst x hx]; exact ht))
      rw [hh]; rfl
    | succ k =>
      obtain ⟨z, hz⟩ := Zk5 hx
      refine fin hz ((P.nxt k z x hz hx).symm.trans ht.symm) ?_
      rw [P.hue k z hz, hh, Zfc (by exact Z1n : k % 2 = (k + 1 + 1) % 2)]
  · cases q : l[i + 1]? with
    | some z => exact fin q ((P.nxt i x z hx q).trans ht.symm) (by rw [P.hue _ z q, hh])
    | none =>
      have hl : l.length = i + 1 := by
        have h1 : i < l.length := by
          rcases Nat.lt_or_ge i l.length with w | w
          · exact w
          · rw [List.getElem?_eq_none (by exact Z1m w)] at hx; cases hx
        have h2 := List.getElem?_eq_none_iff.1 q
        exact Z1l h1 h2
      refine absurd ?_ (D y hy ?_)
      · rw [hl]; exact hh
      · unfold Zkk
        have : l.getLast? = some x := by rw [List.getLast?_eq_getElem?, hl]; simpa using hx
        rw [this, hl]; exact ht
theorem Zdu {nums : List Int} {x' : Rw} (h : x' ∈ S.map (Xz nums one other)) : ∃ x ∈ S, x' = Xz nums one other x := by
  obtain ⟨x, a, b⟩ := List.mem_map.1 h; exact ⟨x, a, b.symm⟩
theorem Zbc.flip_proper (P : Zbc S s e one other l) (D : Zc2 S s e one other l) (hp : Y4 S) (hi : Inc S) (hne : one ≠ other) (hf : Zas S s e one) : Y4 (S.map (Xz (l.map Rw.n) one other)) := by
  intro x' hx' y' hy' t ht hh hs
  obtain ⟨x, hx, rfl⟩ := Zdu hx'
  obtain ⟨y, hy, rfl⟩ := Zdu hy'
  rw [Zg5, Zg5] at ht
  rw [Zag, Zag]
  by_cases a : x.n ∈ l.map Rw.n <;> by_cases b : y.n ∈ l.map Rw.n
  · obtain ⟨i, hxi⟩ := P.at hi hx a
    obtain ⟨j, hyj⟩ := P.at hi hy b
    rw [P.flip_hue hxi, P.flip_hue hyj] at hh
    have := Zca hne (Option.some.inj hh)
    refine hp x hx y hy t ht ?_ ?_
    · rw [P.hue i x hxi, P.hue j y hyj, Zfc (by exact Zu8 this : i % 2 = j % 2)]
    · rw [P.hue i x hxi]; simp
  · obtain ⟨i, hxi⟩ := P.at hi hx a
    rw [P.flip_hue hxi, Xl b] at hh
    exact absurd (P.near D hp hf hxi hy ht.symm hh.symm) b
  · obtain ⟨j, hyj⟩ := P.at hi hy b
    rw [P.flip_hue hyj, Xl a] at hh
    exact absurd (P.near D hp hf hyj hx ht hh) a
  · rw [Xl a, Xl b] at hh
    rw [Xl a] at hs
    exact hp x hx y hy t ht hh hs
theorem Zbc.flip_free (P : Zbc S s e one other l) (D : Zc2 S s e one other l) (hp : Y4 S) (hi : Inc S) (hne : one ≠ other) (hf : Zas S s e one) : Zas (S.map (Xz (l.map Rw.n) one other)) s e other := by
  intro x' hx' he hh
  obtain ⟨x, hx, rfl⟩ := Zdu hx'
  rw [Zg5] at he
  by_cases a : x.n ∈ l.map Rw.n
  · obtain ⟨i, hxi⟩ := P.at hi hx a
    rw [P.flip_hue hxi] at hh
    have h1 : Xj one other (i + 1) = Xj one other 0 := Option.some.inj hh
    have := Zca hne h1
    refine hf x hx he ?_
    rw [P.hue i x hxi]; unfold Xj; rw [if_neg (by exact Z1k this)]
  · rw [Xl a] at hh
    cases q : l with
    | nil =>
      subst q
      exact D x hx he hh
    | cons z r =>
      have hz0 : l[0]? = some z := by rw [q]; rfl
      have hz := List.mem_of_getElem? hz0
      have := hp z (P.mem z hz) x hx s ((P.fst z hz0).trans he.symm) (by rw [P.hue 0 z hz0, hh]; rfl) (by rw [P.hue 0 z hz0]; simp)
      exact a (this ▸ List.mem_map.2 ⟨z, hz, rfl⟩)
theorem Zbc.flip_far (P : Zbc S s e one other l) (hi : Inc S) (hne : one ≠ other) {e2 : Int} (hf : Zas S (!s) e2 other) : Zas (S.map (Xz (l.map Rw.n) one other)) (!s) e2 other := by
  intro x' hx' he hh
  obtain ⟨x, hx, rfl⟩ := Zdu hx'
  rw [Zg5] at he
  by_cases a : x.n ∈ l.map Rw.n
  · obtain ⟨i, hxi⟩ := P.at hi hx a
    rw [P.flip_hue hxi] at hh
    have h1 : Xj one other (i + 1) = Xj one other 0 := Option.some.inj hh
    have := Zca hne h1
    cases i with
    | zero => exact Z1j this
    | succ k =>
      obtain ⟨z, hz⟩ := Zk5 hxi
      have h2 := P.nxt k z x hz hxi
      have hs : Xx s (k + 1) = !s := by unfold Xx; rw [if_neg (by exact Z1i this)]
      rw [hs, he] at h2
      refine hf z (P.mem z (List.mem_of_getElem? hz)) h2.symm ?_
      rw [P.hue k z hz]; unfold Xj; rw [if_pos (by exact Z1h this)]
  · rw [Xl a] at hh
    exact hf x hx he hh
end
noncomputable def Wm (k : Int) (h : Option Int) (x : Rw) : Rw := if x.n = k then { x with h := h } else x
theorem Wv {k : Int} {h : Option Int} {x : Rw} : (Wm k h x).n = x.n := by unfold Wm; split <;> rfl
theorem Zhv {k : Int} {h : Option Int} {x : Rw} {t : Bool} : (Wm k h x).e t = x.e t := by unfold Wm; split <;> rfl
theorem Zai {k : Int} {h : Option Int} {x : Rw} (q : x.n = k) : (Wm k h x).h = h := by unfold Wm; rw [if_pos q]
theorem Y1 {k : Int} {h : Option Int} {x : Rw} (q : x.n ≠ k) : Wm k h x = x := if_neg q
theorem Zcx {S : List Rw} {f : Rw → Rw} (hf : ∀ x, (f x).n = x.n) (hi : Inc S) : Inc (S.map f) := by
  unfold Inc at *
  rw [List.pairwise_map]
  exact hi.imp fun h => by rw [hf, hf]; exact h
theorem Zhu {S : List Rw} {k h : Int} (hp : Y4 S) (hs : ∀ x ∈ S, x.n = k → ∀ t, Zas S t (x.e t) h) : Y4 (S.map (Wm k (some h))) := by
  intro x' hx' y' hy' t ht hh hne
  obtain ⟨x, hx, rfl⟩ := List.mem_map.1 hx'
  obtain ⟨y, hy, rfl⟩ := List.mem_map.1 hy'
  rw [Zhv, Zhv] at ht
  rw [Wv, Wv]
  by_cases a : x.n = k <;> by_cases b : y.n = k
  · rw [a, b]
  · rw [Zai a, Y1 b] at hh
    exact absurd hh.symm (hs x hx a t y hy ht.symm)
  · rw [Zai b, Y1 a] at hh
    exact absurd hh (hs y hy b t x hx ht)
  · rw [Y1 a, Y1 b] at hh
    rw [Y1 a] at hne
    exact hp x hx y hy t ht hh hne
theorem Wu {S : List Rw} {k : Int} (hp : Y4 S) : Y4 (S.map (Wm k none)) := by
  intro x' hx' y' hy' t ht hh hne
  obtain ⟨x, hx, rfl⟩ := List.mem_map.1 hx'
  obtain ⟨y, hy, rfl⟩ := List.mem_map.1 hy'
  rw [Zhv, Zhv] at ht
  rw [Wv, Wv]
  by_cases a : x.n = k <;> by_cases b : y.n = k
  · rw [a, b]
  · rw [Zai a] at hne; exact absurd rfl hne
  · rw [Zai b] at hh; rw [hh] at hne; exact absurd rfl hne
  · rw [Y1 a, Y1 b] at hh
    rw [Y1 a] at hne
    exact hp x hx y hy t ht hh hne
noncomputable def Zcl (m : Nat) : List Int := (List.range m).map Int.ofNat
theorem Zdt {m : Nat} {h : Int} : h ∈ Zcl m ↔ 0 ≤ h ∧ h < m := by
  unfold Zcl
  simp only [List.mem_map, List.mem_range]
  constructor
  · rintro ⟨a, b, rfl⟩; exact ⟨Int.natCast_nonneg _, by simpa using b⟩
  · rintro ⟨a, b⟩; exact ⟨h.toNat, by exact Zu7 a b, by simp; exact Z1g a⟩
theorem Zbt {m : Nat} : (Zcl m).length = m := by simp [Zcl]
theorem Zm7 {m : Nat} : (Zcl m).Nodup := by
  unfold Zcl
  refine List.Pairwise.map _ ?_ (List.nodup_range (n := m))
  intro a b h q; exact h (Int.ofNat.inj q)
noncomputable def Zjc (S : List Rw) (s : Bool) (e : Int) : List Int := (S.filter fun x => x.e s == e).filterMap Rw.h
theorem Zdh {S : List Rw} {s : Bool} {e h : Int} : h ∈ Zjc S s e ↔ ∃ x ∈ S, x.e s = e ∧ x.h = some h := by
  unfold Zjc
  simp only [List.mem_filterMap, List.mem_filter, beq_iff_eq, and_assoc]
theorem Zla {S : List Rw} {s : Bool} {e : Int} {m : Nat} (hd : deg S s e ≤ m) (hx : ∃ x ∈ S, x.e s = e ∧ x.h = none) : ∃ h : Int, 0 ≤ h ∧ h < m ∧ Zas S s e h := by
  refine Classical.byContradiction fun hn => ?_
  have hall : ∀ h ∈ Zcl m, h ∈ Zjc S s e := fun h hh => by
    obtain ⟨a, b⟩ := Zdt.1 hh
    refine Classical.byContradiction fun hq => hn ⟨h, a, b, fun x hx he hy => hq (Zdh.2 ⟨x, hx, he, hy⟩)⟩
  have h1 := Ziz _ _ Zm7 hall
  rw [Zbt] at h1
  have h2 : (Zjc S s e).length < deg S s e := by
    obtain ⟨x, h1, h2, h3⟩ := hx
    have hm : x ∈ S.filter fun x => x.e s == e := List.mem_filter.2 ⟨h1, by simpa using h2⟩
    unfold Zjc deg
    generalize S.filter (fun x => x.e s == e) = T at hm
    clear h1 hall hn hd
    induction T with
    | nil => cases hm
    | cons y T ih =>
      have hle := List.length_filterMap_le Rw.h T
      cases hm with
      | head => rw [List.filterMap_cons_none h3]; simp only [List.length_cons]; exact Z1f hle
      | tail _ hm =>
        have := ih hm
        cases q : y.h with
        | none => rw [List.filterMap_cons_none q]; simp only [List.length_cons]; exact Z1e this
        | some v => rw [List.filterMap_cons_some q]; simp only [List.length_cons]; exact Z1d this
  exact Z1c hd h1 h2
end
section
noncomputable def Zb3 (a b : Int) (s : Bool) : Int := if s then b else a
structure W7 (S : List Rw) (a b : Int) (m : Nat) : Prop where
  le : ∀ s e, 0 ≤ e → e < Zb3 a b s → deg S s e ≤ m
  got : m = 0 ∨ ∃ s e, 0 ≤ e ∧ e < Zb3 a b s ∧ deg S s e = m
noncomputable def InR (S : List Rw) (a b : Int) : Prop := ∀ x ∈ S, ∀ s, 0 ≤ x.e s ∧ x.e s < Zb3 a b s
structure Zlj (S : List Rw) (a b : Int) (m : Nat) : Prop where
  inc : Inc S
  proper : Y4 S
  inr : InR S a b
  cnt : W7 S a b m
  hues : ∀ x ∈ S, ∃ h : Int, x.h = some h ∧ 0 ≤ h ∧ h < m
theorem W7.uniq {S : List Rw} {a b : Int} {m m' : Nat} (x : W7 S a b m) (y : W7 S a b m') : m = m' := by
  have key : ∀ {m m' : Nat}, W7 S a b m → W7 S a b m' → m ≤ m' := fun {m m'} x y => by
    rcases x.got with h | ⟨s, e, h1, h2, h3⟩
    · exact Zrg h
    · have := y.le s e h1 h2; exact Zu6 h3 this
  have := key x y; have := key y x; omega
theorem Zmb {S : List Rw} {s : Bool} {e : Int} (h : ∀ x ∈ S, x.e s ≠ e) : deg S s e = 0 := by
  unfold deg
  rw [List.length_eq_zero_iff, List.filter_eq_nil_iff]
  intro x hx; simpa using h x hx
theorem W7.all {S : List Rw} {a b : Int} {m : Nat} (x : W7 S a b m) (r : InR S a b) (s : Bool) (e : Int) : deg S s e ≤ m := by
  by_cases h : 0 ≤ e ∧ e < Zb3 a b s
  · exact x.le s e h.1 h.2
  · rw [Zmb fun y hy q => h (by rw [← q]; exact r y hy s)]; exact Z2h
theorem W7.empty {a b : Int} : W7 [] a b 0 := ⟨fun _ _ _ _ => Nat.le_refl _, .inl rfl⟩
theorem Zlj.empty {a b : Int} : Zlj [] a b 0 := ⟨.nil, fun _ h => absurd h (by simp), fun _ h => absurd h (by simp), .empty, fun _ h => absurd h (by simp)⟩
theorem Ztz {S : List Rw} {f : Rw → Rw} (hf : ∀ x t, (f x).e t = x.e t) (s : Bool) (e : Int) : deg (S.map f) s e = deg S s e := by
  unfold deg
  rw [List.filter_map, List.length_map]
  congr 2
  funext x; simp [hf]
theorem Znu {S T : List Rw} {s : Bool} {e : Int} : deg (S ++ T) s e = deg S s e + deg T s e := by unfold deg; simp
theorem Zi6 {S : List Rw} {p : Rw → Bool} {s : Bool} {e : Int} : deg (S.filter p) s e ≤ deg S s e := by
  unfold deg; rw [List.filter_filter]
  have : (S.filter fun a => a.e s == e && p a) = (S.filter fun x => x.e s == e).filter p := by rw [List.filter_filter]; congr 1; funext x; rw [Bool.and_comm]
  rw [this]; exact List.length_filter_le _ _
theorem W7.congr {S T : List Rw} {a b : Int} {m : Nat} (x : W7 S a b m) (h : ∀ s e, deg T s e = deg S s e) : W7 T a b m :=
  ⟨fun s e h1 h2 => by rw [h]; exact x.le s e h1 h2, by
    rcases x.got with q | ⟨s, e, h1, h2, h3⟩
    · exact .inl q
    · exact .inr ⟨s, e, h1, h2, by rw [h]; exact h3⟩⟩
structure Way (S : List Rw) (k : Int) (m : Nat) (hue other : Int) (l : List Rw) : Prop where
  ex : ∃ (s : Bool) (x : Rw), x ∈ S ∧ x.n = k ∧ x.h = none ∧ Zbc S s (x.e s) other hue l ∧ Zc2 S s (x.e s) other hue l ∧ Zas S s (x.e s) other ∧ Zas S (!s) (x.e (!s)) hue
  ne : other ≠ hue
  hue : 0 ≤ hue ∧ hue < m
  other : 0 ≤ other ∧ other < m
noncomputable def Zc0 (S : List Rw) (k hue other : Int) (nums : List Int) : List Rw := (S.map (Xz nums hue other)).map (Wm k (some hue))
theorem Zh2 {nums : List Int} {a b : Int} : Xz nums a b = Xz nums b a := by
  funext x; unfold Xz; rw [Int.add_comm a b]
theorem Way.proper {S : List Rw} {k hue other : Int} {m : Nat} {l : List Rw} (w : Way S k m hue other l) (hp : Y4 S) (hi : Inc S) : Y4 (Zc0 S k hue other (l.map Rw.n)) := by
  obtain ⟨s, x, hx, hk, hn, P, D, hf, hg⟩ := w.ex
  unfold Zc0
  rw [Zh2]
  refine Zhu (P.flip_proper D hp hi w.ne hf) fun y hy q t => ?_
  obtain ⟨z, hz, rfl⟩ := Zdu hy
  rw [Zag] at q
  have : z = x := hi.inj hz hx (q.trans hk.symm)
  subst this
  rw [Zg5]
  by_cases ht : t = s
  · subst ht; exact P.flip_free D hp hi w.ne hf
  · have : t = !s := by cases t <;> cases s <;> simp_all
    subst this
    exact P.flip_far hi w.ne hg
theorem Way.nodup {S : List Rw} {k hue other : Int} {m : Nat} {l : List Rw} (w : Way S k m hue other l) (hp : Y4 S) (hi : Inc S) : (l.map Rw.n).Nodup ∧ (∀ x ∈ l, x ∈ S) ∧ k ∉ l.map Rw.n := by
  obtain ⟨s, x, hx, hk, hn, P, D, hf, hg⟩ := w.ex
  refine ⟨P.nodup hp hi w.ne hf, P.mem, fun q => ?_⟩
  obtain ⟨i, q⟩ := P.at hi hx (hk ▸ q)
  rw [P.hue i x q] at hn; cases hn
theorem Way.chainHue {S : List Rw} {k hue other : Int} {m : Nat} {l : List Rw} (w : Way S k m hue other l) {x : Rw} (hx : x ∈ l) : x.h = some hue ∨ x.h = some other := by
  obtain ⟨s, y, _, _, _, P, _⟩ := w.ex
  obtain ⟨i, hi, e⟩ := List.getElem_of_mem hx
  rw [P.hue i x (by rw [List.getElem?_eq_getElem hi, e])]
  unfold Xj; split
  · exact .inl rfl
  · exact .inr rfl
theorem Way.hues {S : List Rw} {k hue other : Int} {m : Nat} {l : List Rw} (w : Way S k m hue other l) (hi : Inc S) : ∀ y ∈ Zc0 S k hue other (l.map Rw.n), (∃ h : Int, y.h = some h ∧ 0 ≤ h ∧ h < m) ∨ (y ∈ S ∧ y.n ≠ k) := by
  intro y hy
  obtain ⟨s, x, hx, hk, hn, P, D, hf, hg⟩ := w.ex
  unfold Zc0 at hy
  obtain ⟨y', hy', rfl⟩ := List.mem_map.1 hy
  obtain ⟨z, hz, rfl⟩ := Zdu hy'
  by_cases q : z.n = k
  · exact .inl ⟨hue, Zai (by rw [Zag]; exact q), w.hue⟩
  · rw [Y1 (by rw [Zag]; exact q)]
    by_cases c : z.n ∈ l.map Rw.n
    · obtain ⟨i, e⟩ := P.at hi hz c
      refine .inl ⟨Xj other hue (i + 1), by rw [Zh2]; exact P.flip_hue e, ?_⟩
      unfold Xj; split
      · exact w.hue
      · exact w.other
    · rw [Xl c]; exact .inr ⟨hz, q⟩
noncomputable def Ze8 (S : List Rw) (k hue : Int) : List Rw := S.map (Wm k (some hue))
theorem Zle {S : List Rw} {k hue : Int} (hp : Y4 S) (hi : Inc S) {x : Rw} (hx : x ∈ S) (hk : x.n = k) (hf : ∀ t, Zas S t (x.e t) hue) : Y4 (Ze8 S k hue) :=
  Zhu hp fun y hy q t => by
    have : y = x := hi.inj hy hx (q.trans hk.symm)
    subst this; exact hf t
noncomputable def sk (x : Rw) : Int × Int × Int := (x.n, x.l, x.r)
structure Zv2 (S S' : List Rw) (k : Int) (m : Nat) : Prop where
  sk : S'.map sk = S.map sk
  inc : Inc S'
  proper : Y4 S'
  hues : ∀ y ∈ S', (∃ h : Int, y.h = some h ∧ 0 ≤ h ∧ h < m) ∨ (y ∈ S ∧ y.n ≠ k)
theorem Zjk {S : List Rw} {f : Rw → Rw} (hf : ∀ x, sk (f x) = sk x) : (S.map f).map sk = S.map sk := by
  rw [List.map_map]; exact List.map_congr_left fun x _ => hf x
theorem Zq5 {nums : List Int} {a b : Int} {x : Rw} : sk (Xz nums a b x) = sk x := by unfold Xz; split <;> rfl
theorem Zim {k : Int} {h : Option Int} {x : Rw} : sk (Wm k h x) = sk x := by unfold Wm; split <;> rfl
theorem Way.hued {S : List Rw} {k hue other : Int} {m : Nat} {l : List Rw} (w : Way S k m hue other l) (hp : Y4 S) (hi : Inc S) : Zv2 S (Zc0 S k hue other (l.map Rw.n)) k m :=
  ⟨by unfold Zc0; rw [Zjk fun _ => Zim, Zjk fun _ => Zq5], Zcx (fun _ => Wv) (Zcx (fun _ => Zag) hi), w.proper hp hi, w.hues hi⟩
theorem Zp6 {S : List Rw} {k hue : Int} {m : Nat} (hp : Y4 S) (hi : Inc S) {x : Rw} (hx : x ∈ S) (hk : x.n = k) (hf : ∀ t, Zas S t (x.e t) hue) (hh : 0 ≤ hue ∧ hue < m) : Zv2 S (Ze8 S k hue) k m :=
  ⟨Zjk fun _ => Zim, Zcx (fun _ => Wv) hi, Zle hp hi hx hk hf, fun y hy => by
    obtain ⟨z, hz, rfl⟩ := List.mem_map.1 hy
    by_cases q : z.n = k
    · exact .inl ⟨hue, Zai q, hh⟩
    · rw [Y1 q]; exact .inr ⟨hz, q⟩⟩
theorem Zp2 {S T : List Rw} (h : T.map sk = S.map sk) (s : Bool) (e : Int) : deg T s e = deg S s e := by
  have key : ∀ U : List Rw, deg U s e = ((U.map sk).filter fun p => (if s then p.2.2 else p.2.1) == e).length := fun U => by
    unfold deg; rw [List.filter_map, List.length_map]; rfl
  rw [key, key, h]
theorem Zpl {S T : List Rw} {a b : Int} (h : T.map sk = S.map sk) (r : InR S a b) : InR T a b := fun x hx s => by
  have : sk x ∈ S.map sk := h ▸ List.mem_map.2 ⟨x, hx, rfl⟩
  obtain ⟨y, hy, q⟩ := List.mem_map.1 this
  have e : x.e s = y.e s := by unfold sk at q; simp only [Prod.mk.injEq] at q; unfold Rw.e; rw [q.2.1, q.2.2]
  rw [e]; exact r y hy s
theorem Zlj.come {S : List Rw} {a b : Int} {m m' : Nat} (G : Zlj S a b m) {x : Rw} (hx : ∀ y ∈ S, y.n < x.n) (hr : ∀ s, 0 ≤ x.e s ∧ x.e s < Zb3 a b s) (hn : x.h = none) (hc : W7 (S ++ [x]) a b m') {S' : List Rw} (H : Zv2 (S ++ [x]) S' x.n m') : Zlj S' a b m' := by
  have hm : m ≤ m' := by
    rcases G.cnt.got with q | ⟨s, e, h1, h2, h3⟩
    · exact Zrg q
    · have := hc.le s e h1 h2; rw [Znu] at this; exact Z1b h3 this
  refine ⟨H.inc, H.proper, Zpl H.sk fun y hy s => ?_, hc.congr (Zp2 H.sk), fun y hy => ?_⟩
  · rcases List.mem_append.1 hy with h | h
    · exact G.inr y h s
    · rw [List.mem_singleton.1 h]; exact hr s
  · rcases H.hues y hy with h | ⟨h, q⟩
    · exact h
    · rcases List.mem_append.1 h with h | h
      · obtain ⟨v, e, h1, h2⟩ := G.hues y h; exact ⟨v, e, h1, by exact Z1a hm h2⟩
      · rw [List.mem_singleton.1 h] at q; exact absurd rfl q
theorem Zlj.comeInc {S : List Rw} {a b : Int} {m : Nat} (G : Zlj S a b m) {x : Rw} (hx : ∀ y ∈ S, y.n < x.n) (hn : x.h = none) : Inc (S ++ [x]) ∧ Y4 (S ++ [x]) := by
  refine ⟨?_, fun y hy z hz t h1 h2 h3 => ?_⟩
  · unfold Inc; rw [List.pairwise_append]
    exact ⟨G.inc, List.pairwise_singleton _ _, fun y hy z hz => by rw [List.mem_singleton.1 hz]; exact hx y hy⟩
  · rcases List.mem_append.1 hy with p | p <;> rcases List.mem_append.1 hz with q | q
    · exact G.proper y p z q t h1 h2 h3
    · rw [List.mem_singleton.1 q, hn] at h2; exact absurd h2 h3
    · rw [List.mem_singleton.1 p, hn] at h3; exact absurd rfl h3
    · rw [List.mem_singleton.1 p, List.mem_singleton.1 q]
end
section
theorem Zr5 {S : List Rw} {p : Rw → Bool} {s : Bool} {e : Int} (hi : Inc S) (h : ∀ x ∈ S, ∀ y ∈ S, x.e s = e → y.e s = e → p x = false → p y = false → x.n = y.n) : deg S s e ≤ deg (S.filter p) s e + 1 := by
  have h1 : deg S s e = ((S.filter fun x => x.e s == e).filter p).length + ((S.filter fun x => x.e s == e).filter fun x => !p x).length := by
    unfold deg
    generalize (S.filter fun x => x.e s == e) = T
    induction T with
    | nil => rfl
    | cons y T ih => cases q : p y <;> simp [List.filter_cons, q, ih] <;> omega
  have h2 : ((S.filter fun x => x.e s == e).filter p).length = deg (S.filter p) s e := by
    unfold deg; rw [List.filter_filter, List.filter_filter]; congr 2; funext x; rw [Bool.and_comm]
  have h3 : ((S.filter fun x => x.e s == e).filter fun x => !p x).length ≤ 1 := by
    have hT : ((S.filter fun x => x.e s == e).filter fun x => !p x).Pairwise fun x y => x.n < y.n := (List.Pairwise.filter _ hi).filter _
    have hm : ∀ x ∈ (S.filter fun x => x.e s == e).filter fun x => !p x, x ∈ S ∧ x.e s = e ∧ p x = false := fun x hx => by
      obtain ⟨a, b⟩ := List.mem_filter.1 hx
      obtain ⟨a, c⟩ := List.mem_filter.1 a
      exact ⟨a, by simpa using c, by simpa using b⟩
    generalize (S.filter fun x => x.e s == e).filter (fun x => !p x) = T at hT hm
    match T, hT, hm with
    | [], _, _ => simp
    | [_], _, _ => simp
    | x :: y :: T, hT, hm =>
      have h1 := (List.pairwise_cons.1 hT).1 y (.head _)
      have a := hm x (.head _)
      have b := hm y (.tail _ (.head _))
      have := h x a.1 y b.1 a.2.1 b.2.1 a.2.2 b.2.2
      exact Z09 h1 this
  exact Z08 h1 h2 h3
theorem Inc.filter {S : List Rw} (hi : Inc S) (p : Rw → Bool) : Inc (S.filter p) := List.Pairwise.filter _ hi
theorem Y4.filter {S : List Rw} (hp : Y4 S) (p : Rw → Bool) : Y4 (S.filter p) := fun x hx y hy => hp x (List.mem_filter.1 hx).1 y (List.mem_filter.1 hy).1
theorem InR.filter {S : List Rw} {a b : Int} (r : InR S a b) (p : Rw → Bool) : InR (S.filter p) a b := fun x hx => r x (List.mem_filter.1 hx).1
structure Zqy (S : List Rw) (a b : Int) (m : Nat) (rest : List Int) : Prop where
  inc : Inc S
  proper : Y4 S
  inr : InR S a b
  cnt : W7 S a b m
  hues : ∀ x ∈ S, ∃ h : Int, x.h = some h ∧ 0 ≤ h ∧ h ≤ m ∧ (x.n ∉ rest → h < m)
noncomputable def drp (k : Int) (S : List Rw) : List Rw := S.filter fun x => x.n != k
theorem Zlj.go {S : List Rw} {a b : Int} {m m' : Nat} (G : Zlj S a b m) {k : Int} (hc : W7 (drp k S) a b m') : m' ≤ m ∧ (m' = m → Zlj (drp k S) a b m') ∧ (m' < m → Zqy (drp k S) a b m' ((drp k S).map Rw.n)) := by
  have h1 : m' ≤ m := by
    rcases hc.got with h | ⟨s, e, h1, h2, h3⟩
    · exact Zrg h
    · have := Zi6 (S := S) (p := fun x => x.n != k) (s := s) (e := e); have := G.cnt.le s e h1 h2; unfold drp at h3; omega
  have h2 : m ≤ m' + 1 := by
    rcases G.cnt.got with h | ⟨s, e, h1, h2, h3⟩
    · exact Z07 h1 h
    · have := Zr5 (S := S) (p := fun x => x.n != k) (s := s) (e := e) G.inc fun x _ y _ _ _ p q => by
        have p : x.n = k := by simpa using p
        have q : y.n = k := by simpa using q
        rw [p, q]
      have := hc.le s e h1 h2; unfold drp at this; omega
  refine ⟨h1, fun e => ⟨G.inc.filter _, G.proper.filter _, G.inr.filter _, hc, fun x hx => ?_⟩, fun e => ⟨G.inc.filter _, G.proper.filter _, G.inr.filter _, hc, fun x hx => ?_⟩⟩
  · obtain ⟨h, q, p1, p2⟩ := G.hues x (List.mem_filter.1 hx).1
    exact ⟨h, q, p1, by exact Z06 e p2⟩
  · obtain ⟨h, q, p1, p2⟩ := G.hues x (List.mem_filter.1 hx).1
    exact ⟨h, q, p1, by exact Z05 h1 h2 e p2, fun n => absurd (List.mem_map.2 ⟨x, hx, rfl⟩) n⟩
theorem Zqy.done {S : List Rw} {a b : Int} {m : Nat} (P : Zqy S a b m []) : Zlj S a b m :=
  ⟨P.inc, P.proper, P.inr, P.cnt, fun x hx => let ⟨h, q, p1, _, p3⟩ := P.hues x hx; ⟨h, q, p1, p3 (by simp)⟩⟩
theorem Zqy.skip {S : List Rw} {a b : Int} {m : Nat} {k : Int} {rest : List Int} (P : Zqy S a b m (k :: rest)) {x : Rw} (hx : x ∈ S) (hk : x.n = k) (hh : x.h ≠ some (m : Int)) : Zqy S a b m rest :=
  ⟨P.inc, P.proper, P.inr, P.cnt, fun y hy => by
    obtain ⟨h, q, p1, p2, p3⟩ := P.hues y hy
    refine ⟨h, q, p1, p2, fun n => ?_⟩
    by_cases z : y.n = k
    · have : y = x := P.inc.inj hy hx (z.trans hk.symm)
      subst this
      rw [q] at hh
      have : h ≠ m := fun w => hh (by rw [w])
      exact Z04 p2 this
    · exact p3 (by simp only [List.mem_cons, not_or]; exact ⟨z, n⟩)⟩
theorem Zqy.step {S S' : List Rw} {a b : Int} {m : Nat} {k : Int} {rest : List Int} (P : Zqy S a b m (k :: rest)) (H : Zv2 (S.map (Wm k none)) S' k m) : Zqy S' a b m rest := by
  have hsk : S'.map sk = S.map sk := H.sk.trans (Zjk fun _ => Zim)
  refine ⟨H.inc, H.proper, Zpl hsk P.inr, P.cnt.congr (Zp2 hsk), fun y hy => ?_⟩
  rcases H.hues y hy with ⟨h, q, p1, p2⟩ | ⟨hm, hn⟩
  · exact ⟨h, q, p1, by exact Zu5 p2, fun _ => p2⟩
  · obtain ⟨z, hz, rfl⟩ := List.mem_map.1 hm
    rw [Wv] at hn
    rw [Y1 hn]
    obtain ⟨h, q, p1, p2, p3⟩ := P.hues z hz
    exact ⟨h, q, p1, p2, fun n => p3 (by simp only [List.mem_cons, not_or]; exact ⟨hn, n⟩)⟩
noncomputable def Zfh (S : List Rw) (h : Int) : List Rw := S.filter fun x => x.h == some h
theorem Zvs {S T : List Rw} {a b : Int} {m : Nat} (h : T.map sk = S.map sk) (x : W7 S a b m) : W7 T a b m := x.congr (Zp2 h)
end
section
open PySem PySem.W PyProof.Rows
variable {g : Gr} {sc csc : Scope} {r : Nat} {c : Bool} {K : Frag}
theorem Zm2 {n : String} {f : Value} {p pos : Pos} {args : List Expr} {ts : TL} {t : TF} (hK : K.In g.b0) (hm : (Str.ofString n, NameKind.globalImplicit) ∈ sc.names) (hk : Wn g n f) (hkp : keepIn K f = true) (hF : Zfs g r f t) (hL : Zml g sc r true args ts) (hp : Zef args) :
    Xy g sc r true (.Call (.Name (Str.ofString n) p) args [] pos) (Ye ts t) := .mk fun A env s ℓ σ Q E X h => by
  show wpAny _ A (do callWith pos (← eval (.Name (Str.ofString n) p) env) [] (backTo pos (starEach args env)) (backToKw pos (keywordEach [] env))) _ _ s
  refine wpAny_bind (X7 X hm hk ?_)
  refine Zg8 hK hkp (Wz hp pos env) (wpAny_mono (hL.run A env pos s ℓ σ _ E X h) (fun vs s₁ p => ?_) fun _ _ p => p)
  refine Za3.elim p fun xs σ₁ hv hR hx hs hq => ?_
  have X1 := X.step hR hx
  exact ⟨fun a o e => hR.base a o e, Zbd hx hs (hF.run A s₁ σ₁ xs vs Q E X.gok X1.fr.frl X1.room hR hv hq)⟩
section
variable {o : Expr} {apos pos : Pos} {args : List Expr} {to : TE} {ts : TL}
theorem Z1y (ho : Xy g sc r true o to) (hL : Zml g sc r true args ts) (hp : Zef args) (hbase : Ze1 o = false) (hfew : decide (args.length < 30) = true)
    (hline : (apos.endLine == pos.line) = true) : Xy g sc r true (.Call (.Attribute o (Str.ofString "pop") apos) args [] pos) (Xf .dict Zt5 to ts) :=
  Zcq (T := .dict) F.plainAttrs_dict F.slot_dict_pop F.type_dict_pop Zq2 ho hL hp hbase hfew hline
end
theorem Zft {i : String} : Zfr (Zk i) := fun ℓ σ Q E h => by
  unfold Zk at h
  split at h
  · rename_i v e; exact ⟨v, h, fun _ _ _ q => by unfold Zk; rw [e]; exact q⟩
  · exact h.elim
theorem Zky {x : Str} (h : PyData.strOk x = true) : Lay (.str x) := ⟨by simpa [PyData.canLay0] using h, by simp [PyData.depth]⟩
theorem Zfl {σ : AH} {a b : Str} {Q : Bool → Prop} (ha : PyData.strOk a = true) (hb : PyData.strOk b = true) (h : Q (a == b)) : eqD (.str a) (.str b) σ Q := by
  unfold eqD
  exact ⟨.str a, .str b, by simp [Y3], by simp [Y3], Zky ha, Zky hb, by simpa only [PyData.eqv] using h⟩
noncomputable def Zjb : Option Int → V
  | none => .none
  | some h => .int h
noncomputable def Zpp : Option Int → PyData
  | none => .none
  | some h => .int h
theorem Zr6 {σ : AH} (h : Option Int) : Y3 σ (Zpp h) (Zjb h) := by cases h <;> simp [Zpp, Zjb, Y3]
theorem Zlb {σ : AH} {a : Option Int} {b : Int} {Q : Bool → Prop} (h : Q (a == some b)) : eqD (Zjb a) (.int b) σ Q := by
  cases a with
  | none => unfold eqD Zjb; exact ⟨.none, .int b, by simp [Y3], by simp [Y3], Zrp, Zkz b, by simpa [PyData.eqv] using h⟩
  | some x => simp only [Zjb, eqD]; simpa using h
theorem Zj8 {σ : AH} : ∀ (hs : List (Option Int)), X6 σ (hs.map Zpp) (hs.map Zjb)
  | [] => by simp [X6]
  | h :: hs => by simp only [List.map_cons, X6]; exact ⟨_, _, rfl, Zr6 h, Zj8 hs⟩
theorem Zg7 : ∀ hs : List (Option Int), PyData.canLayAll0 (hs.map Zpp) = true
  | [] => by simp [PyData.canLayAll0]
  | h :: hs => by cases h <;> simp [PyData.canLayAll0, PyData.canLay0, Zpp, Zg7 hs]
theorem Zh5 : ∀ hs : List (Option Int), PyData.depthAll (hs.map Zpp) ≤ 1
  | [] => by simp [PyData.depthAll]
  | h :: hs => by
    have := Zh5 hs
    cases h <;> (simp only [List.map_cons, Zpp, PyData.depthAll, PyData.depth]; exact Z2g this)
theorem Zrq (hs : List (Option Int)) : Lay (.list (hs.map Zpp)) := ⟨by simp [PyData.canLay0, Zg7], by have := Zh5 hs; simp only [PyData.depth]; exact Zwm this⟩
theorem Zp8 : ∀ (hs : List (Option Int)) (k : Int), ((hs.map Zpp).any fun y => PyData.eqv y (.int k)) = decide (some k ∈ hs)
  | [], k => by simp
  | h :: hs, k => by
    rw [List.map_cons, List.any_cons, Zp8 hs k]
    cases h with
    | none => simp [Zpp, PyData.eqv]
    | some x =>
      simp only [Zpp, PyData.eqv]
      by_cases q : x = k
      · subst q; simp
      · have q' : ¬ k = x := fun z => q z.symm
        have : (x == k) = false := by simpa using q
        rw [this]; simp [q']
theorem Zrt {σ : AH} {a : Addr} {hs : List (Option Int)} {k : Int} {Q : Bool → Prop} (ha : σ a = some (.list (hs.map Zjb))) (h : Q (decide (some k ∈ hs))) : inD (.int k) (.ref a) σ Q := by
  simp only [inD, ha]
  exact ⟨_, .int k, Zj8 hs, by simp [Y3], Zrq hs, Zkz k, by rw [Zp8]; exact h⟩
theorem Zdy {σ : AH} {a b : Addr} {ns ms : List Int} {Q : Bool → Prop} (ha : σ a = some (.list (ns.map V.int))) (hb : σ b = some (.list (ms.map V.int))) (h : Q (ns == ms)) : eqD (.ref a) (.ref b) σ Q := by
  unfold eqD
  exact ⟨_, _, Zci ha (Zcj ns), Zci hb (Zcj ms), Zi3 ns, Zi3 ms, by simpa only [PyData.eqv, Zcz] using h⟩
noncomputable def Zb8 (s : Bool) : Str := if s then Str.ofString "right" else Str.ofString "left"
theorem Zhq (s : Bool) : (Zb8 s == Str.ofString "left") = !s := by cases s <;> decide +kernel
theorem Zin (s : Bool) : PyData.strOk (Zb8 s) = true := by cases s <;> decide +kernel
theorem Zpi : PyData.strOk (Str.ofString "left") = true := by decide +kernel
theorem Zi2 : Str.ofString "left" ≠ Str.ofString "right" := by decide +kernel
noncomputable def Zht (x : Rw) : List V := [.int x.l, .int x.r, Zjb x.h]
structure HD where
  T : List (Rw × Addr)
  a : Int
  b : Int
  nx : Int
  d : Addr
  rd : Addr
  sd : Addr
  kvs : List (Str × V)
noncomputable def HD.S (D : HD) : List Rw := D.T.map (·.1)
noncomputable def HD.foot (D : HD) (y : Addr) : Prop := y = D.d ∨ y = D.rd ∨ y ∈ D.T.map (·.2)
structure Zu (σ : AH) (C x : Addr) (D : HD) : Prop where
  inst : σ x = some (.inst C D.d)
  attrs : σ D.d = some (.attrs D.kvs)
  aRows : D.kvs.lookup (Str.ofString "rows") = some (.ref D.rd)
  aSizes : D.kvs.lookup (Str.ofString "sizes") = some (.ref D.sd)
  aNext : D.kvs.lookup (Str.ofString "next_number") = some (.int D.nx)
  names : ∀ p ∈ D.kvs, p.1 = Str.ofString "rows" ∨ p.1 = Str.ofString "sizes" ∨ p.1 = Str.ofString "next_number"
  few : D.kvs.length ≤ 3 + D.nx.toNat
  rows : ∃ ep, σ D.rd = some (.dictI (D.T.map fun t => (t.1.n, V.ref t.2)) ep)
  row : ∀ t ∈ D.T, σ t.2 = some (.list (Zht t.1))
  nodup : (D.T.map (·.2)).Nodup
  sizes : ∃ ep, σ D.sd = some (.dictS [(Str.ofString "left", .int D.a), (Str.ofString "right", .int D.b)] ep)
theorem Zu.sub {σ σ' : AH} {C x : Addr} {D : HD} (H : Zu σ C x D) (s : Sub σ σ') : Zu σ' C x D :=
  ⟨s _ _ H.inst, s _ _ H.attrs, H.aRows, H.aSizes, H.aNext, H.names, H.few, let ⟨ep, e⟩ := H.rows; ⟨ep, s _ _ e⟩, fun t ht => s _ _ (H.row t ht), H.nodup, let ⟨ep, e⟩ := H.sizes; ⟨ep, s _ _ e⟩⟩
theorem Zu.noName {σ : AH} {C x : Addr} {D : HD} (H : Zu σ C x D) {n : Str} (h : (n == Str.ofString "rows" || n == Str.ofString "sizes" || n == Str.ofString "next_number") = false) : D.kvs.lookup n = none := by
  cases e : D.kvs.lookup n with
  | none => rfl
  | some v =>
    have := Zjo (x := n) (kvs := D.kvs) (by rw [e]; simp)
    obtain ⟨p, hp, q⟩ := List.mem_map.1 this
    rcases H.names p hp with z | z | z <;> (rw [← q, z] at h; simp at h)
theorem Zu.instOf {σ : AH} {C x : Addr} {D : HD} (H : Zu σ C x D) {n : Str} (h : (n == Str.ofString "rows" || n == Str.ofString "sizes" || n == Str.ofString "next_number") = false) : Mine.instOf C n (.ref x) σ :=
  ⟨x, D.d, D.kvs, rfl, H.inst, H.attrs, H.noName h⟩
theorem Zu.rowsA {σ : AH} {C x : Addr} {D : HD} (H : Zu σ C x D) : Zf3 C (Str.ofString "rows") (.ref x) σ = some (.ref D.rd) := Zg9 H.inst H.attrs H.aRows
theorem Zu.sizesA {σ : AH} {C x : Addr} {D : HD} (H : Zu σ C x D) : Zf3 C (Str.ofString "sizes") (.ref x) σ = some (.ref D.sd) := Zg9 H.inst H.attrs H.aSizes
theorem Zu.nextA {σ : AH} {C x : Addr} {D : HD} (H : Zu σ C x D) : Zf3 C (Str.ofString "next_number") (.ref x) σ = some (.int D.nx) := Zg9 H.inst H.attrs H.aNext
theorem Zl0 {T : List (Rw × Addr)} (hi : Inc (T.map (·.1))) {t : Rw × Addr} (ht : t ∈ T) : (T.map fun t => (t.1.n, V.ref t.2)).lookup t.1.n = some (.ref t.2) := by
  induction T with
  | nil => cases ht
  | cons u T ih =>
    rw [List.map_cons, List.lookup_cons]
    rcases List.mem_cons.1 ht with rfl | h
    · simp
    · have : u.1.n < t.1.n := (List.pairwise_cons.1 hi).1 t.1 (List.mem_map.2 ⟨t, h, rfl⟩)
      have q : (t.1.n == u.1.n) = false := by simp; exact Z03 this
      rw [q]; exact ih (List.pairwise_cons.1 hi).2 h
theorem Zu.item {σ : AH} {C x : Addr} {D : HD} (H : Zu σ C x D) (hi : Inc D.S) {t : Rw × Addr} (ht : t ∈ D.T) {Q : V → Prop} (h : Q (.ref t.2)) : Zbb (.ref D.rd) (.int t.1.n) σ Q := by
  obtain ⟨ep, e⟩ := H.rows
  simp only [Zbb, e, Zl0 hi ht]
  exact h
theorem Zpe {D : HD} {x : Rw} (h : x ∈ D.S) : ∃ t ∈ D.T, t.1 = x := List.mem_map.1 h
theorem Zu.item0 {σ : AH} {C x : Addr} {D : HD} (H : Zu σ C x D) {t : Rw × Addr} (ht : t ∈ D.T) {Q : V → Prop} (h : Q (.int t.1.l)) : Zbb (.ref t.2) (.int 0) σ Q := by
  simp only [Zbb, H.row t ht]
  exact h
theorem Zu.item1 {σ : AH} {C x : Addr} {D : HD} (H : Zu σ C x D) {t : Rw × Addr} (ht : t ∈ D.T) {Q : V → Prop} (h : Q (.int t.1.r)) : Zbb (.ref t.2) (.int 1) σ Q := by
  simp only [Zbb, H.row t ht]
  exact h
theorem Zu.item2 {σ : AH} {C x : Addr} {D : HD} (H : Zu σ C x D) {t : Rw × Addr} (ht : t ∈ D.T) {Q : V → Prop} (h : Q (Zjb t.1.h)) : Zbb (.ref t.2) (.int 2) σ Q := by
  simp only [Zbb, H.row t ht]
  exact h
theorem Zu.size {σ : AH} {C x : Addr} {D : HD} (H : Zu σ C x D) (s : Bool) {Q : V → Prop} (h : Q (.int (Zb3 D.a D.b s))) : Zbb (.ref D.sd) (.str (Zb8 s)) σ Q := by
  obtain ⟨ep, e⟩ := H.sizes
  cases s with
  | false => simp only [Zbb, e, Zb8, List.lookup_cons]; simpa [Zb3] using h
  | true =>
    have : (Str.ofString "right" == Str.ofString "left") = false := by decide +kernel
    simp only [Zbb, e, Zb8, List.lookup_cons, if_true, this]; simpa [Zb3] using h
end
section
open PySem PySem.W PyProof.Rows
theorem Xc {α : Type} {t : Tgt} {inv : AH → Prop} {tifs : TB} {telt : TE} {ℓ : Loc} {σ : AH} {Q : List V → AH → Prop} {E : Addr → AH → Prop} (f : α → V) (p : α → Bool) (F : α → V) (xs : List α) (hinv : ∀ σ', Sub σ σ' → inv σ')
    (hs : ∀ x ∈ xs, ∀ σ', Sub σ σ' → ∃ ℓ₁, (∀ P : Loc → Prop, P ℓ₁ → Xd t (f x) ℓ.bare σ' P) ∧ (∀ Qb : Bool → AH → Prop, (∀ σ'', Sub σ' σ'' → Qb (p x) σ'') → tifs ℓ₁ σ' Qb E) ∧
        (p x = true → ∀ σ'', Sub σ' σ'' → ∀ Qv : V → AH → Prop, (∀ σ₃, Sub σ'' σ₃ → Qv (F x) σ₃) → telt ℓ₁ σ'' Qv E))
    (h : ∀ σ', Sub σ σ' → Q ((xs.filter p).map F) σ') : Ze5 t inv tifs telt ℓ (xs.map f) [] σ Q E :=
  Zfo f p F hinv xs [] σ Sub.refl hs h
theorem Wl {α : Type} {t : Tgt} {inv : AH → Prop} {telt : TE} {ℓ : Loc} {σ : AH} {Q : List V → AH → Prop} {E : Addr → AH → Prop} (f : α → V) (F : α → V) (xs : List α) (hinv : ∀ σ', Sub σ σ' → inv σ')
    (hs : ∀ x ∈ xs, ∃ ℓ₁, (∀ σ', Sub σ σ' → ∀ P : Loc → Prop, P ℓ₁ → Xd t (f x) ℓ.bare σ' P) ∧ (∀ σ', Sub σ σ' → ∀ Qv : V → AH → Prop, (∀ σ₃, Sub σ' σ₃ → Qv (F x) σ₃) → telt ℓ₁ σ' Qv E))
    (h : ∀ σ', Sub σ σ' → Q (xs.map F) σ') : Ze5 t inv (Wd true) telt ℓ (xs.map f) [] σ Q E := by
  refine Zfo f (fun _ => true) F hinv xs [] σ Sub.refl (fun x hx σ' s' => ?_) (fun σ' s' => by rw [Zh4]; exact h σ' s')
  obtain ⟨ℓ₁, h1, h2⟩ := hs x hx
  exact ⟨ℓ₁, h1 σ' s', fun Qb q => q _ Sub.refl, fun _ σ'' s'' Qv q => h2 σ'' (s'.trans s'') Qv q⟩
theorem Zd6 {σ σ' : AH} {d : Addr} {o : AO} (s : Sub σ σ') : Sub (σ.set d o) (σ'.set d o) := fun y p q => by
  unfold AH.set at q ⊢
  split at q
  · rename_i z; rw [if_pos z]; exact q
  · rename_i z; rw [if_neg z]; exact s _ _ q
theorem Zcv : ∀ {ns ms : List Int}, ms.Perm ns → ms.Pairwise (· ≤ ·) → ns.Pairwise (· < ·) → ms = ns
  | [], ms, hp, _, _ => List.Perm.eq_nil hp
  | n :: ns, [], hp, _, _ => absurd hp.length_eq (by simp)
  | n :: ns, m :: ms, hp, h1, h2 => by
    have e : m = n := by
      have a : m ∈ n :: ns := hp.mem_iff.1 (.head _)
      have b : n ∈ m :: ms := hp.mem_iff.2 (.head _)
      rcases List.mem_cons.1 a with q | q
      · exact q
      · have h3 := (List.pairwise_cons.1 h2).1 m q
        rcases List.mem_cons.1 b with w | w
        · exact w.symm
        · have h4 := (List.pairwise_cons.1 h1).1 n w
          exact Z02 h3 h4
    subst e
    rw [Zcv (List.Perm.cons_inv hp) (List.pairwise_cons.1 h1).2 (List.pairwise_cons.1 h2).2]
theorem Zb2 {σ : AH} {C x : Addr} {D : HD} (H : Zu σ C x D) (hi : Inc D.S) (h64 : D.T.length < 64) {Q : V → AH → Prop} {E : Addr → AH → Prop} (h : ∀ b, σ b = none → Q (.ref b) (σ.set b (.list (D.T.map fun t => V.int t.1.n)))) : Zcn [.ref D.rd] σ Q E := by
  obtain ⟨ep, er⟩ := H.rows
  simp only [Zcn, Zdv, er]
  refine ⟨by simpa using h64, fun ns' b hp hs hb => ?_⟩
  have e : ns' = D.T.map fun t => t.1.n := by
    refine Zcv (by simpa [List.map_map, Function.comp_def] using hp) hs ?_
    unfold Inc HD.S at hi
    rw [List.pairwise_map] at hi
    rw [List.pairwise_map]
    exact hi
  rw [e, List.map_map]
  exact h b hb
noncomputable def Zly (T : List (Rw × Addr)) (s : Bool) (e : Int) : List (Rw × Addr) := T.filter fun t => t.1.e s == e
theorem Zi0 (D : HD) (s : Bool) (e : Int) : (Zly D.T s e).length = deg D.S s e := by
  unfold Zly deg HD.S
  rw [List.filter_map, List.length_map]; rfl
inductive Zvz (C : Addr) (xs : List V) (σ : AH) (Q : V → AH → Prop) : Prop
  | mk (x : Addr) (D : HD) (s : Bool) (e : Int) (h0 : xs = [.ref x, .str (Zb8 s), .int e]) (h1 : Zu σ C x D) (h2 : Inc D.S) (h3 : D.T.length < 64) (h4 : ∀ b, σ b = none → Q (.ref b) (σ.set b (.list ((Zly D.T s e).map fun t => V.int t.1.n)))) : Zvz C xs σ Q
noncomputable def Zt7 (C : Addr) : TF := fun xs σ Q _ => Zvz C xs σ Q
inductive Zqo (C : Addr) (xs : List V) (σ : AH) (Q : V → AH → Prop) : Prop
  | mk (x : Addr) (D : HD) (h0 : xs = [.ref x]) (h1 : Zu σ C x D) (h2 : Inc D.S) (h3 : D.T.length < 64) (h4 : 0 ≤ D.a) (h5 : D.a ≤ 1000) (h6 : 0 ≤ D.b) (h7 : D.b ≤ 1000) (h8 : ∀ m : Nat, W7 D.S D.a D.b m → Q (.int m) σ) : Zqo C xs σ Q
noncomputable def Zfv (C : Addr) : TF := fun xs σ Q _ => Zqo C xs σ Q
noncomputable def Z0 (S : List Rw) (s : Bool) (e : Int) (m : Nat) : List Int := (Zcl m).filter fun h => !(Zjc S s e).contains h
theorem Wg {S : List Rw} {s : Bool} {e : Int} {m : Nat} {h : Int} : h ∈ Z0 S s e m ↔ (0 ≤ h ∧ h < m) ∧ Zas S s e h := by
  unfold Z0
  rw [List.mem_filter, Zdt]
  refine and_congr_right fun _ => ?_
  simp only [Bool.not_eq_true', List.contains_eq_mem, decide_eq_false_iff_not]
  rw [Zdh]
  constructor
  · intro q x hx he hh; exact q ⟨x, hx, he, hh⟩
  · rintro q ⟨x, hx, he, hh⟩; exact q x hx he hh
inductive Zsp (C : Addr) (xs : List V) (σ : AH) (Q : V → AH → Prop) : Prop
  | mk (x : Addr) (D : HD) (s : Bool) (e : Int) (m : Nat) (h0 : xs = [.ref x, .str (Zb8 s), .int e, .int (m : Nat)]) (h1 : Zu σ C x D) (h2 : Inc D.S) (h3 : D.T.length < 64) (h4 : m ≤ 1000) (h5 : ∀ b, σ b = none → Q (.ref b) (σ.set b (.list ((Z0 D.S s e m).map V.int)))) : Zsp C xs σ Q
noncomputable def Zor (C : Addr) : TF := fun xs σ Q _ => Zsp C xs σ Q
noncomputable def Zvb : Option Rw → V
  | none => .none
  | some x => .int x.n
inductive Zsl (C : Addr) (xs : List V) (σ : AH) (Q : V → AH → Prop) : Prop
  | mk (x : Addr) (D : HD) (s : Bool) (e : Int) (h : Int) (h0 : xs = [.ref x, .str (Zb8 s), .int e, .int h]) (h1 : Zu σ C x D) (h2 : Inc D.S) (h3 : D.T.length < 64) (h4 : Q (Zvb (Zhe D.S s e h)) σ) : Zsl C xs σ Q
noncomputable def Zs7 (C : Addr) : TF := fun xs σ Q _ => Zsl C xs σ Q
theorem Zmu {S : List Rw} {s : Bool} {e h : Int} {x : Rw} (q : Zhe S s e h = some x) : x ∈ S ∧ x.e s = e ∧ x.h = some h := by
  unfold Zhe at q
  have := List.find?_some q
  simp only [Bool.and_eq_true, beq_iff_eq] at this
  exact ⟨List.mem_of_find?_eq_some q, this⟩
theorem Zmv {S : List Rw} {s : Bool} {e h : Int} (q : Zhe S s e h = none) : Zas S s e h := fun x hx he hh => by
  unfold Zhe at q
  have := List.find?_eq_none.1 q x hx
  simp [he, hh] at this
theorem Zat {n : Nat} : X9 0 n = (Zcl n).map V.int := by
  unfold X9 Zcl
  rw [List.map_map]
  refine List.map_congr_left fun i _ => ?_
  simp
noncomputable def Zn4 (S : List Rw) (a b : Int) (done : List Bool) : List Int := done.flatMap fun s => (Zcl (Zb3 a b s).toNat).map fun e => (deg S s e : Int)
theorem Zp4 {S : List Rw} {a b : Int} {done : List Bool} {s : Bool} : Zn4 S a b (done ++ [s]) = Zn4 S a b done ++ (Zcl (Zb3 a b s).toNat).map fun e => (deg S s e : Int) := by
  unfold Zn4; rw [List.flatMap_append]; simp
theorem Zrr {S : List Rw} {a b : Int} {m : Int} (h1 : m ∈ (0 : Int) :: Zn4 S a b [false, true]) (h2 : ∀ n ∈ (0 : Int) :: Zn4 S a b [false, true], n ≤ m) : ∃ k : Nat, m = k ∧ W7 S a b k := by
  have h0 := h2 0 (.head _)
  refine ⟨m.toNat, by exact Zv7 h0, fun s e p q => ?_, ?_⟩
  · have : (deg S s e : Int) ∈ (0 : Int) :: Zn4 S a b [false, true] := by
      refine .tail _ ?_
      unfold Zn4
      exact List.mem_flatMap.2 ⟨s, by cases s <;> simp, List.mem_map.2 ⟨e, Zdt.2 ⟨p, by exact Z01 q⟩, rfl⟩⟩
    have := h2 _ this
    exact Zu4 h0 this
  · rcases List.mem_cons.1 h1 with q | q
    · left; exact Zu3 q
    · unfold Zn4 at q
      obtain ⟨s, _, q⟩ := List.mem_flatMap.1 q
      obtain ⟨e, he, q⟩ := List.mem_map.1 q
      have := Zdt.1 he
      exact .inr ⟨s, e, this.1, by exact Z00 this, by exact Z0z h0 q⟩
theorem Zoa (D : HD) (s : Bool) (e : Int) (m : Nat) : ((Zcl m).filter fun h => !decide (some h ∈ (Zly D.T s e).map fun t => t.1.h)) = Z0 D.S s e m := by
  unfold Z0
  congr 1
  funext h
  congr 1
  rw [List.contains_eq_mem]
  congr 1
  rw [Zdh, eq_iff_iff]
  constructor
  · intro q
    obtain ⟨t, ht, q⟩ := List.mem_map.1 q
    obtain ⟨ht, he⟩ := List.mem_filter.1 ht
    exact ⟨t.1, List.mem_map.2 ⟨t, ht, rfl⟩, by simpa using he, q⟩
  · rintro ⟨x, hx, he, hh⟩
    obtain ⟨t, ht, rfl⟩ := List.mem_map.1 hx
    exact List.mem_map.2 ⟨t, List.mem_filter.2 ⟨ht, by simpa using he⟩, hh⟩
theorem Zmw (D : HD) (s : Bool) (e h : Int) : Zhe D.S s e h = ((Zly D.T s e).find? fun t => t.1.h == some h).map (·.1) := by
  unfold Zhe Zly HD.S
  rw [List.find?_filter, List.find?_map]
  congr 2
  funext a
  rw [Bool.eq_iff_iff]
  simp
theorem Zb6 {S : List Rw} {s : Bool} {e : Int} {m : Nat} : (Z0 S s e m).length ≤ m := by
  unfold Z0
  have := List.length_filter_le (fun h => !(Zjc S s e).contains h) (Zcl m)
  rw [Zbt] at this; exact this
end
section
open PySem PySem.W PyProof.Rows
inductive Zqq (C : Addr) (xs : List V) (σ : AH) (Q : V → AH → Prop) : Prop
  | mk (x : Addr) (D : HD) (s : Bool) (e : Int) (one : Int) (other : Int) (h0 : xs = [.ref x, .str (Zb8 s), .int e, .int one, .int other]) (h1 : Zu σ C x D) (h2 : Inc D.S) (h3 : D.T.length < 64) (h4 : Y4 D.S) (h5 : Zas D.S s e one) (h6 : one ≠ other) (h7 : ∀ b l, Zbc D.S s e one other l → Zc2 D.S s e one other l → σ b = none → Q (.ref b) (σ.set b (.list (l.map fun x => V.int x.n)))) : Zqq C xs σ Q
noncomputable def Zo3 (C : Addr) : TF := fun xs σ Q _ => Zqq C xs σ Q
noncomputable def HD.put (D : HD) (k : Int) (h : Option Int) : HD := { D with T := D.T.map fun t => (Wm k h t.1, t.2) }
noncomputable def HD.flip (D : HD) (nums : List Int) (one other : Int) : HD := { D with T := D.T.map fun t => (Xz nums one other t.1, t.2) }
theorem Zms {D : HD} {k : Int} {h : Option Int} : (D.put k h).S = D.S.map (Wm k h) := by simp [HD.put, HD.S, Function.comp_def]
theorem Zkj {D : HD} {nums : List Int} {one other : Int} : (D.flip nums one other).S = D.S.map (Xz nums one other) := by simp [HD.flip, HD.S, Function.comp_def]
theorem Zeh {D : HD} {k : Int} {h : Option Int} : (D.put k h).T.map (·.2) = D.T.map (·.2) := by simp [HD.put, Function.comp_def]
theorem HD.flip_addr {D : HD} {nums : List Int} {one other : Int} : (D.flip nums one other).T.map (·.2) = D.T.map (·.2) := by simp [HD.flip, Function.comp_def]
theorem Zs5 {T : List (Rw × Addr)} (hn : (T.map (·.2)).Nodup) {t u : Rw × Addr} (ht : t ∈ T) (hu : u ∈ T) (h : t.2 = u.2) : t = u := by
  induction T with
  | nil => cases ht
  | cons v T ih =>
    rw [List.map_cons, List.nodup_cons] at hn
    rcases List.mem_cons.1 ht with p | p <;> rcases List.mem_cons.1 hu with q | q
    · rw [p, q]
    · exact absurd (List.mem_map.2 ⟨u, q, by rw [← h, p]⟩) hn.1
    · exact absurd (List.mem_map.2 ⟨t, p, by rw [h, q]⟩) hn.1
    · exact ih hn.2 p q
theorem Zk6 {T : List (Rw × Addr)} (hi : Inc (T.map (·.1))) {t u : Rw × Addr} (ht : t ∈ T) (hu : u ∈ T) (h : t.1.n = u.1.n) : t = u := by
  induction T with
  | nil => cases ht
  | cons v T ih =>
    rcases List.pairwise_cons.1 hi with ⟨h1, h2⟩
    rcases List.mem_cons.1 ht with p | p <;> rcases List.mem_cons.1 hu with q | q
    · rw [p, q]
    · have : v.1.n < u.1.n := h1 _ (List.mem_map.2 ⟨u, q, rfl⟩); rw [← p] at this; omega
    · have : v.1.n < t.1.n := h1 _ (List.mem_map.2 ⟨t, p, rfl⟩); rw [← q] at this; omega
    · exact ih h2 p q
theorem Zu.apart {σ : AH} {C x : Addr} {D : HD} (H : Zu σ C x D) {t : Rw × Addr} (ht : t ∈ D.T) : x ≠ t.2 ∧ D.d ≠ t.2 ∧ D.rd ≠ t.2 ∧ D.sd ≠ t.2 := by
  have r := H.row t ht
  obtain ⟨ep, er⟩ := H.rows
  obtain ⟨eq, es⟩ := H.sizes
  refine ⟨fun z => ?_, fun z => ?_, fun z => ?_, fun z => ?_⟩
  · have := H.inst; rw [z, r] at this; cases this
  · have := H.attrs; rw [z, r] at this; cases this
  · rw [z, r] at er; cases er
  · rw [z, r] at es; cases es
theorem Zu.setHue {σ : AH} {C x : Addr} {D : HD} (H : Zu σ C x D) (hi : Inc D.S) {t : Rw × Addr} (ht : t ∈ D.T) (h : Option Int) : Zu (σ.set t.2 (.list (Zht { t.1 with h := h }))) C x (D.put t.1.n h) := by
  obtain ⟨a1, a2, a3, a4⟩ := H.apart ht
  obtain ⟨ep, er⟩ := H.rows
  obtain ⟨eq, es⟩ := H.sizes
  refine ⟨(Zf a1).trans H.inst, (Zf a2).trans H.attrs, H.aRows, H.aSizes, H.aNext, H.names, H.few, ⟨ep, ?_⟩, fun u hu => ?_, ?_, ⟨eq, (Zf a4).trans es⟩⟩
  · show (σ.set t.2 _) D.rd = _
    rw [Zf a3, er]
    simp [HD.put, Function.comp_def, Wv]
  · obtain ⟨v, hv, rfl⟩ := List.mem_map.1 hu
    show (σ.set t.2 _) v.2 = _
    by_cases z : v.2 = t.2
    · have := Zs5 H.nodup hv ht z
      subst this
      rw [Zd]
      unfold Wm; rw [if_pos rfl]
    · rw [Zf z, H.row v hv]
      rw [Y1 fun w => z (by rw [Zk6 hi hv ht w])]
  · rw [Zeh]; exact H.nodup
theorem Zps {D : HD} (hi : Inc D.S) {done : List Int} {one other : Int} {t : Rw × Addr} (ht : t ∈ D.T) (hn : t.1.n ∉ done) {h : Int} (hh : t.1.h = some h) : (D.flip done one other).put t.1.n (some (one + other - h)) = D.flip (done ++ [t.1.n]) one other := by
  unfold HD.flip HD.put
  congr 1
  rw [List.map_map]
  refine List.map_congr_left fun u hu => ?_
  simp only [Function.comp_apply]
  congr 1
  by_cases z : u.1.n = t.1.n
  · have := Zk6 hi hu ht z
    subst this
    rw [Xl hn]
    unfold Wm Xz
    rw [if_pos rfl, if_pos (by simp), hh]; rfl
  · have : (Xz done one other u.1).n ≠ t.1.n := by rw [Zag]; exact z
    rw [Y1 this]
    unfold Xz
    by_cases w : u.1.n ∈ done
    · rw [if_pos w, if_pos (List.mem_append_left _ w)]
    · rw [if_neg w, if_neg (by simp [w, z])]
theorem Zrv {D : HD} {one other : Int} : D.flip [] one other = D := by
  unfold HD.flip
  have : (D.T.map fun t => (Xz [] one other t.1, t.2)) = D.T := by
    conv => rhs; rw [← List.map_id D.T]
    refine List.map_congr_left fun t _ => ?_
    rw [Xl (by simp)]; rfl
  rw [this]
inductive Zsn (C : Addr) (xs : List V) (σ : AH) (Q : V → AH → Prop) : Prop
  | mk (x : Addr) (D : HD) (c : Addr) (nums : List Int) (one : Int) (other : Int) (h0 : xs = [.ref x, .ref c, .int one, .int other]) (h1 : Zu σ C x D) (h2 : Inc D.S) (h3 : σ c = some (.list (nums.map V.int))) (h4 : c ∉ D.T.map (·.2)) (h5 : nums.Nodup) (h6 : (∀ k ∈ nums, ∃ t ∈ D.T, t.1.n = k ∧ ∃ h, t.1.h = some h)) (h7 : ∀ σ', Zu σ' C x (D.flip nums one other) → (∀ y, y ∉ D.T.map (·.2) → σ' y = σ y) → Q .none σ') : Zsn C xs σ Q
noncomputable def Zs9 (C : Addr) : TF := fun xs σ Q _ => Zsn C xs σ Q
theorem Zl7 {D : HD} {nums : List Int} {one other : Int} (hi : Inc D.S) : Inc (D.flip nums one other).S := by rw [Zkj]; exact Zcx (fun _ => Zag) hi
end
section
open PySem PySem.W PyProof.Rows
noncomputable def Zar (l r : Int) (s : Bool) : Int := if s then r else l
noncomputable def Zvu (S : List Rw) (l r : Int) (m : Nat) (σ : AH) (t : Int × Int × Int × Addr) : Prop :=
  ∃ s c, t.1 = (c.length : Int) ∧ σ t.2.2.2 = some (.list (c.map fun x => V.int x.n)) ∧ t.2.1 ∈ Z0 S (!s) (Zar l r (!s)) m ∧ t.2.2.1 ∈ Z0 S s (Zar l r s) m ∧ Zbc S s (Zar l r s) t.2.2.1 t.2.1 c ∧ Zc2 S s (Zar l r s) t.2.2.1 t.2.1 c
theorem Zvu.sub {S : List Rw} {l r : Int} {m : Nat} {σ σ' : AH} {t : Int × Int × Int × Addr} (w : Zvu S l r m σ t) (h : ∀ o, σ t.2.2.2 = some o → σ' t.2.2.2 = some o) : Zvu S l r m σ' t := by
  obtain ⟨s, c, h1, h2, h3⟩ := w
  exact ⟨s, c, h1, h _ h2, h3⟩
noncomputable def Zn6 (es : List (Int × Int × Int × Addr)) (hue other : Int) : Prop := ∃ t ∈ es, t.2.1 = hue ∧ t.2.2.1 = other
theorem Zn6.more {es fs : List (Int × Int × Int × Addr)} {a b : Int} (h : Zn6 es a b) : Zn6 (es ++ fs) a b := let ⟨t, ht, q⟩ := h; ⟨t, List.mem_append_left _ ht, q⟩
inductive Zsm (C : Addr) (xs : List V) (σ : AH) (Q : V → AH → Prop) : Prop
  | mk (x : Addr) (D : HD) (l : Int) (r : Int) (m : Nat) (h0 : xs = [.ref x, .int l, .int r, .int (m : Nat)]) (h1 : Zu σ C x D) (h2 : Inc D.S) (h3 : D.T.length < 64) (h4 : Y4 D.S) (h5 : m ≤ 100) (h6 : (∀ h, h ∈ Z0 D.S false l m → h ∉ Z0 D.S true r m)) (h7 : ∀ σ' b es, Sub σ σ' → σ b = none → σ' b = some (.list (es.map Zkm)) → (∀ t ∈ es, Zvu D.S l r m σ' t ∧ σ t.2.2.2 = none) → (∀ one ∈ Z0 D.S false l m, ∀ two ∈ Z0 D.S true r m, Zn6 es one two ∧ Zn6 es two one) → Q (.ref b) σ') : Zsm C xs σ Q
noncomputable def Zs8 (C : Addr) : TF := fun xs σ Q _ => Zsm C xs σ Q
structure Zr9 (S : List Rw) (l r : Int) (m : Nat) (σ : AH) (b : Addr) (σ' : AH) (es : List (Int × Int × Int × Addr)) : Prop where
  fb : σ' b = some (.list (es.map Zkm))
  sub : Sub σ σ'
  way : ∀ t ∈ es, Zvu S l r m σ' t ∧ σ t.2.2.2 = none ∧ t.2.2.2 ≠ b
theorem Zr9.keep {S : List Rw} {l r : Int} {m : Nat} {σ σ' : AH} {b c : Addr} {o : AO} {es : List (Int × Int × Int × Addr)} (w : Zr9 S l r m σ b σ' es) (hc : σ' c = none) : Zr9 S l r m σ b (σ'.set c o) es :=
  ⟨Zl w.fb hc, w.sub.new hc, fun t ht => ⟨(w.way t ht).1.sub fun p e => Zl e hc, (w.way t ht).2⟩⟩
theorem Zr9.add {S : List Rw} {l r : Int} {m : Nat} {σ σ' : AH} {b c : Addr} {es : List (Int × Int × Int × Addr)} (hb : σ b = none) (w : Zr9 S l r m σ b σ' es) (hc : σ' c = none) (ch : List Rw) {s : Bool} {hue other : Int}
    (h1 : hue ∈ Z0 S (!s) (Zar l r (!s)) m) (h2 : other ∈ Z0 S s (Zar l r s) m) (hp : Zbc S s (Zar l r s) other hue ch) (hd : Zc2 S s (Zar l r s) other hue ch) :
    Zr9 S l r m σ b ((σ'.set c (.list (ch.map fun x => V.int x.n))).set b (.list ((es ++ [((ch.length : Int), hue, other, c)]).map Zkm))) (es ++ [((ch.length : Int), hue, other, c)]) := by
  have hcb : c ≠ b := fun z => by rw [z, w.fb] at hc; cases hc
  refine ⟨Zd, (w.sub.new hc).upd hb, fun t ht => ?_⟩
  rcases List.mem_append.1 ht with q | q
  · obtain ⟨w1, w2, w3⟩ := w.way t q
    exact ⟨w1.sub fun p e => by rw [Zf w3]; exact Zl e hc, w2, w3⟩
  · rw [List.mem_singleton.1 q]
    exact ⟨⟨s, ch, rfl, by rw [Zf hcb]; exact Zd, h1, h2, hp, hd⟩, w.sub.none hc, hcb⟩
end
section
open PySem PySem.W PyProof.Rows
theorem Zbc.tip {S : List Rw} {s : Bool} {e one other : Int} {l : List Rw} (P : Zbc S s e one other l) {i : Nat} {x : Rw} (h : l[i]? = some x) : x.e (Xx s i) = Zkk s e (l.take i) := by
  have hi : i < l.length := by
    rcases Nat.lt_or_ge i l.length with q | q
    · exact q
    · rw [List.getElem?_eq_none q] at h; cases h
  have hl : (l.take i).length = i := by rw [List.length_take]; exact Zu2 hi
  unfold Zkk
  cases i with
  | zero => simp only [List.take_zero, List.getLast?_nil]; exact P.fst x h
  | succ k =>
    obtain ⟨z, hz⟩ := Zk5 h
    have : (l.take (k + 1)).getLast? = some z := by
      rw [List.getLast?_eq_getElem?, hl, List.getElem?_take, if_pos (by exact Z0y hl)]; exact hz
    rw [this, hl]
    exact P.nxt k z x hz h
theorem Zbc.unique {S : List Rw} {s : Bool} {e one other : Int} {l l' : List Rw} (hp : Y4 S) (hi : Inc S) (P : Zbc S s e one other l) (D : Zc2 S s e one other l) (P' : Zbc S s e one other l') (D' : Zc2 S s e one other l') : l = l' := by
  have key : ∀ {l l' : List Rw}, Zbc S s e one other l → Zbc S s e one other l' → Zc2 S s e one other l' → ∀ i, l.take i = l'.take i → ∀ x, l[i]? = some x → l'[i]? = some x := by
    intro l l' P P' D' i ht x hx
    have h1 := P.tip hx
    have h2 := P.hue i x hx
    have hxS := P.mem x (List.mem_of_getElem? hx)
    cases hy : l'[i]? with
    | some y =>
      have h3 := P'.tip hy
      have h4 := P'.hue i y hy
      have := hp x hxS y (P'.mem y (List.mem_of_getElem? hy)) (Xx s i) (by rw [h1, h3, ht]) (by rw [h2, h4]) (by rw [h2]; simp)
      rw [hi.inj hxS (P'.mem y (List.mem_of_getElem? hy)) this]
    | none =>
      have hlen : l'.length ≤ i := List.getElem?_eq_none_iff.1 hy
      have hil : i < l.length := by
        rcases Nat.lt_or_ge i l.length with q | q
        · exact q
        · rw [List.getElem?_eq_none q] at hx; cases hx
      have hl2 : (l.take i).length = i := by rw [List.length_take]; exact Zu2 hil
      have htk : l'.take i = l' := List.take_of_length_le hlen
      have hle : l'.length = i := by rw [← htk, ← ht, hl2]
      refine absurd ?_ (D' x hxS ?_)
      · rw [hle]; exact h2
      · rw [hle]; rw [ht, htk] at h1; exact h1
  have main : ∀ i, l.take i = l'.take i := by
    intro i
    induction i with
    | zero => rfl
    | succ i ih =>
      rw [List.take_add_one, List.take_add_one, ih]
      congr 2
      cases hx : l[i]? with
      | some x => exact (key P P' D' i ih x hx).symm
      | none =>
        cases hy : l'[i]? with
        | none => rfl
        | some y => rw [key P' P D i ih.symm y hy] at hx; cases hx
  have := main (l.length + l'.length)
  rwa [List.take_of_length_le (by exact Z0x), List.take_of_length_le (by exact Z0w)] at this
noncomputable def HD.renew (D : HD) (k : Int) (p : Addr) : HD := { D with T := D.T.map fun u => if u.1.n = k then (Wm k none u.1, p) else u }
theorem HD.renew_S {D : HD} {k : Int} {p : Addr} : (D.renew k p).S = D.S.map (Wm k none) := by
  unfold HD.renew HD.S
  simp only [List.map_map]
  refine List.map_congr_left fun u _ => ?_
  simp only [Function.comp_apply]
  split
  · rfl
  · rename_i q; rw [Y1 q]
theorem Zo5 {D : HD} {k : Int} {p : Addr} {t : Rw × Addr} (ht : t ∈ D.T) (hk : t.1.n = k) : (Wm k none t.1, p) ∈ (D.renew k p).T := List.mem_map.2 ⟨t, ht, by rw [if_pos hk]⟩
theorem Zm8 {D : HD} {k : Int} {p y : Addr} (h : y ∈ (D.renew k p).T.map (·.2)) : y = p ∨ y ∈ D.T.map (·.2) := by
  obtain ⟨u, hu, rfl⟩ := List.mem_map.1 h
  obtain ⟨v, hv, rfl⟩ := List.mem_map.1 hu
  split
  · exact .inl rfl
  · exact .inr (List.mem_map.2 ⟨v, hv, rfl⟩)
theorem Zu.renew {σ : AH} {C x : Addr} {D : HD} (H : Zu σ C x D) (hi : Inc D.S) {t : Rw × Addr} (ht : t ∈ D.T) {p : Addr} (hp : σ p = none) (ep : Nat) :
    Zu ((σ.set p (.list [.int t.1.l, .int t.1.r, .none])).set D.rd (.dictI (Zfb (D.T.map fun t => (t.1.n, V.ref t.2)) t.1.n (.ref p)) ep)) C x (D.renew t.1.n p) := by
  have H1 := H.sub (Sub.refl.new (o := .list [.int t.1.l, .int t.1.r, .none]) hp)
  obtain ⟨e1, er⟩ := H1.rows
  obtain ⟨e2, es⟩ := H1.sizes
  have er0 : σ D.rd ≠ none := by obtain ⟨_, q⟩ := H.rows; rw [q]; simp
  have ne : ∀ {y o}, (σ.set p (.list [.int t.1.l, .int t.1.r, .none])) y = some o → (∀ kvs ep, o ≠ .dictI kvs ep) → y ≠ D.rd := fun {y o} h1 h2 z => by rw [z, er] at h1; cases h1; exact h2 _ _ rfl
  have prd : p ≠ D.rd := fun z => er0 (by rw [← z]; exact hp)
  refine ⟨(Zf (ne H1.inst (by simp))).trans H1.inst, (Zf (ne H1.attrs (by simp))).trans H1.attrs, H.aRows, H.aSizes, H.aNext, H.names, H.few, ⟨ep, ?_⟩, fun u hu => ?_, ?_, ⟨e2, (Zf (ne es (by simp))).trans es⟩⟩
  · show (AH.set _ D.rd _) D.rd = _
    rw [Zd]
    congr 2
    unfold Zfb
    rw [if_pos (by rw [List.any_eq_true]; exact ⟨(t.1.n, .ref t.2), List.mem_map.2 ⟨t, ht, rfl⟩, by simp⟩)]
    unfold HD.renew
    simp only [List.map_map]
    refine List.map_congr_left fun u _ => ?_
    simp only [Function.comp_apply]
    by_cases q : u.1.n = t.1.n
    · rw [if_pos q, if_pos q]; simp [Wv]
    · rw [if_neg q, if_neg q]
  · obtain ⟨v, hv, rfl⟩ := List.mem_map.1 hu
    by_cases q : v.1.n = t.1.n
    · have := Zk6 hi hv ht q
      subst this
      rw [if_pos rfl]
      show (AH.set _ D.rd _) p = _
      rw [Zf prd, Zd]
      unfold Wm; rw [if_pos rfl]; rfl
    · rw [if_neg q]
      show (AH.set _ D.rd _) v.2 = _
      rw [Zf (ne (H1.row v hv) (by simp))]
      exact H1.row v hv
  · unfold HD.renew
    simp only [List.map_map]
    have hnd := H.nodup
    have hin : ∀ v ∈ D.T, v.2 ≠ p := fun v hv z => by have := H.row v hv; rw [z, hp] at this; cases this
    rw [List.Nodup, List.pairwise_map] at hnd ⊢
    have hi2 : D.T.Pairwise fun a b => a.1.n < b.1.n := by unfold Inc HD.S at hi; rw [List.pairwise_map] at hi; exact hi
    refine (hnd.and hi2).imp_of_mem fun {a b} ha hb h => ?_
    simp only [Function.comp_apply]
    by_cases qa : a.1.n = t.1.n <;> by_cases qb : b.1.n = t.1.n
    · have := h.2; exact Z0v h qa qb
    · rw [if_pos qa, if_neg qb]; exact fun z => hin b hb z.symm
    · rw [if_neg qa, if_pos qb]; exact hin a ha
    · rw [if_neg qa, if_neg qb]; exact h.1
structure Frm (σ σ' : AH) (D D' : HD) : Prop where
  keep : ∀ y o, σ y = some o → ¬ D.foot y → σ' y = some o
  new : ∀ y, D'.foot y → D.foot y ∨ σ y = none
  sz : D'.a = D.a ∧ D'.b = D.b ∧ D'.nx = D.nx
  dom : ∀ y, σ' y = none → σ y = none
theorem Frm.trans {σ σ' σ'' : AH} {D D' D'' : HD} (x : Frm σ σ' D D') (y : Frm σ' σ'' D' D'') : Frm σ σ'' D D'' := by
  refine ⟨fun z o h1 h2 => y.keep z o (x.keep z o h1 h2) fun q => ?_, fun z q => ?_, ⟨y.sz.1.trans x.sz.1, y.sz.2.1.trans x.sz.2.1, y.sz.2.2.trans x.sz.2.2⟩, fun z q => x.dom z (y.dom z q)⟩
  · rcases x.new z q with w | w
    · exact h2 w
    · rw [w] at h1; cases h1
  · rcases y.new z q with w | w
    · exact x.new z w
    · exact .inr (x.dom z w)
theorem Frm.setNew {σ σ' : AH} {D D' : HD} (x : Frm σ σ' D D') {b : Addr} {o : AO} (hb : σ b = none) : Frm σ (σ'.set b o) D D' :=
  ⟨fun y p h1 h2 => by rw [Zf fun z => by rw [z, hb] at h1; cases h1]; exact x.keep y p h1 h2, x.new, x.sz, fun y q => by
    by_cases z : y = b
    · rw [z]; exact hb
    · rw [Zf z] at q; exact x.dom y q⟩
theorem Zgk {σ σ' : AH} {b : Addr} {o : AO} (s : Sub σ σ') (h : σ' b = some o) : Sub (σ.set b o) σ' := fun y p q => by
  unfold AH.set at q
  split at q
  · rename_i z; rw [z, h]; exact q
  · exact s y p q
theorem Zu.setList {σ : AH} {C x : Addr} {D : HD} (H : Zu σ C x D) {b : Addr} {l l' : List V} (hb : σ b = some (.list l)) (hn : b ∉ D.T.map (·.2)) : Zu (σ.set b (.list l')) C x D := by
  obtain ⟨ep, er⟩ := H.rows
  obtain ⟨eq, es⟩ := H.sizes
  have ne : ∀ {y o}, σ y = some o → (∀ l, o ≠ .list l) → y ≠ b := fun {y o} h1 h2 z => by rw [z, hb] at h1; cases h1; exact h2 _ rfl
  exact ⟨(Zf (ne H.inst (by simp))).trans H.inst, (Zf (ne H.attrs (by simp))).trans H.attrs, H.aRows, H.aSizes, H.aNext, H.names, H.few, ⟨ep, (Zf (ne er (by simp))).trans er⟩,
    fun t ht => (Zf fun z => hn (List.mem_map.2 ⟨t, ht, z⟩)).trans (H.row t ht), H.nodup, ⟨eq, (Zf (ne es (by simp))).trans es⟩⟩
inductive Zbf (S0 : List Rw) (k l r : Int) (m : Nat) (hue : Int) (other : Option Int) (nums : List Int) (S' : List Rw) : Prop
  | inl (h1 : other = none) (h2 : nums = []) (h3 : hue ∈ Z0 S0 false l m) (h4 : hue ∈ Z0 S0 true r m) (h5 : S' = Ze8 S0 k hue) : Zbf S0 k l r m hue other nums S'
  | inr (h0 : ∀ h ∈ Z0 S0 false l m, h ∉ Z0 S0 true r m) (o : Int) (s : Bool) (ch : List Rw) (h1 : other = some o) (h2 : nums = ch.map Rw.n) (h3 : hue ∈ Z0 S0 (!s) (Zar l r (!s)) m) (h4 : o ∈ Z0 S0 s (Zar l r s) m) (h5 : Zbc S0 s (Zar l r s) o hue ch) (h6 : Zc2 S0 s (Zar l r s) o hue ch) (h7 : S' = Zc0 S0 k hue o nums)
    (h8 : ∀ s' hue' o' ch', hue' ∈ Z0 S0 (!s') (Zar l r (!s')) m → o' ∈ Z0 S0 s' (Zar l r s') m → Zbc S0 s' (Zar l r s') o' hue' ch' → Zc2 S0 s' (Zar l r s') o' hue' ch' → ch.length ≤ ch'.length) : Zbf S0 k l r m hue other nums S'
theorem Zgu {S0 : List Rw} {l r : Int} {m : Nat} (hd : ∀ h ∈ Z0 S0 false l m, h ∉ Z0 S0 true r m) {s : Bool} {hue o : Int} (h1 : hue ∈ Z0 S0 (!s) (Zar l r (!s)) m) (h2 : o ∈ Z0 S0 s (Zar l r s) m) : o ≠ hue := fun z => by
  subst z
  cases s with
  | false => exact hd _ h2 h1
  | true => exact hd _ h1 h2
theorem Zbf.hued {S0 S' : List Rw} {k l r : Int} {m : Nat} {hue : Int} {other : Option Int} {nums : List Int} (h : Zbf S0 k l r m hue other nums S') (hp : Y4 S0) (hi : Inc S0) {x : Rw} (hx : x ∈ S0) (hk : x.n = k) (hn : x.h = none) (hl : x.l = l) (hr : x.r = r) : Zv2 S0 S' k m := by
  rcases h with ⟨_, _, h1, h2, rfl⟩ | ⟨hd, o, s, ch, _, rfl, h1, h2, hP, hD, rfl, _⟩
  · have m1 := Wg.1 h1
    have m2 := Wg.1 h2
    refine Zp6 hp hi hx hk (fun t => ?_) m1.1
    cases t with
    | false => show Zas S0 false x.l hue; rw [hl]; exact m1.2
    | true => show Zas S0 true x.r hue; rw [hr]; exact m2.2
  · have m1 := Wg.1 h1
    have m2 := Wg.1 h2
    have he : ∀ t, x.e t = Zar l r t := fun t => by cases t <;> simp [Rw.e, Zar, hl, hr]
    refine Way.hued (m := m) ⟨⟨s, x, hx, hk, hn, by rw [he]; exact hP, by rw [he]; exact hD, by rw [he]; exact m2.2, by rw [he]; exact m1.2⟩, Zgu hd h1 h2, m1.1, m2.1⟩ hp hi
noncomputable def Ztg : Option Int → V
  | none => .none
  | some o => .int o
noncomputable def Zmx (k hue : Int) (other : Option Int) (c : Addr) : V := .tup [.int k, .int hue, Ztg other, .ref c]
inductive Zsr (C : Addr) (xs : List V) (σ : AH) (Q : V → AH → Prop) : Prop
  | mk (x : Addr) (D : HD) (t : Rw × Addr) (m : Nat) (h0 : xs = [.ref x, .int t.1.n, .int t.1.l, .int t.1.r, .int (m : Nat)]) (h1 : t ∈ D.T) (h2 : Zu σ C x D) (h3 : Inc D.S) (h4 : D.T.length < 64) (h5 : m ≤ 100) (h6 : Y4 (D.S.map (Wm t.1.n none))) (h7 : deg D.S false t.1.l ≤ m) (h8 : deg D.S true t.1.r ≤ m) (h9 : ∀ σ' D' hue other nums c, Zu σ' C x D' → Frm σ σ' D D' → Zbf (D.S.map (Wm t.1.n none)) t.1.n t.1.l t.1.r m hue other nums D'.S → σ c = none → ¬ D'.foot c → σ' c = some (.list (nums.map V.int)) → Q (Zmx t.1.n hue other c) σ') : Zsr C xs σ Q
noncomputable def Zq6 (C : Addr) : TF := fun xs σ Q _ => Zsr C xs σ Q
theorem Za1 {σ : AH} {a : Addr} {xs : List V} {k : Int} {x : V} {Q : V → Prop} (h : σ a = some (.list xs)) (e : atV xs k = some x) (q : Q x) : Zbb (.ref a) (.int k) σ Q := by
  simp only [Zbb, h, e]; exact q
theorem Xp {σ : AH} {xs : List V} {k : Int} {x : V} {Q : V → Prop} (e : atV xs k = some x) (q : Q x) : Zbb (.tup xs) (.int k) σ Q := by
  simp only [Zbb, e]; exact q
theorem Zg2 {σ : AH} {a : Addr} {kvs : List (Int × V)} {ep : Nat} {k : Int} {x : V} {Q : V → Prop} (h : σ a = some (.dictI kvs ep)) (e : kvs.lookup k = some x) (q : Q x) : Zbb (.ref a) (.int k) σ Q := by
  simp only [Zbb, h, e]; exact q
end
section
open PySem PySem.W PyProof.Rows
section
variable {g : Gr} {sc csc : Scope} {r : Nat} {c : Bool} {K : Frag}
noncomputable def Zuk (op op' : CmpOp) (t₁ t₂ t₃ : TE) : TE := fun ℓ σ Q E => t₁ ℓ σ (fun a σ₁ => t₂ ℓ σ₁ (fun b σ₂ => Wy op a b σ₂ fun r => match r with | true => t₃ ℓ σ₂ (fun d σ₃ => Wy op' b d σ₃ fun q => Q (.bool q) σ₃) E | false => Q (.bool false) σ₂) E) E
theorem Zol {op op' : CmpOp} {e₁ e₂ e₃ : Expr} {t₁ t₂ t₃ : TE} {pos : Pos} (h1 : Xy g sc r c e₁ t₁) (h2 : Xy g sc r c e₂ t₂) (h3 : Xy g sc r c e₃ t₃) (hm : lastMarks [op, op'] [e₂, e₃] = false) :
    Xy g sc r c (.Compare e₁ [op, op'] [e₂, e₃] pos) (Zuk op op' t₁ t₂ t₃) := .mk fun A env s ℓ σ Q E X h => by
  refine Compare_chain (wpAny_mono (h1.run A env s ℓ σ _ E X h) (fun u s₁ p => ?_) fun _ _ p => p) hm
  refine Za3.elim p fun a σ₁ hu hR hx hs hq => ?_
  have X₁ := X.step hR hx
  refine chain_link (wpAny_mono (h2.run A env s₁ ℓ σ₁ _ E X₁ hq) (fun v s₂ p => ?_) fun _ _ p => p.back hx hs)
  refine Za3.elim p fun b σ₂ hv hR2 hx2 hs2 hq2 => ?_
  have X₂ := X₁.step hR2 hx2
  refine wpAny_mono (Zh8 (E := fun _ _ => False) X₂ (hx2.vr hR Xo hu) hv hq2) (fun w s₃ p => ?_) fun _ _ p => p.elim
  obtain ⟨bb, tk, rfl, rfl, hq3⟩ := p
  have hs' : Zbo s { s₂ with toks := tk } := hs.trans (hs2.trans ⟨rfl, rfl, rfl⟩)
  refine wpAny_truthy_bool ?_
  cases bb with
  | false => exact ⟨.bool false, σ₂, Wo.mpr rfl, hR2, hx.trans hx2, hs', hq3⟩
  | true =>
    refine chain_last (wpAny_mono (h3.run A env { s₂ with toks := tk } ℓ σ₂ _ E X₂ hq3) (fun y s₄ p => ?_) fun _ _ p => p.back (hx.trans hx2) hs')
    refine Za3.elim p fun d σ₃ hy hR3 hx3 hs3 hq4 => ?_
    refine wpAny_mono (Zh8 (E := fun _ _ => False) (X₂.step hR3 hx3) (hx3.vr hR2 Xo hv) hy hq4) (fun w s₅ p => ?_) fun _ _ p => p.elim
    obtain ⟨bb, tk', rfl, rfl, hq5⟩ := p
    exact ⟨.bool bb, σ₃, Wo.mpr rfl, hR3, (hx.trans hx2).trans hx3, hs'.trans (hs3.trans ⟨rfl, rfl, rfl⟩), hq5⟩
end
theorem Zu.dNe {σ : AH} {C x : Addr} {D : HD} (H : Zu σ C x D) : x ≠ D.d ∧ D.rd ≠ D.d ∧ D.sd ≠ D.d ∧ ∀ t ∈ D.T, t.2 ≠ D.d := by
  obtain ⟨ep, er⟩ := H.rows
  obtain ⟨eq, es⟩ := H.sizes
  have ha := H.attrs
  refine ⟨fun z => ?_, fun z => ?_, fun z => ?_, fun t ht z => ?_⟩
  · have := H.inst; rw [z, ha] at this; cases this
  · rw [z, ha] at er; cases er
  · rw [z, ha] at es; cases es
  · have := H.row t ht; rw [z, ha] at this; cases this
theorem Zu.rdNe {σ : AH} {C x : Addr} {D : HD} (H : Zu σ C x D) : x ≠ D.rd ∧ D.d ≠ D.rd ∧ D.sd ≠ D.rd ∧ ∀ t ∈ D.T, t.2 ≠ D.rd := by
  obtain ⟨ep, er⟩ := H.rows
  obtain ⟨eq, es⟩ := H.sizes
  refine ⟨fun z => ?_, fun z => ?_, fun z => ?_, fun t ht z => ?_⟩
  · have := H.inst; rw [z, er] at this; cases this
  · have := H.attrs; rw [z, er] at this; cases this
  · rw [z, er] at es; cases es
  · have := H.row t ht; rw [z, er] at this; cases this
theorem Zgy {kvs : List (Str × V)} {a b : Str} {v : V} (h : (b == a) = false) : ((a, v) :: kvs).lookup b = kvs.lookup b := by
  rw [List.lookup_cons, h]
theorem Zu.setNext {σ : AH} {C x : Addr} {D : HD} (H : Zu σ C x D) (h0 : 0 ≤ D.nx) :
    Zu (σ.set D.d (.attrs ((Str.ofString "next_number", .int (D.nx + 1)) :: D.kvs))) C x { D with nx := D.nx + 1, kvs := (Str.ofString "next_number", .int (D.nx + 1)) :: D.kvs } := by
  obtain ⟨n1, n2, n3, n4⟩ := H.dNe
  obtain ⟨ep, er⟩ := H.rows
  obtain ⟨eq, es⟩ := H.sizes
  refine ⟨(Zf n1).trans H.inst, Zd, ?_, ?_, ?_, fun p hp => ?_, ?_, ⟨ep, (Zf n2).trans er⟩, fun t ht => (Zf (n4 t ht)).trans (H.row t ht), H.nodup, ⟨eq, (Zf n3).trans es⟩⟩
  · show List.lookup _ (_ :: _) = _
    rw [Zgy (by decide +kernel)]; exact H.aRows
  · show List.lookup _ (_ :: _) = _
    rw [Zgy (by decide +kernel)]; exact H.aSizes
  · show List.lookup _ (_ :: _) = _
    rw [List.lookup_cons]; simp
  · rcases List.mem_cons.1 hp with rfl | q
    · exact .inr (.inr rfl)
    · exact H.names p q
  · have := H.few
    show ((Str.ofString "next_number", V.int (D.nx + 1)) :: D.kvs).length ≤ 3 + (D.nx + 1).toNat
    rw [List.length_cons]; exact Z0u h0 this
noncomputable def HD.add (D : HD) (w : Rw) (p : Addr) : HD := { D with T := D.T ++ [(w, p)] }
theorem HD.add_S {D : HD} {w : Rw} {p : Addr} : (D.add w p).S = D.S ++ [w] := by simp [HD.add, HD.S]
theorem Zu.addRow {σ : AH} {C x : Addr} {D : HD} (H : Zu σ C x D) {w : Rw} (hw : ∀ t ∈ D.T, t.1.n ≠ w.n) {p : Addr} (hp : σ p = none) (ep : Nat) :
    Zu ((σ.set p (.list (Zht w))).set D.rd (.dictI (Zfb (D.T.map fun t => (t.1.n, V.ref t.2)) w.n (.ref p)) ep)) C x (D.add w p) := by
  have H1 := H.sub (Sub.refl.new (o := .list (Zht w)) hp)
  obtain ⟨n1, n2, n3, n4⟩ := H1.rdNe
  obtain ⟨e2, es⟩ := H1.sizes
  have prd : p ≠ D.rd := fun z => by obtain ⟨_, q⟩ := H.rows; rw [← z, hp] at q; cases q
  refine ⟨(Zf n1).trans H1.inst, (Zf n2).trans H1.attrs, H.aRows, H.aSizes, H.aNext, H.names, H.few, ⟨ep, ?_⟩, fun u hu => ?_, ?_, ⟨e2, (Zf n3).trans es⟩⟩
  · show (AH.set _ D.rd _) D.rd = _
    rw [Zd]
    unfold Zfb
    rw [if_neg ?_]
    · simp [HD.add]
    · rw [List.any_eq_true]
      rintro ⟨q, hq, z⟩
      obtain ⟨t, ht, rfl⟩ := List.mem_map.1 hq
      exact hw t ht (by simpa using z)
  · show (AH.set _ D.rd _) u.2 = _
    rcases List.mem_append.1 hu with q | q
    · rw [Zf (n4 u q)]; exact H1.row u q
    · rw [List.mem_singleton.1 q, Zf prd, Zd]
  · show ((D.T ++ [(w, p)]).map (·.2)).Nodup
    rw [List.map_append, List.nodup_append]
    refine ⟨H.nodup, by simp, fun a ha b hb z => ?_⟩
    simp at hb; subst hb
    obtain ⟨t, ht, rfl⟩ := List.mem_map.1 ha
    have := H.row t ht; rw [z, hp] at this; cases this
noncomputable def HD.drop (D : HD) (k : Int) : HD := { D with T := D.T.filter fun t => t.1.n != k }
theorem HD.drop_S {D : HD} {k : Int} : (D.drop k).S = drp k D.S := by
  unfold HD.drop HD.S drp
  rw [List.filter_map]; rfl
theorem Zu.dropRow {σ : AH} {C x : Addr} {D : HD} (H : Zu σ C x D) (k : Int) (ep : Nat) :
    Zu (σ.set D.rd (.dictI ((D.T.map fun t => (t.1.n, V.ref t.2)).filter fun kv => decide (kv.1 ≠ k)) ep)) C x (D.drop k) := by
  obtain ⟨n1, n2, n3, n4⟩ := H.rdNe
  obtain ⟨e2, es⟩ := H.sizes
  refine ⟨(Zf n1).trans H.inst, (Zf n2).trans H.attrs, H.aRows, H.aSizes, H.aNext, H.names, H.few, ⟨ep, ?_⟩, fun u hu => ?_, ?_, ⟨e2, (Zf n3).trans es⟩⟩
  · show (AH.set _ D.rd _) D.rd = _
    rw [Zd]
    unfold HD.drop
    rw [List.filter_map]
    congr 4
    funext t
    simp only [Function.comp_apply]
    rw [Bool.eq_iff_iff]; simp
  · have hu' := (List.mem_filter.1 hu).1
    show (AH.set _ D.rd _) u.2 = _
    rw [Zf (n4 u hu')]; exact H.row u hu'
  · exact H.nodup.sublist (List.Sublist.map _ List.filter_sublist)
theorem Zi5 {S : List Rw} {s : Bool} {e : Int} : deg S s e ≤ S.length := List.length_filter_le _ _
theorem Zac {S : List Rw} {a b : Int} {m : Nat} (h : W7 S a b m) : m ≤ S.length := by
  rcases h.got with q | ⟨s, e, _, _, q⟩
  · exact Zrg q
  · have := Zi5 (S := S) (s := s) (e := e); exact Zu6 q this
inductive Zkg (C : Addr) (xs : List V) (σ : AH) (Q : V → AH → Prop) : Prop
  | mk (x : Addr) (D : HD) (s : Bool) (e : Int) (h0 : xs = [.ref x, .str (Zb8 s), .int e]) (h1 : Zu σ C x D) (h2 : 0 ≤ e) (h3 : e < Zb3 D.a D.b s) (h4 : Q .none σ) : Zkg C xs σ Q
noncomputable def Zgd (C : Addr) : TF := fun xs σ Q _ => Zkg C xs σ Q
inductive Zsq (C : Addr) (xs : List V) (σ : AH) (Q : V → AH → Prop) : Prop
  | mk (x : Addr) (d : Addr) (a : Int) (b : Int) (h0 : xs = [.ref x, .int a, .int b]) (h1 : 1 ≤ a) (h2 : a ≤ 8) (h3 : 1 ≤ b) (h4 : b ≤ 8) (h5 : σ x = some (.inst C d)) (h6 : σ d = some (.attrs [])) (h7 : ∀ σ' D, Zu σ' C x D → D.T = [] → D.a = a → D.b = b → D.nx = 0 → D.d = d → σ D.rd = none → (∀ y o, σ y = some o → y ≠ d → σ' y = some o) → Q .none σ') : Zsq C xs σ Q
noncomputable def Zta (C : Addr) : TF := fun xs σ Q _ => Zsq C xs σ Q
structure Zgh (D : HD) (m : Nat) : Prop where
  good : Zlj D.S D.a D.b m
  a8 : 1 ≤ D.a ∧ D.a ≤ 8
  b8 : 1 ≤ D.b ∧ D.b ≤ 8
  nx : 0 ≤ D.nx ∧ D.nx ≤ 1000
  below : ∀ x ∈ D.S, x.n < D.nx
inductive Zsu (C : Addr) (xs : List V) (σ : AH) (Q : V → AH → Prop) : Prop
  | mk (x : Addr) (D : HD) (l : Int) (r : Int) (m : Nat) (h0 : xs = [.ref x, .int l, .int r]) (h1 : Zu σ C x D) (h2 : Zgh D m) (h3 : D.nx < 1000) (h4 : D.T.length < 40) (h5 : (0 ≤ l ∧ l < D.a)) (h6 : (0 ≤ r ∧ r < D.b)) (h7 : ∀ σ' D' m' hue other nums c, Zu σ' C x D' → Zgh D' m' → D'.nx = D.nx + 1 → D'.a = D.a → D'.b = D.b → (∀ y o, σ y = some o → ¬ D.foot y → σ' y = some o) → (∀ y, D'.foot y → D.foot y ∨ σ y = none) → (∀ y, σ' y = none → σ y = none) → D'.S.map sk = D.S.map sk ++ [(D.nx, l, r)] → Zbf (D.S ++ [⟨D.nx, l, r, none⟩]) D.nx l r m' hue other nums D'.S → σ c = none → ¬ D'.foot c → σ' c = some (.list (nums.map V.int)) → Q (Zmx D.nx hue other c) σ') : Zsu C xs σ Q
noncomputable def Ztd (C : Addr) : TF := fun xs σ Q _ => Zsu C xs σ Q
inductive Zid (C : Addr) (xs : List V) (σ : AH) (Q : V → AH → Prop) : Prop
  | mk (x : Addr) (D : HD) (t : Rw × Addr) (h0 : xs = [.ref x, .int t.1.n]) (h1 : t ∈ D.T) (h2 : Zu σ C x D) (h3 : Q .none σ) : Zid C xs σ Q
noncomputable def Zes (C : Addr) : TF := fun xs σ Q _ => Zid C xs σ Q
structure Zdo where
  k : Int
  hue : Int
  other : Option Int
  nums : List Int
  c : Addr
noncomputable def Zdo.v (e : Zdo) : V := Zmx e.k e.hue e.other e.c
inductive Zlk (m : Nat) : List Rw → List Zdo → List Rw → Prop
  | nil {S : List Rw} : Zlk m S [] S
  | snoc {S S1 S2 : List Rw} {log : List Zdo} {e : Zdo} {t : Rw} : Zlk m S log S1 → t ∈ S1 → t.n = e.k → t.h = some (m : Int) → Zbf (S1.map (Wm e.k none)) e.k t.l t.r m e.hue e.other e.nums S2 → Zlk m S (log ++ [e]) S2
noncomputable def Zix (t : Rw × Addr) : V := .tup [.int t.1.n, .int t.1.l, .int t.1.r, Zjb t.1.h]
inductive Zqb (C : Addr) (xs : List V) (σ : AH) (Q : V → AH → Prop) : Prop
  | mk (x : Addr) (D : HD) (h0 : xs = [.ref x]) (h1 : Zu σ C x D) (h2 : Inc D.S) (h3 : D.T.length < 64) (h4 : ∀ b, σ b = none → Q (.ref b) (σ.set b (.list (D.T.map Zix)))) : Zqb C xs σ Q
noncomputable def Zop (C : Addr) : TF := fun xs σ Q _ => Zqb C xs σ Q
inductive Zqg (C : Addr) (xs : List V) (σ : AH) (Q : V → AH → Prop) : Prop
  | mk (x : Addr) (D : HD) (m : Nat) (h : Int) (h0 : xs = [.ref x, .int h]) (h1 : Zu σ C x D) (h2 : Zgh D m) (h3 : D.T.length < 64) (h4 : Q (.bool (decide (0 ≤ h ∧ h < m))) σ) : Zqg C xs σ Q
noncomputable def Zow (C : Addr) : TF := fun xs σ Q _ => Zqg C xs σ Q
inductive Zqc (C : Addr) (xs : List V) (σ : AH) (Q : V → AH → Prop) : Prop
  | mk (x : Addr) (D : HD) (m : Nat) (h : Int) (h0 : xs = [.ref x, .int h]) (h1 : Zu σ C x D) (h2 : Zgh D m) (h3 : D.T.length < 64) (h4 : 0 ≤ h) (h5 : h < m) (h6 : ∀ b, σ b = none → Q (.ref b) (σ.set b (.list ((Zfh D.S h).map fun x => V.int x.n)))) : Zqc C xs σ Q
noncomputable def Zos (C : Addr) : TF := fun xs σ Q _ => Zqc C xs σ Q
noncomputable def Zbi (S : List Rw) (s : Bool) (n : Int) (m : Nat) : List Int := (Zcl n.toNat).filter fun e => deg S s e == m
inductive Zkh (C : Addr) (xs : List V) (σ : AH) (Q : V → AH → Prop) : Prop
  | mk (x : Addr) (D : HD) (m : Nat) (h0 : xs = [.ref x]) (h1 : Zu σ C x D) (h2 : Zgh D m) (h3 : D.T.length < 64) (h4 : ∀ b c, σ b = none → σ c = none → b ≠ c → Q (.tup [.ref b, .ref c]) ((σ.set b (.list ((if m = 0 then [] else Zbi D.S false D.a m).map V.int))).set c (.list ((if m = 0 then [] else Zbi D.S true D.b m).map V.int)))) : Zkh C xs σ Q
noncomputable def Zis (C : Addr) : TF := fun xs σ Q _ => Zkh C xs σ Q
theorem Zul {S T : List Rw} (h : S.map sk = T.map sk) : S.map Rw.n = T.map Rw.n := by
  have : ∀ U : List Rw, U.map Rw.n = (U.map sk).map (·.1) := fun U => by rw [List.map_map]; rfl
  rw [this, this, h]
theorem Zgh.of_sk {D D' : HD} {m m' : Nat} (W : Zgh D m) (hg : Zlj D'.S D.a D.b m') (hs : D'.a = D.a ∧ D'.b = D.b ∧ D'.nx = D.nx) (hsk : ∀ n ∈ D'.S.map Rw.n, n ∈ D.S.map Rw.n) : Zgh D' m' :=
  ⟨by rw [hs.1, hs.2.1]; exact hg, by rw [hs.1]; exact W.a8, by rw [hs.2.1]; exact W.b8, by rw [hs.2.2]; exact W.nx, fun x hx => by
    obtain ⟨y, hy, e⟩ := List.mem_map.1 (hsk x.n (List.mem_map.2 ⟨x, hx, rfl⟩))
    rw [hs.2.2, ← e]; exact W.below y hy⟩
end
section
open PySem PySem.W PyProof.Rows
theorem Zp1 {σ : AH} {a b : Addr} {Q : Bool → Prop} (ha : σ a = some (.list [])) (hb : σ b = some (.list [])) (h : Q true) : eqD (.ref a) (.ref b) σ Q :=
  Zdy (ns := []) (ms := []) (by simpa using ha) (by simpa using hb) (by simpa using h)
inductive Zmp (xs : List V) (σ : AH) (Q : V → AH → Prop) : Prop
  | mk (ns : List Int) (k : Nat) (h0 : xs = [.frz (ns.map V.int), .int k]) (h1 : ∀ c, Q (.int c) σ) : Zmp xs σ Q
noncomputable def Zkt : TF := fun xs σ Q _ => Zmp xs σ Q
inductive Zqd (xs : List V) (σ : AH) (Q : V → AH → Prop) : Prop
  | mk (c : Int) (k : Int) (h0 : xs = [.int c, .int k]) (h1 : 0 ≤ k) (h2 : k ≤ 1000000) (h3 : ∀ n : Int, 0 ≤ n → Q (.int n) σ) : Zqd xs σ Q
noncomputable def Zot : TF := fun xs σ Q _ => Zqd xs σ Q
inductive Zkf (xs : List V) (σ : AH) (Q : V → AH → Prop) : Prop
  | mk (c : Int) (h0 : xs = [.int c]) (h1 : ∀ a b k : Int, 1 ≤ a → a ≤ 8 → 1 ≤ b → b ≤ 8 → Q (.tup [.int a, .int b, .int k]) σ) : Zkf xs σ Q
noncomputable def Zir : TF := fun xs σ Q _ => Zkf xs σ Q
noncomputable def goS : Str := Str.ofString "go"
noncomputable def Znv : Str := Str.ofString "come"
theorem Zi7 {xs : List V} {k : Int} (h0 : 0 ≤ k) (h1 : k < xs.length) : ∃ x, atV xs k = some x ∧ x ∈ xs := by
  have hk : k.toNat < xs.length := by exact Zu7 h0 h1
  exact ⟨xs[k.toNat], Z8 h0 (by simp [hk]), List.getElem_mem hk⟩
theorem Xw {t : TB} {a b : TS} {ℓ : Loc} {σ : AH} {Q : Fl → Loc → AH → Prop} {E : Addr → Loc → AH → Prop} (h : ∀ K : Bool → AH → Prop, (∀ σ', a ℓ σ' Q E → K true σ') → (∀ σ', b ℓ σ' Q E → K false σ') → t ℓ σ K fun C σ' => E C ℓ σ') : Zkl t a b ℓ σ Q E :=
  h _ (fun _ h => h) (fun _ h => h)
theorem Zpr : (goS == Znv) = false := by decide +kernel
theorem Zfq : PyData.strOk Znv = true := by decide +kernel
theorem Zvf : PyData.strOk goS = true := by decide +kernel
end
section
open PySem PySem.W PyProof.Rows
theorem Zaq {σ : AH} {i j : Int} {Q : Bool → Prop} (h : Q (i == j)) : eqD (.int i) (.int j) σ Q := by
  simp only [eqD]; exact h
end
section
open PySem PySem.W PyProof.Rows
theorem Wf {σ : AH} {C x : Addr} {D : HD} {b : Addr} (H : Zu σ C x D) (hb : σ b = none) : ¬ D.foot b := fun q => by
  rcases q with q | q | q
  · have := H.attrs; rw [← q, hb] at this; cases this
  · obtain ⟨_, this⟩ := H.rows; rw [← q, hb] at this; cases this
  · obtain ⟨u, hu, rfl⟩ := List.mem_map.1 q
    have := H.row u hu; rw [hb] at this; cases this
noncomputable def Zum : TF := fun xs σ Q _ => ∃ ns : List Int, xs = [.frz (ns.map V.int)] ∧ ns.length ≤ 63 ∧ ∀ σ', Q (.bool true) σ'
end
section
section
variable {K : Type} [BEq K] [LawfulBEq K] [DecidableEq K] {α : Type}
noncomputable def Zhg (ps : List (K × α)) (k : K) (v : α) : List (K × α) :=
  if ps.any (fun p => decide (p.1 = k)) then ps.map (fun p => if p.1 = k then (p.1, v) else p) else ps ++ [(k, v)]
theorem Zfi {ps : List (K × α)} {k k' : K} {v : α} (h : ∀ p ∈ ps, p.1 ≠ k) : (ps ++ [(k, v)]).lookup k' = if k' = k then some v else ps.lookup k' := by
  induction ps with
  | nil =>
    rw [List.nil_append, List.lookup_cons]
    by_cases z : k' = k
    · subst z; simp
    · have : (k' == k) = false := by simpa using z
      rw [this, if_neg z]
  | cons p ps ih =>
    rw [List.cons_append, List.lookup_cons, List.lookup_cons]
    by_cases z : k' = p.1
    · have : (k' == p.1) = true := by simpa using z
      rw [this, if_neg fun q => h p (.head _) (by rw [← z, q])]
    · have : (k' == p.1) = false := by simpa using z
      rw [this]; exact ih fun q hq => h q (.tail _ hq)
theorem Zhh {ps : List (K × α)} {k k' : K} {v : α} : (ps.map fun p => if p.1 = k then (p.1, v) else p).lookup k' = if k' = k then (ps.lookup k').map (fun _ => v) else ps.lookup k' := by
  induction ps with
  | nil => simp
  | cons p ps ih =>
    rw [List.map_cons, List.lookup_cons, List.lookup_cons]
    have e1 : (if p.1 = k then (p.1, v) else p).1 = p.1 := by split <;> rfl
    rw [e1]
    by_cases z : k' = p.1
    · have : (k' == p.1) = true := by simpa using z
      rw [this]
      by_cases w : p.1 = k
      · rw [if_pos w, if_pos (z.trans w)]; rfl
      · rw [if_neg w, if_neg fun q => w (by rw [← z, q])]
    · have : (k' == p.1) = false := by simpa using z
      rw [this]; exact ih
theorem Zew {ps : List (K × α)} {k : K} : (ps.lookup k).isSome = ps.any fun p => decide (p.1 = k) := by
  induction ps with
  | nil => rfl
  | cons p ps ih =>
    rw [List.lookup_cons, List.any_cons]
    by_cases z : k = p.1
    · subst z; simp
    · have : (k == p.1) = false := by simpa using z
      rw [this, ih]
      have : decide (p.1 = k) = false := by simpa using fun q : p.1 = k => z q.symm
      rw [this]; rfl
theorem Zd9 {ps : List (K × α)} {k k' : K} {v : α} : (Zhg ps k v).lookup k' = if k' = k then some v else ps.lookup k' := by
  unfold Zhg
  split
  · rename_i h
    rw [Zhh]
    split
    · rename_i z; subst z
      rw [← Zew] at h
      obtain ⟨w, hw⟩ := Option.isSome_iff_exists.1 h
      rw [hw]; rfl
    · rfl
  · rename_i h
    rw [Zfi]
    intro p hp q
    exact h (List.any_eq_true.2 ⟨p, hp, by simpa using q⟩)
theorem Zo7 {ps : List (K × α)} {k : K} {v : α} : (Zhg ps k v).map (·.1) = if k ∈ ps.map (·.1) then ps.map (·.1) else ps.map (·.1) ++ [k] := by
  unfold Zhg
  by_cases h : (ps.any fun p => decide (p.1 = k)) = true
  · rw [if_pos h]
    obtain ⟨p, hp, q⟩ := List.any_eq_true.1 h
    rw [if_pos (List.mem_map.2 ⟨p, hp, of_decide_eq_true q⟩), List.map_map]
    refine List.map_congr_left fun q _ => ?_
    simp only [Function.comp_apply]
    split <;> rfl
  · rw [if_neg h, if_neg fun q => ?_]
    · simp
    · obtain ⟨p, hp, rfl⟩ := List.mem_map.1 q
      exact h (List.any_eq_true.2 ⟨p, hp, by simp⟩)
theorem Znd {ps : List (K × α)} {k : K} {v : α} (h : (ps.map (·.1)).Nodup) : ((Zhg ps k v).map (·.1)).Nodup := by
  rw [Zo7]
  split
  · exact h
  · rename_i q
    rw [List.nodup_append]
    refine ⟨h, by simp, fun a ha b hb z => ?_⟩
    simp at hb; subst hb; subst z; exact q ha
theorem Zct {ps : List (K × α)} {k : K} {v : α} : (Zhg ps k v).length ≤ ps.length + 1 := by
  unfold Zhg
  split
  · rw [List.length_map]; exact Z0t
  · simp
theorem Zhx {ps : List (K × α)} (h : (ps.map (·.1)).Nodup) {p : K × α} (hp : p ∈ ps) : ps.lookup p.1 = some p.2 := by
  induction ps with
  | nil => cases hp
  | cons q ps ih =>
    rw [List.map_cons, List.nodup_cons] at h
    rw [List.lookup_cons]
    rcases List.mem_cons.1 hp with rfl | w
    · simp
    · have : (p.1 == q.1) = false := by
        have : p.1 ≠ q.1 := fun z => h.1 (by rw [← z]; exact List.mem_map.2 ⟨p, w, rfl⟩)
        simpa using this
      rw [this]; exact ih h.2 w
theorem Znm {ps : List (K × α)} {k : K} {v : α} (h : ps.lookup k = some v) : (k, v) ∈ ps := by
  induction ps with
  | nil => cases h
  | cons q ps ih =>
    rw [List.lookup_cons] at h
    by_cases z : k = q.1
    · have : (k == q.1) = true := by simpa using z
      rw [this] at h; cases h
      rw [z]; exact .head _
    · have : (k == q.1) = false := by simpa using z
      rw [this] at h; exact .tail _ (ih h)
theorem Zq9 {β : Type} {ps : List (K × α)} {k : K} {v : α} {f : α → β} : Zhg (ps.map fun p => (p.1, f p.2)) k (f v) = (Zhg ps k v).map fun p => (p.1, f p.2) := by
  unfold Zhg
  have e : ((ps.map fun p => (p.1, f p.2)).any fun p => decide (p.1 = k)) = ps.any fun p => decide (p.1 = k) := by rw [List.any_map]; rfl
  rw [e]
  split
  · rw [List.map_map, List.map_map]
    refine List.map_congr_left fun p _ => ?_
    simp only [Function.comp_apply]
    split <;> rfl
  · simp
end
noncomputable def Znw (ps : List (List Int × Int)) (k : List Int) : List (List Int × Int) := Zhg ps k ((ps.lookup k).getD 0 + 1)
noncomputable def Zb9 (ps : List (List Int × Int)) (ks : List (List Int)) : List (List Int × Int) := ks.foldl Znw ps
theorem Zh9 {ps : List (List Int × Int)} {ks : List (List Int)} {k : List Int} : Zb9 ps (ks ++ [k]) = Znw (Zb9 ps ks) k := by
  unfold Zb9; rw [List.foldl_append]; rfl
theorem Zld {ks : List (List Int)} : ((Zb9 [] ks).map (·.1)).Nodup := by
  have : ∀ ks ps, (List.map (·.1) ps).Nodup → ((Zb9 ps ks).map (·.1)).Nodup := by
    intro ks
    induction ks with
    | nil => intro ps h; exact h
    | cons k ks ih => intro ps h; exact ih _ (Znd h)
  exact this ks [] (by simp)
theorem Zf1 {ks : List (List Int)} : (Zb9 [] ks).length ≤ ks.length := by
  have : ∀ ks ps, (Zb9 ps ks).length ≤ ps.length + ks.length := by
    intro ks
    induction ks with
    | nil => intro ps; exact Nat.le_refl _
    | cons k ks ih =>
      intro ps
      have h1 := ih (Znw ps k)
      have h2 : (Znw ps k).length ≤ ps.length + 1 := Zct
      show (Zb9 (Znw ps k) ks).length ≤ _
      simp only [List.length_cons]; exact Z0s h1 h2
  have := this ks []
  simpa using this
theorem Zfx {ks : List (List Int)} (k : List Int) : (Zb9 [] ks).lookup k = if k ∈ ks then some (ks.count k : Int) else none := by
  have key : ∀ ks ps, (Zb9 ps ks).lookup k = if k ∈ ks then some ((ps.lookup k).getD 0 + (List.count k ks : Int)) else ps.lookup k := by
    intro ks
    induction ks with
    | nil => intro ps; simp [Zb9]
    | cons j ks ih =>
      intro ps
      show (Zb9 (Znw ps j) ks).lookup k = _
      rw [ih]
      unfold Znw
      rw [Zd9]
      by_cases z : k = j
      · subst z
        simp only [if_true, Option.getD_some, List.mem_cons, true_or, List.count_cons_self]
        split
        · congr 1; exact Z0r
        · rename_i q
          rw [List.count_eq_zero_of_not_mem q]; rfl
      · rw [if_neg z, List.count_cons_of_ne (Ne.symm z)]
        simp only [List.mem_cons, z, false_or]
  rw [key]; simp
noncomputable def sI (s : Bool) : Int := if s then 1 else 0
noncomputable def Zab (s : Bool) (e : Int) : List Int := [sI s, e]
theorem Zez {s t : Bool} {e f : Int} (h : Zab s e = Zab t f) : s = t ∧ e = f := by
  unfold Zab sI at h
  cases s <;> cases t <;> simp at h <;> simp [h]
noncomputable def Zaj (S : List Rw) : List (List Int) := S.flatMap fun x => [Zab false x.l, Zab true x.r]
theorem Zh6 (S : List Rw) (s : Bool) (e : Int) : (Zaj S).count (Zab s e) = deg S s e := by
  induction S with
  | nil => rfl
  | cons x S ih =>
    have e1 : Zaj (x :: S) = Zab false x.l :: Zab true x.r :: Zaj S := rfl
    have e2 : deg (x :: S) s e = (if x.e s = e then 1 else 0) + deg S s e := by
      unfold deg
      rw [List.filter_cons]
      by_cases z : x.e s = e
      · rw [if_pos (by simpa using z), if_pos z]; simp; exact Ztk
      · rw [if_neg (by simpa using z), if_neg z]; exact Z0q
    rw [e1, e2, List.count_cons, List.count_cons, ih]
    cases s with
    | false =>
      have h1 : (Zab true x.r == Zab false e) = false := by
        rw [beq_eq_false_iff_ne]; exact fun z => absurd (Zez z).1 (by decide)
      rw [h1]
      by_cases z : x.l = e
      · subst z; simp [Rw.e]; exact Ztk
      · have h2 : (Zab false x.l == Zab false e) = false := by rw [beq_eq_false_iff_ne]; exact fun w => z (Zez w).2
        rw [h2]; simp [Rw.e, z]
    | true =>
      have h1 : (Zab false x.l == Zab true e) = false := by
        rw [beq_eq_false_iff_ne]; exact fun z => absurd (Zez z).1 (by decide)
      rw [h1]
      by_cases z : x.r = e
      · subst z; simp [Rw.e]; exact Ztk
      · have h2 : (Zab true x.r == Zab true e) = false := by rw [beq_eq_false_iff_ne]; exact fun w => z (Zez w).2
        rw [h2]; simp [Rw.e, z]
theorem Zhy {S : List Rw} {k : List Int} : k ∈ Zaj S ↔ ∃ x ∈ S, ∃ s, k = Zab s (x.e s) := by
  unfold Zaj
  rw [List.mem_flatMap]
  constructor
  · rintro ⟨x, hx, hk⟩
    simp only [List.mem_cons, List.not_mem_nil, or_false] at hk
    rcases hk with rfl | rfl
    · exact ⟨x, hx, false, rfl⟩
    · exact ⟨x, hx, true, rfl⟩
  · rintro ⟨x, hx, s, rfl⟩
    refine ⟨x, hx, ?_⟩
    cases s <;> simp [Rw.e]
noncomputable def Zc4 (S : List Rw) : List (List Int × Int) := Zb9 [] (Zaj S)
theorem Zey (S : List Rw) : (Zaj S).length = 2 * S.length := by
  induction S with
  | nil => rfl
  | cons x S ih =>
    have e1 : Zaj (x :: S) = Zab false x.l :: Zab true x.r :: Zaj S := rfl
    rw [e1]; simp [ih]; exact Z0p
theorem Ziy (S : List Rw) : (Zc4 S).length ≤ 2 * S.length := by
  have := Zf1 (ks := Zaj S); rw [Zey] at this; exact this
theorem Znh {S : List Rw} {p : List Int × Int} (h : p ∈ Zc4 S) : ∃ x ∈ S, ∃ s, p = (Zab s (x.e s), (deg S s (x.e s) : Int)) := by
  have h1 := Zhx Zld h
  rw [Zfx] at h1
  split at h1
  · rename_i q
    obtain ⟨x, hx, s, hk⟩ := Zhy.1 q
    refine ⟨x, hx, s, ?_⟩
    rw [hk, Zh6] at h1
    rw [← hk, Option.some.inj h1]
  · cases h1
theorem Zni {S : List Rw} {x : Rw} (hx : x ∈ S) (s : Bool) : (Zc4 S).lookup (Zab s (x.e s)) = some (deg S s (x.e s) : Int) := by
  unfold Zc4
  rw [Zfx, if_pos (Zhy.2 ⟨x, hx, s, rfl⟩), Zh6]
theorem Zo9 {S : List Rw} {a b : Int} (hr : InR S a b) {m : Int} (h1 : m ∈ (0 : Int) :: (Zc4 S).map (·.2)) (h2 : ∀ n ∈ (0 : Int) :: (Zc4 S).map (·.2), n ≤ m) : ∃ k : Nat, m = k ∧ W7 S a b k := by
  have h0 := h2 0 (.head _)
  refine ⟨m.toNat, by exact Zv7 h0, fun s e p q => ?_, ?_⟩
  · by_cases z : ∃ x ∈ S, x.e s = e
    · obtain ⟨x, hx, rfl⟩ := z
      have := h2 _ (.tail _ (List.mem_map.2 ⟨_, Znm (Zni hx s), rfl⟩))
      simp only at this
      exact Zu4 h0 this
    · rw [Zmb fun x hx w => z ⟨x, hx, w⟩]; exact Z0o
  · rcases List.mem_cons.1 h1 with q | q
    · left; exact Zu3 q
    · obtain ⟨p, hp, rfl⟩ := List.mem_map.1 q
      obtain ⟨x, hx, s, rfl⟩ := Znh hp
      right
      refine ⟨s, x.e s, (hr x hx s).1, (hr x hx s).2, ?_⟩
      simp
noncomputable def hu (x : Rw) : Int := x.h.getD 0
end
section
open PySem PySem.W PyProof.Rows
noncomputable def Zmq (h : Heap) (d : Addr) (vs : List Value) (ep : Nat) : Prop := ∃ o es, h.get? d = some o ∧ o.ExactDict ∧ o.data = .dict es ep ∧ es.toList.map (·.val) = vs
section
variable {prog : Program} {w : World} {A : Around} {E : Value → Shared → Prop} {s : Shared} {d : Addr} {vs : List Value} {ep : Nat}
theorem Zmq.at' {h h' : Heap} (x : Zmq h d vs ep) (e : ∀ o, h.get? d = some o → h'.get? d = some o) : Zmq h' d vs ep := let ⟨o, es, ho, r⟩ := x; ⟨o, es, e _ ho, r⟩
theorem Zmq.typeIs (x : Zmq s.heap d vs ep) : s.TypeIs (.ref d) "dict" := let ⟨o, _, ho, hc, _⟩ := x; ⟨o, ho, hc.1⟩
theorem Zmq.lt {h : Heap} (x : Zmq h d vs ep) : d < h.objs.size := let ⟨_, _, ho, _⟩ := x; Heap.lt_size ho
theorem Zm9 (hd : (d == sysModules) = false) : MeetsIn prog w (Builtin.«dict.values» ⟨[.ref d], []⟩) (fun _ R s => (∃ vs ep, Zmq s.heap d vs ep) ∧
      R (.ok (.ret (.ref s.heap.objs.size))) { s with heap := s.heap.push { cls := .type "dict_values", data := .fields #[.ref d] } }) :=
  .of_wp fun A R s ⟨⟨vs, ep, hm⟩, h⟩ => by
    refine wpAny_bind ?_
    unfold Builtin.Dict.noArgs
    refine wpAny_bind (wpAny_notOrdered_dict hm.typeIs ?_)
    show wpAny _ _ (pure d) _ _ s
    refine wpAny_pure ?_
    show wpAny _ _ (Builtin.Dict.showsAll d >>= _) _ _ s
    unfold Builtin.Dict.showsAll
    rw [if_neg (by rw [hd]; exact Bool.false_ne_true)]
    refine wpAny_bind (wpAny_pure ?_)
    exact wpAny_bind (wpAny_newObj_type (wpAny_pure ⟨_, rfl, h⟩))
theorem Zq7 {v : Addr} {Q : Value → Shared → Prop} (hv : s.heap.IsValuesView v d) (hm : Zmq s.heap d vs ep)
    (hQ : Q (.ref s.heap.objs.size) { s with heap := s.heap.push { cls := .type "dict_valueiterator", data := .fields #[.ref d, .int 0 0, .int vs.length 0, .int ep 0] } }) :
    wpAny (model prog w) A (pyIter (.ref v)) Q E s := by
  obtain ⟨ov, hov, hcv, hdv⟩ := id hv
  obtain ⟨o, es, ho, hc, hdat, hp⟩ := id hm
  refine wpAny_pyIter_slot hv.typeIs F.slot_dict_values_iter (wpAny_call_entry F.slot_dict_values_iter hv.typeIs F.entry_dict_values_iter ?_ (F.args_dict_values_iter_1 _))
  unfold Builtin.«dict_values.__iter__»
  refine wpAny_bind (wpAny_pure ?_)
  refine wpAny_bind ?_
  unfold Builtin.Dict_items.dictOf
  refine wpAny_bind (wpAny_field hov hdv (x := .ref d) rfl (wpAny_pure ?_))
  refine wpAny_bind ?_
  unfold Builtin.Dict_items.newIterator
  refine wpAny_bind (wpAny_dictEntries ho hdat ?_)
  refine wpAny_bind (wpAny_dictEpoch ho hdat ?_)
  have hsz : es.size = vs.length := by rw [← hp]; simp
  have hown : Builtin.Dict_items.ownsTuple "dict_valueiterator" = false := by decide
  rw [hown]
  show wpAny _ _ (newFields "dict_valueiterator" [Value.ref d, rawInt 0, rawInt (es.size : Int), rawInt (ep : Int)]) _ _ _
  refine wpAny_newObj_type (wpAny_pure ⟨_, rfl, "dict_valueiterator", _, ⟨_, Heap.get?_push_size _ rfl, rfl⟩, F.slot_dict_valueiterator_next.lookup, ?_⟩)
  simpa [rawInt, hsz] using hQ
theorem Zq8 {it : Addr} {i : Nat} {v : Value} {Q : Option Value → Shared → Prop} (hit : s.heap.IsValIter it d i vs.length ep) (hm : Zmq s.heap d vs ep) (hx : vs[i]? = some v)
    (hQ : ∀ h', h'.IsValIter it d (i + 1) vs.length ep → Heap.SameBut it s.heap h' → Q (some v) { s with heap := h' }) : wpAny (model prog w) A (pyNext (.ref it)) Q E s := by
  obtain ⟨o, ho, hc, hd⟩ := id hit
  obtain ⟨od, es, hod, hcd, hdd, hp⟩ := id hm
  unfold pyNext
  refine wpAny_bind (wpAny_attempt (wpAny_callSpecial?_slot (name := Str.ofString "__next__") hit.typeIs F.slot_dict_valueiterator_next
    (wpAny_call_entry F.slot_dict_valueiterator_next hit.typeIs F.entry_dict_valueiterator_next ?_ (F.args_dict_valueiterator_next_1 _))))
  refine wpAny_bind (wpAny_pure ?_)
  refine wpAny_bind ?_
  refine wpAny_bind ?_
  first | refine wpAny_bind (wpAny_typeNameOfWhole_valiter hit.typeIs (wpAny_pure ?_)) | refine wpAny_bind (wpAny_typeNameOf_valiter hit.typeIs (wpAny_pure ?_))
  refine wpAny_bind (wpAny_fieldsOf ho hd ?_)
  have hown : Builtin.Dict_items.ownsTuple "dict_valueiterator" = false := by decide
  rw [hown, if_neg Bool.false_ne_true]
  show wpAny _ _ (if (Value.ref d == Value.none) = true then _ else _) _ _ s
  rw [if_neg (show ¬ ((Value.ref d == Value.none) = true) from Bool.false_ne_true)]
  refine wpAny_bind (wpAny_pure ?_)
  refine wpAny_bind (wpAny_dictEntries hod hdd ?_)
  have hsz : es.size = vs.length := by rw [← hp]; simp
  rw [if_neg (by rw [hsz]; simp)]
  refine wpAny_bind (wpAny_pure ?_)
  refine wpAny_bind (wpAny_dictEpoch hod hdd ?_)
  rw [if_neg (by simp)]
  refine wpAny_pure ?_
  have hlt : i < vs.length := by
    rcases Nat.lt_or_ge i vs.length with h | h
    · exact h
    · simp [List.getElem?_eq_none h] at hx
  have hlt' : i < es.size := by rw [hsz]; exact hlt
  have hval : es[i].val = v := by
    rw [← hp, List.getElem?_map, Array.getElem?_toList, Array.getElem?_eq_getElem hlt'] at hx
    simpa using hx
  simp only [show ¬ ((i : Int) < 0) from by exact Zwl, if_false, Int.toNat_natCast, Array.getElem?_eq_getElem hlt']
  refine wpAny_bind ?_
  first | refine wpAny_bind (wpAny_typeNameOfWhole_valiter hit.typeIs (wpAny_pure ?_)) | refine wpAny_bind (wpAny_typeNameOf_valiter hit.typeIs (wpAny_pure ?_))
  refine wpAny_bind (wpAny_isOneOf_valiter hit.typeIs ?_)
  show wpAny _ _ (setField (.ref it) 1 (rawInt ((i : Int) + 1)) >>= _) _ _ s
  refine wpAny_bind (wpAny_setField ho hd (by simp) ?_)
  have hit' : (s.heap.update it (Obj.mapFields (·.setIfInBounds 1 (rawInt ((i : Int) + 1))))).IsValIter it d (i + 1) vs.length ep :=
    ⟨_, Heap.get?_update_self _ ho (Obj.isFreed_of_fields (Obj.data_mapFields hd _)), (Obj.cls_mapFields ..).trans hc, by rw [Obj.data_mapFields hd]; simp [rawInt]⟩
  refine wpAny_bind (wpAny_holding ?_)
  refine wpAny_bind (wpAny_isOneOf_valiter (s := { s with heap := s.heap.update it (Obj.mapFields (·.setIfInBounds 1 (rawInt ((i : Int) + 1)))) }) hit'.typeIs ?_)
  refine wpAny_bind (wpAny_isOneOf_valiter (s := { s with heap := s.heap.update it (Obj.mapFields (·.setIfInBounds 1 (rawInt ((i : Int) + 1)))) }) hit'.typeIs ?_)
  show wpAny _ _ (pure es[i].val) _ _ _
  exact wpAny_pure (wpAny_pure ⟨_, rfl, wpAny_pure (hval ▸ hQ _ hit' (Heap.SameBut.update ..))⟩)
theorem Ztf {it : Addr} {i : Nat} {Q : Option Value → Shared → Prop} (hh : A.handled = none) (hit : s.heap.IsValIter it d i vs.length ep) (hm : Zmq s.heap d vs ep) (hx : vs[i]? = none)
    (hQ : ∀ h', Heap.ExtBut it s.heap h' → Q none { s with heap := h' }) : wpAny (model prog w) A (pyNext (.ref it)) Q E s := by
  obtain ⟨o, ho, hc, hd⟩ := id hit
  obtain ⟨od, es, hod, hcd, hdd, hp⟩ := id hm
  unfold pyNext
  refine wpAny_bind (wpAny_attempt (wpAny_callSpecial?_slot (name := Str.ofString "__next__") hit.typeIs F.slot_dict_valueiterator_next
    (wpAny_call_entry F.slot_dict_valueiterator_next hit.typeIs F.entry_dict_valueiterator_next ?_ (F.args_dict_valueiterator_next_1 _))))
  refine wpAny_bind (wpAny_pure ?_)
  refine wpAny_bind ?_
  refine wpAny_bind ?_
  first | refine wpAny_bind (wpAny_typeNameOfWhole_valiter hit.typeIs (wpAny_pure ?_)) | refine wpAny_bind (wpAny_typeNameOf_valiter hit.typeIs (wpAny_pure ?_))
  refine wpAny_bind (wpAny_fieldsOf ho hd ?_)
  have hown : Builtin.Dict_items.ownsTuple "dict_valueiterator" = false := by decide
  rw [hown, if_neg Bool.false_ne_true]
  show wpAny _ _ (if (Value.ref d == Value.none) = true then _ else _) _ _ s
  rw [if_neg (show ¬ ((Value.ref d == Value.none) = true) from Bool.false_ne_true)]
  refine wpAny_bind (wpAny_pure ?_)
  refine wpAny_bind (wpAny_dictEntries hod hdd ?_)
  have hsz : es.size = vs.length := by rw [← hp]; simp
  rw [if_neg (by rw [hsz]; simp)]
  refine wpAny_bind (wpAny_pure ?_)
  refine wpAny_bind (wpAny_dictEpoch hod hdd ?_)
  rw [if_neg (by simp)]
  refine wpAny_pure ?_
  have hge : es.size ≤ i := by rw [hsz]; simpa using hx
  simp only [show ¬ ((i : Int) < 0) from by exact Zwl, if_false, Int.toNat_natCast, Array.getElem?_eq_none hge]
  refine wpAny_bind ?_
  first | refine wpAny_bind (wpAny_typeNameOfWhole_valiter hit.typeIs (wpAny_pure ?_)) | refine wpAny_bind (wpAny_typeNameOf_valiter hit.typeIs (wpAny_pure ?_))
  show wpAny _ _ (setField (.ref it) 0 .none >>= _) _ _ s
  refine wpAny_bind (wpAny_setField ho hd (by simp) ?_)
  show wpAny _ _ (newExc (.type "StopIteration") [] >>= _) _ _ _
  refine wpAny_bind ?_
  simp only [newExc, newTuple]
  refine wpAny_bind (wpAny_newObj_type ?_ (by size_fits))
  refine wpAny_bind (m := firstArgMember _ _) (wpAny_of_eq (a := Value.none) (by first | rfl | (simp only [firstArgMember]; rfl)) ?_)
  refine wpAny_newObj_type ?_ (by size_fits)
  unfold raiseNew
  refine wpAny_bind (wpAny_handled ?_)
  rw [show A.in1.handled = none from hh]
  refine wpAny_bind (wpAny_pure (wpAny_throw ?_))
  refine wpAny_bind (wpAny_isInstance (T := "StopIteration") (b := true) ⟨_, Heap.get?_push_size _ rfl, rfl⟩ isSubtype_stop ?_)
  exact wpAny_pure (hQ _ (((Heap.SameBut.update ..).extBut.push _).push _))
theorem Zn9 (hh : A.handled = none) (I d : Addr) (hne : d ≠ I) (vs : List Value) (ep : Nat) :
    Walks prog w A I [I, d] [I] vs.length (fun i v => vs[i]? = some v) (fun i h => h.IsValIter I d i vs.length ep ∧ Zmq h d vs ep) where
  sub := fun b hb => by simp at hb; simp [hb]
  frame := fun _ _ _ st hk => ⟨st.1.at fun o e => hk I (by simp) o e, st.2.at' fun o e => hk d (by simp) o e⟩
  item := fun i s Q E hi st hQ => by
    refine Zq8 st.1 st.2 (v := vs[i]) (by simp [hi]) fun h' hit' hs' => ?_
    exact hQ _ h' s.toks (by simp [hi]) ⟨hit', st.2.at' fun o e => hs'.extBut _ _ hne e⟩ fun b o hb e => hs'.extBut b o (fun h => hb (by simp [h])) e
  done := fun s Q E st hQ => Ztf hh st.1 st.2 (by simp) fun h' he' => hQ h' s.toks fun b o hb e => he' b o (fun h => hb (by simp [h])) e
  self := fun _ _ _ _ st hQ => wpAny_pyIter_valiter st.1 hQ
theorem Zs4 {r : Addr} : KdlSrc prog w "dict_values" r d vs.length (fun i v => vs[i]? = some v) (fun h => h.IsValuesView r d ∧ Zmq h d vs ep) where
  type := fun _ hm => hm.1.typeIs
  there := fun _ hm => ⟨let ⟨_, ho, _⟩ := hm.1; Heap.lt_size ho, hm.2.lt⟩
  keep := fun _ _ hm hk => ⟨let ⟨o, ho, x⟩ := hm.1; ⟨o, hk r (.inl rfl) o ho, x⟩, hm.2.at' fun o e => hk d (.inr rfl) o e⟩
  notList := by decide
  notTuple := by decide
  hint := fun _ _ _ _ hm hq => kdl_hint_values hm.1.typeIs hq
  iter := fun _ _ hh hm => ⟨_, _, (fun _ _ hq => Zq7 hm.1 hm.2 hq), Zn9 hh _ d (Nat.ne_of_lt hm.2.lt) vs ep, ⟨⟨_, Heap.get?_push_size _ rfl, rfl, rfl⟩, hm.2.at' fun o e => Heap.get?_push_of_some _ e⟩⟩
end
end
section
open PySem PySem.W PyProof.Rows
variable {g : Gr} {sc csc : Scope} {r : Nat} {c : Bool} {K : Frag}
noncomputable def Zif (x : V) (σ : AH) : Option (List V) := match x with
  | .ref a => match σ a with
    | some (.dictI kvs _) => some (kvs.map (·.2))
    | some (.dictT kvs _) => some (kvs.map (·.2))
    | _ => none
  | _ => none
theorem Zfg {K' : Type} [DecidableEq K'] {prog : Program} {w : World} {knd : KeyKind prog w K'} : ∀ {es : List DictEntry} {kvs : List (K' × Value)}, Pairs knd es kvs → es.map (·.val) = kvs.map (·.2)
  | _, _, .nil => rfl
  | _, _, .cons _ hv h => by simp [hv, Zfg h]
theorem Zuq {h : Heap} {σ : AH} {x : V} {v : Value} {xs : List V} (G : GOk g) (R : Rel g h σ) (hv : VR g h x v) (e : Zif x σ = some xs) : ∃ a vs ep, v = .ref a ∧ Zmq h a vs ep ∧ VRs g h xs vs ∧ Xv xs.length ∧ (a == sysModules) = false := by
  cases x with
  | ref a =>
    simp only [Zif] at e
    split at e
    · rename_i kvs ep q
      cases e
      obtain ⟨hf, us, ⟨o, es, ho, hc, hd, _, hp, _⟩, hk, hvs⟩ := (R.own a _ q).2
      exact ⟨a, us.map (·.2), ep, Yi.mp hv, ⟨o, es, ho, hc, hd, Zfg hp⟩, hvs, by simpa using hf, Xk G R q⟩
    · rename_i kvs ep q
      cases e
      obtain ⟨hf, us, ⟨o, es, ho, hc, hd, he, _⟩, hk, hvs⟩ := (R.own a _ q).2
      exact ⟨a, us.map (·.2.2), ep, Yi.mp hv, ⟨o, es, ho, hc, hd, by rw [he, List.map_map]; rfl⟩, hvs, by simpa using hf, Xk G R q⟩
    · cases e
  | _ => cases e
noncomputable def Zgi (t : TE) : TE := fun ℓ σ Q E => t ℓ σ (fun x σ₁ => match Zif x σ₁ with | some xs => (∀ a, σ₁ a = none → Q (.ref a) (σ₁.set a (.list xs))) | none => False) E
theorem Zgn {e : Expr} {p apos pos pos' : Pos} {t : TE} (hm : (Str.ofString "list", NameKind.globalImplicit) ∈ sc.names) (hb : Wn g "list" (.type "list")) (h1 : Xy g sc r true e t) (hbase : ∀ env, attributeBase e (Str.ofString "values") env (eval e env) = eval e env) (hline : (apos.endLine == pos'.line) = true) :
    Xy g sc r true (.Call (.Name (Str.ofString "list") p) [.Call (.Attribute e (Str.ofString "values") apos) [] [] pos'] [] pos) (Zgi t) := .mk fun A env s ℓ σ Q E X h => by
  show wpAny _ A (do callWith pos (← eval (.Name (Str.ofString "list") p) env) [] (backTo pos (starEach [.Call (.Attribute e (Str.ofString "values") apos) [] [] pos'] env)) (backToKw pos (keywordEach [] env))) _ _ s
  refine wpAny_bind (X7 X hm hb ?_)
  rw [Xe (es := []) env rfl]
  refine X8 (.inr (.inr ⟨_, rfl⟩)) rfl ?_
  show wpAny _ A (spliced [(false, eval (.Call (.Attribute e (Str.ofString "values") apos) [] [] pos') env)]) _ _ s
  refine Calls.spliced_cons ?_
  refine wpAny_Call_method (hbase env) (Ze3 (args := []) rfl rfl) hline F.plainAttrs_dict F.slot_dict_values F.type_dict_values (wpAny_mono (h1.run A env s ℓ σ _ E X h) (fun v s₁ p => ?_) fun _ _ p => p)
  refine Za3.elim p fun x σ₁ hv hR hx hs1 hq => ?_
  split at hq
  · rename_i xs e
    obtain ⟨a, vs, ep, rfl, hraw, hvs, hf, hsys⟩ := Zuq X.gok hR hv e
    have hlen := Zz hvs
    refine ⟨hraw.typeIs, fun b q => ?_, ?_⟩
    · cases q; obtain ⟨o, es, ho, hc, _⟩ := hraw; exact ⟨o, ho, hc.2.1⟩
    refine X8 (g := g) (.inr (.inl ⟨_, rfl⟩)) (Wz (es := []) rfl pos' env) (Calls.spliced_nil ⟨fun a o e => hR.base a o e, ?_⟩)
    refine call_meetsIn F.slot_dict_values hraw.typeIs F.entry_dict_values (F.args_dict_values_1 _) (Zm9 hsys) ⟨⟨vs, ep, hraw⟩, ?_⟩
    have kp := Xg s₁.heap { cls := .type "dict_values", data := .fields #[.ref a] }
    have hR' := hR.keeps kp
    refine Calls.spliced_nil ⟨fun a o e => hR'.base a o e, ?_⟩
    refine kdl_call (s := { s₁ with heap := s₁.heap.push { cls := .type "dict_values", data := .fields #[.ref a] } }) (Zs4 (vs := vs) (ep := ep)) (X.room.calm rfl) ⟨⟨_, Heap.get?_push_size _ rfl, rfl, rfl⟩, hraw.at' fun o e => kp _ _ e⟩ (by rw [← hlen]; exact hf.line) fun h' tk acc c' hk ho hacc => ?_
    have x1 : Ext No s.heap σ (s₁.heap.push { cls := .type "dict_values", data := .fields #[.ref a] }) σ₁ := hx.trans (.keeps kp)
    refine Za3.back (s₁ := { s₁ with heap := s₁.heap.push { cls := .type "dict_values", data := .fields #[.ref a] } }) x1 (hs1.trans ⟨rfl, rfl, rfl⟩) ?_
    have hacc' : acc.toList = vs := by
      apply List.ext_getElem?
      intro i
      cases q : acc.toList[i]? with
      | none =>
        have h1 : acc.toList.length ≤ i := List.getElem?_eq_none_iff.1 q
        rw [Array.length_toList, hacc.1] at h1
        rw [List.getElem?_eq_none h1]
      | some u => exact (hacc.2 i u (by rw [← Array.getElem?_toList]; exact q)).symm
    refine Zbg (s := { s₁ with heap := s₁.heap.push { cls := .type "dict_values", data := .fields #[.ref a] } }) (xs := xs) hR' hk (Z4 _) ho hf ?_ (hq _)
    rw [hacc']
    exact VRs.mono (fun a o _ _ _ e _ _ => .of (hk _ _ (kp a o e))) hvs
  · exact hq.elim
noncomputable def Zod : TF := fun xs σ Q _ => match xs with
  | [.ref a, k, d] => match σ a with
    | some (.dictT kvs _) => ∃ ks : List Int, k = .tup (ks.map V.int) ∧ Q ((kvs.lookup ks).getD d) σ
    | _ => False
  | _ => False
theorem Zf8 {kvs : List (List Int × V)} {us : List (List Int × Addr × Value)} (hk : us.map (·.1) = kvs.map (·.1)) {k : List Int} (e : kvs.lookup k = none) : atKey us k = none := by
  have h1 := Zdn hk k
  have h2 : (kvs.any fun kv => kv.1 == k) = false := by
    rw [List.any_eq_false]
    intro p hp q
    have : kvs.lookup k ≠ none := by
      clear e h1 hk
      induction kvs with
      | nil => cases hp
      | cons x kvs ih =>
        rw [List.lookup_cons]
        by_cases z : k = x.1
        · have : (k == x.1) = true := by simpa using z
          rw [this]; simp
        · have w : (k == x.1) = false := by simpa using z
          rw [w]
          rcases List.mem_cons.1 hp with rfl | hp
          · have q' : p.1 = k := by simpa using q
            exact absurd q'.symm z
          · exact ih hp
    exact this e
  rw [h2] at h1
  simpa using h1
theorem Zoj : Zfs g r (.builtin "dict.get") Zod := .mk fun A s σ xs vs Q E G Fr Rm R hv h => by
  unfold Zod at h
  split at h
  · rename_i a k d
    obtain ⟨v, _, rfl, ha, hr⟩ := Zn hv
    obtain ⟨u, _, rfl, hk, hr⟩ := Zn hr; clear hr
    obtain ⟨w, _, rfl, hd, hr⟩ := Zn hr; clear hr
    rw [Z2 hr, Yi.mp ha]
    split at h
    · rename_i kvs ep e
      obtain ⟨ks, rfl, h⟩ := h
      obtain ⟨ka, rfl, nh, hka⟩ := Zbr hk
      obtain ⟨hf, us, hdt, hks, hvs⟩ := (R.own a _ e).2
      refine call_meetsIn PySem.F.slot_dict_get hdt.ofH.typeIs PySem.F.entry_dict_get (PySem.F.args_dict_get_3 _ _ _) (meetsH_dict_get_default (tupleKind (intKind g.prog g.w)) a ka (Xk G R e) w) ⟨tupleKind_room_in1 (by have := Rm.cline; exact Zua this), ks, us, hka, hdt.ofH, ?_⟩
      cases q : kvs.lookup ks with
      | none =>
        rw [Zf8 hks q]
        rw [q] at h
        exact Zbl R rfl ⟨rfl, rfl, rfl⟩ hd h
      | some y =>
        obtain ⟨⟨ad, yv⟩, hat, hyv⟩ := Zg0 hks hvs q
        rw [hat]
        rw [q] at h
        exact Zbl R rfl ⟨rfl, rfl, rfl⟩ hyv h
    · exact h.elim
  · exact h.elim
theorem Z1z {o : Expr} {apos pos : Pos} {args : List Expr} {to : TE} {ts : TL} (ho : Xy g sc r true o to) (hL : Zml g sc r true args ts) (hp : Zef args) (hbase : Ze1 o = false) (hfew : decide (args.length < 30) = true)
    (hline : (apos.endLine == pos.line) = true) : Xy g sc r true (.Call (.Attribute o (Str.ofString "get") apos) args [] pos) (Xf .dict Zod to ts) :=
  Zcq (T := .dict) F.plainAttrs_dict F.slot_dict_get F.type_dict_get Zoj ho hL hp hbase hfew hline
noncomputable def Zuj : TF := fun xs σ Q _ => ∃ a kvs ep, xs = [.ref a] ∧ σ a = some (.dictI kvs ep) ∧ ∀ d ep', σ d = none → Q (.ref d) (σ.set d (.dictI kvs ep'))
theorem Zfd : Zfs g r (.type "dict") Zuj := .mk fun A s σ xs vs Q E G Fr Rm R hv h => by
  obtain ⟨a, kvs, ep, rfl, e, h⟩ := h
  obtain ⟨v, _, rfl, ha, hr⟩ := Zn hv
  rw [Z2 hr, Yi.mp ha]
  obtain ⟨hf, us, hd, hk, hvs⟩ := (R.own a _ e).2
  have hlen : kvs.length = us.length := by have := congrArg List.length hk; simpa using this.symm
  refine kt_call_dict (Xk G R e) hd.dictOf (by rw [← hlen]; exact hf.line) fun h' hd' sb => ?_
  have kp : ∀ b o, s.heap.get? b = some o → h'.get? b = some o := fun b o q => sb.extBut b o (Nat.ne_of_lt (Heap.lt_size q)) (Heap.get?_push_of_some _ q)
  obtain ⟨ep', hd'⟩ := Zb0 hd'
  exact ⟨.ref _, σ.set s.heap.objs.size (.dictI kvs ep'), Yi.mpr rfl, R.alloc kp (Z4 _) ⟨hf, us, hd', hk, VRs.mono (fun a o _ _ _ e _ _ => .of (kp a o e)) hvs⟩, .alloc kp (Z4 _), ⟨rfl, rfl, rfl⟩, h _ _ (R.fresh (Z4 _))⟩
noncomputable def Zwg : TF := fun xs σ Q _ => ∃ b, xs = [.bool b] ∧ Q (.int (if b then 1 else 0)) σ
theorem Zjh : Zfs g r (.type "int") Zwg := .mk fun A s σ xs vs Q E G Fr Rm R hv h => by
  obtain ⟨b, rfl, h⟩ := h
  obtain ⟨v, _, rfl, ha, hr⟩ := Zn hv
  rw [Z2 hr, Wo.mp ha]
  exact call_int_bool (Zbl R rfl ⟨rfl, rfl, rfl⟩ (Z9.mpr ⟨_, rfl⟩) h)
noncomputable def Z2v : TF := fun xs σ Q _ => ∃ (a : Addr) (bs : List Bool), xs = [.ref a] ∧ σ a = some (.list (bs.map V.bool)) ∧ Q (.bool (bs.all id)) σ
theorem Zcp : Zfs g r (.builtin "all") Z2v := .mk fun A s σ xs vs Q E G Fr Rm R hv h => by
  obtain ⟨a, bs, rfl, e, h⟩ := h
  obtain ⟨v, _, rfl, ha, hr⟩ := Zn hv
  rw [Z2 hr, Yi.mp ha]
  obtain ⟨hf, us, n, ho, hvs⟩ := (R.own a _ e).2
  have hlt : a < s.heap.objs.size := Heap.lt_size ho
  have hl : s.heap.IsList a us := ⟨_, ho, rfl, n, rfl⟩
  have hlen : bs.length = us.size := by have := Zz hvs; simpa using this
  refine call_all_walk (wpAny_pyIter_list hl ?_)
  refine ⟨s.heap.objs.size, [s.heap.objs.size, a], [s.heap.objs.size], us.size, _, _, fun i => (bs[i]?).getD true, rfl, Walks.list (A := A.in1) (Rm.calm rfl) _ a (Nat.ne_of_lt hlt) us, ⟨⟨_, Heap.get?_push_size _ rfl, rfl, rfl⟩, hl.push _⟩, fun i v s' Q' E' hP hQ => ?_, fun h' tk hk => ?_⟩
  · replace hP : us[i]? = some v := hP
    replace hQ : Q' ((bs[i]?).getD true) s' := hQ
    have hi : i < bs.length := by
      rcases Nat.lt_or_ge i bs.length with q | q
      · exact q
      · rw [Array.getElem?_eq_none (by exact Z0n hlen q)] at hP; cases hP
    obtain ⟨u, hu, hb⟩ := Zfa hvs (i := i) (x := .bool bs[i]) (by simp [hi])
    rw [hP] at hu; cases hu
    rw [Wo.mp hb]
    simp only [List.getElem?_eq_getElem hi, Option.getD_some] at hQ
    exact wpAny_truthy_bool hQ
  · have e2 : ((List.range us.size).all fun i => (bs[i]?).getD true) = bs.all id := by
      rw [Bool.eq_iff_iff, List.all_eq_true, List.all_eq_true]
      constructor
      · intro q b hb
        obtain ⟨i, hi, rfl⟩ := List.getElem_of_mem hb
        have := q i (List.mem_range.2 (by exact Z0m hlen hi))
        simpa [List.getElem?_eq_getElem hi] using this
      · intro q i hi
        have hi' : i < bs.length := by have := List.mem_range.1 hi; exact Z0l hlen this
        simp only [List.getElem?_eq_getElem hi', Option.getD_some]
        exact q _ (List.getElem_mem hi')
    rw [e2]
    refine .keeps (fun b o q => hk b o (fun hm => ?_) (Heap.get?_push_of_some _ q)) ⟨rfl, rfl, rfl⟩ (Wo.mpr rfl) R h
    rw [List.mem_singleton.1 hm, Z4] at q; cases q
theorem Zno (a I : Addr) (kvs : List (Int × V)) (ep : Nat) : Zhj g (kvs.map fun p => V.int p.1) (fun σ => σ a = some (.dictI kvs ep)) I (· = I) (fun k h => h.IsKeyIter I a k kvs.length ep) false where
  stab := fun k h h' st _ kp => st.at fun o e => kp I o rfl e
  flds := fun k h b st e => by subst e; obtain ⟨o, ho, _, hd⟩ := st; exact ⟨o, ho, .inr ⟨_, hd⟩⟩
  self := fun k A E s Q st h => wpAny_pyIter_keyiter st h
  item := fun k x A E s σ target Q hx st R iv off _ h => by
    obtain ⟨hf, us, hd, hk, hv⟩ := (R.own a _ iv).2
    have hlen : kvs.length = us.length := by have := congrArg List.length hk; simpa using this.symm
    rw [List.getElem?_map] at hx
    cases ek : kvs[k]? with
    | none => rw [ek] at hx; cases hx
    | some p =>
      rw [ek] at hx; cases hx
      have hu : (us.map (·.1))[k]? = some p.1 := by rw [hk, List.getElem?_map, ek]; rfl
      rw [List.getElem?_map] at hu
      cases eu : us[k]? with
      | none => rw [eu] at hu; cases hu
      | some q =>
        obtain ⟨kk, v'⟩ := q
        rw [eu] at hu
        simp at hu
        subst hu
        obtain ⟨oI, hoI, hcI, hdI⟩ := id st
        refine wpAny_pyNext_dict_item (knd := intKind g.prog g.w) (hlen ▸ st) hd eu fun key h' hkey st' sb => ?_
        obtain ⟨o', ho', hc', hd'⟩ := id st'
        refine Zbu ho' hc' hd' (by decide) (h _ _ (fun b o nb e => sb.extBut b o nb e) ⟨rfl, rfl, rfl⟩ (hlen ▸ st') ?_)
        cases key <;> simp [PySem.intKind, Value.isInt] at hkey
        rw [hkey]; exact Z9.mpr ⟨_, rfl⟩
  last := fun k A E s σ Q hk' hh st R iv off h => by
    obtain ⟨hf, us, hd, hk, hv⟩ := (R.own a _ iv).2
    have hlen : kvs.length = us.length := by have := congrArg List.length hk; simpa using this.symm
    refine wpAny_pyNext_dict_end (knd := intKind g.prog g.w) hh (hlen ▸ st) hd (List.getElem?_eq_none (by simpa [hlen] using hk')) fun h' eb => h { s with heap := h' } (fun b o nb e => eb b o nb e) ⟨rfl, rfl, rfl⟩
noncomputable def Zmy (t : TE) : TI := fun ℓ σ Q E => t ℓ σ (fun x σ₁ => match x with
  | .ref a => match σ₁ a with | some (.dictI kvs ep) => Q (kvs.map fun p => V.int p.1) (fun σ => σ a = some (.dictI kvs ep)) false σ₁ | _ => False
  | _ => False) E
theorem Zeo {e : Expr} {t : TE} (h1 : Xy g sc r c e t) : Zt1 g sc r c e (Zmy t) := .mk fun A env s ℓ σ Q E X h => by
  refine wpAny_mono (h1.run A env s ℓ σ _ E X h) (fun v s₁ p => ?_) fun _ _ p => p
  refine Za3.elim p fun x σ₁ hv hR hx hs hq => ?_
  cases x with
  | ref a =>
    rw [Yi.mp hv]
    simp only at hq
    split at hq
    · rename_i kvs ep e
      obtain ⟨hf, us, hd, hk, hvs⟩ := (hR.own a _ e).2
      have hlen : kvs.length = us.length := by have := congrArg List.length hk; simpa using this.symm
      refine wpAny_pyIter_dict (knd := intKind g.prog g.w) (Xk X.gok hR e) hd ?_
      rw [← hlen]
      exact Zdg hR hx hs (Zno a _ kvs ep) ⟨_, Heap.get?_push_size _ rfl, rfl, rfl⟩ (by simpa using hf) hq
    · exact hq.elim
  | _ => exact hq.elim
end
section
open PySem PySem.W PyProof.Rows
section
variable {prog : Program} {w : World} {A : Around} {E : Value → Shared → Prop} {s : Shared} {d : Addr} {ks : List Value} {ep : Nat}
end
variable {g : Gr} {sc csc : Scope} {r : Nat} {c : Bool} {K : Frag}
end
section
open PySem PySem.W PyProof.Rows
variable {g : Gr} {sc csc : Scope} {r : Nat} {c : Bool} {K : Frag}
end
section
open PySem PySem.W PyProof.Rows
variable {g : Gr} {sc csc : Scope} {r : Nat} {c : Bool} {K : Frag}
noncomputable def Zko : TE := fun _ σ Q _ => ∀ a ep, σ a = none → Q (.ref a) (σ.set a (.dictT [] ep))
theorem Zgo {pos : Pos} : Xy g sc r c (.Dict [] [] pos) Zko := .mk fun A env s ℓ σ Q E X h => by
  refine wpAny_Dict_empty ?_
  have kp := Xg s.heap { cls := .type "dict", data := .dict #[] }
  have hD : (s.heap.push { cls := .type "dict", data := .dict #[] }).DictOf (intKind g.prog g.w) s.heap.objs.size [] := Heap.DictOf.new s.heap
  obtain ⟨ep, o, es, ho, hc, hd, hx, hp, hy⟩ := Zb0 hD
  have hes : es.toList = [] := by
    have := Zfg hp
    simpa using this
  exact ⟨.ref s.heap.objs.size, σ.set s.heap.objs.size (.dictT [] ep), Yi.mpr rfl, X.rel.alloc kp (Z4 _) ⟨Yh rfl, [], ⟨o, es, ho, hc, hd, hes, (fun x hx => by cases hx), List.nodup_nil⟩, rfl, Xq⟩, .alloc kp (Z4 _), ⟨rfl, rfl, rfl⟩, h _ _ (X.rel.fresh (Z4 _))⟩
theorem Zjq {t : Tgt} {inv : AH → Prop} {tb : TS} {x : V} {xs : List V} {ℓ : Loc} {σ : AH} {Q : Fl → Loc → AH → Prop} {E : Addr → Loc → AH → Prop}
    (h : ∀ K : Fl → Loc → AH → Prop, (∀ ℓ' σ', Zbh t inv tb xs ℓ' σ' Q E → K .next ℓ' σ') → (∀ v ℓ' σ', Q (.ret v) ℓ' σ' → K (.ret v) ℓ' σ') → inv σ ∧ Xd t x ℓ σ fun ℓ₁ => tb ℓ₁ σ K E) : Zbh t inv tb (x :: xs) ℓ σ Q E :=
  h _ (fun _ _ h => h) (fun _ _ _ h => h)
theorem Zur {K' : Type} [DecidableEq K'] (kvs : List (K' × V)) (k : K') (x : V) : Zfb kvs k x = Zhg kvs k x := rfl
noncomputable def Zak (p : List Int × Int) : List Int × V := (p.1, .int p.2)
theorem Zeu (ps : List (List Int × Int)) (k : List Int) (n : Int) : Zfb (ps.map Zak) k (.int n) = (Zhg ps k n).map Zak := by
  rw [Zur]; exact Zq9 (f := V.int)
theorem Zfw (ps : List (List Int × Int)) (k : List Int) : (ps.map Zak).lookup k = (ps.lookup k).map V.int := by
  induction ps with
  | nil => rfl
  | cons p ps ih =>
    rw [List.map_cons, List.lookup_cons, List.lookup_cons]
    show (match k == p.1 with | true => some (V.int p.2) | false => (ps.map Zak).lookup k) = _
    cases k == p.1 with
    | true => rfl
    | false => exact ih
theorem Zj3 (ps : List (List Int × Int)) (k : List Int) : ((ps.map Zak).lookup k).getD (.int 0) = .int ((ps.lookup k).getD 0) := by
  rw [Zfw]; cases ps.lookup k <;> rfl
theorem Zlp {σ : AH} {a : Addr} {kvs : List (List Int × V)} {ep : Nat} {ks : List Int} {d : V} {Q : V → AH → Prop} {E : Addr → AH → Prop} (h : σ a = some (.dictT kvs ep)) (q : Q ((kvs.lookup ks).getD d) σ) : Zod [.ref a, .tup (ks.map V.int), d] σ Q E := by
  simp only [Zod, h]; exact ⟨ks, rfl, q⟩
theorem Zio {σ : AH} {a : Addr} {kvs : List (List Int × V)} {ep : Nat} {ks : List Int} {v : V} {Q : AH → Prop} (h : σ a = some (.dictT kvs ep)) (hf : Xv (kvs.length + 1)) (q : ∀ ep', Q (σ.set a (.dictT (Zfb kvs ks v) ep'))) : Wj (.ref a) (.tup (ks.map V.int)) v σ Q := by
  simp only [Wj, h]; exact ⟨ks, rfl, hf, q⟩
theorem Z10 {σ : AH} {a : Addr} {kvs : List (List Int × V)} {ep : Nat} {ks : List Int} {x : V} {Q : V → Prop} (h : σ a = some (.dictT kvs ep)) (e : kvs.lookup ks = some x) (q : Q x) : Zbb (.ref a) (.tup (ks.map V.int)) σ Q := by
  simp only [Zbb, h]; exact ⟨ks, rfl, by rw [e]; exact q⟩
noncomputable def Zuo (x : Rw) : V := .tup [.int x.n, .int x.l, .int x.r, Zjb x.h]
theorem Znf (T : List (Rw × Addr)) : T.map Zix = (T.map (·.1)).map Zuo := by rw [List.map_map]; rfl
theorem Zpa {α β : Type} {f : α → β} {L : List α} (h : (L.map f).Nodup) {p q : α} (hp : p ∈ L) (hq : q ∈ L) (e : f p = f q) : p = q := by
  induction L with
  | nil => cases hp
  | cons v L ih =>
    rw [List.map_cons, List.nodup_cons] at h
    rcases List.mem_cons.1 hp with w | w <;> rcases List.mem_cons.1 hq with y | y
    · rw [w, y]
    · exact absurd (List.mem_map.2 ⟨_, y, by rw [← e, w]⟩) h.1
    · exact absurd (List.mem_map.2 ⟨_, w, by rw [e, y]⟩) h.1
    · exact ih h.2 w y
noncomputable def kv (S : List Rw) : List (Int × Int) := S.map fun x => (x.n, hu x)
theorem Ztr {nums : List Int} {a b : Int} {x : Rw} (h : x.h ≠ none) : hu (Xz nums a b x) = if x.n ∈ nums then a + b - hu x else hu x := by
  unfold Xz
  split
  · unfold hu
    cases e : x.h with
    | none => exact absurd e h
    | some y => simp
  · rfl
theorem Zie {ℓ : Loc} {n m : String} {v : V} (h : ¬ m = n) : (ℓ.set n v) m = ℓ m := by rw [Zad, if_neg h]
end
section
open PySem PySem.W PyProof.Rows
noncomputable def Zn2 (x : Rw) : V := .tup [.int x.l, .int x.r, .int (hu x)]
noncomputable def Yd (L : List Rw) : List (Int × V) := L.map fun x => (x.n, Zn2 x)
structure OkL (L : List Rw) : Prop where
  nd : (L.map Rw.n).Nodup
  pr : Y4 L
  hd : ∀ x ∈ L, x.h ≠ none
  few : L.length < 64
  srt : ∃ S : List Rw, S.Perm L ∧ Inc S
theorem OkL.inj {L : List Rw} (h : OkL L) {x y : Rw} (hx : x ∈ L) (hy : y ∈ L) (e : x.n = y.n) : x = y := Zpa h.nd hx hy e
theorem Zdk {x : Rw} (h : x.h ≠ none) : x.h = some (hu x) := by
  unfold hu; cases e : x.h with
  | none => exact absurd e h
  | some y => rfl
theorem Zcs (L : List Rw) : (Yd L).map (·.1) = L.map Rw.n := by unfold Yd; rw [List.map_map]; rfl
theorem Xn {L : List Rw} (h : (L.map Rw.n).Nodup) {x : Rw} (hx : x ∈ L) : (Yd L).lookup x.n = some (Zn2 x) :=
  Zhx (by rw [Zcs]; exact h) (p := (x.n, Zn2 x)) (List.mem_map.2 ⟨x, hx, rfl⟩)
theorem Zg4 {S : List Rw} (hi : Inc S) : (S.map Rw.n).Nodup := by
  rw [List.Nodup, List.pairwise_map]; exact hi.imp fun h => by exact Zrf h
theorem Y4.of_mem {S L : List Rw} (h : Y4 S) (k : ∀ x ∈ L, x ∈ S) : Y4 L := fun x hx y hy => h x (k x hx) y (k y hy)
theorem Zbk {S L : List Rw} (p : L.Perm S) {s : Bool} {e h : Int} : Zas S s e h ↔ Zas L s e h :=
  ⟨fun f x hx => f x (p.mem_iff.1 hx), fun f x hx => f x (p.mem_iff.2 hx)⟩
theorem Zi4 {S L : List Rw} (p : L.Perm S) (s : Bool) (e : Int) : deg L s e = deg S s e := (p.filter _).length_eq
theorem Zfj {S L : List Rw} (p : L.Perm S) {a b : Int} {m : Nat} : W7 S a b m ↔ W7 L a b m :=
  ⟨fun h => h.congr (Zi4 p), fun h => h.congr (Zi4 p.symm)⟩
noncomputable def Zc9 (s : Bool) (e h : Int) : List Int := [sI s, e, h]
theorem Zdw {s t : Bool} {e f h k : Int} (q : Zc9 s e h = Zc9 t f k) : s = t ∧ e = f ∧ h = k := by
  unfold Zc9 sI at q
  cases s <;> cases t <;> simp at q <;> simp [q]
noncomputable def Zra (ps : List (List Int × Int)) (x : Rw) : List (List Int × Int) := Zhg (Zhg ps (Zc9 false x.l (hu x)) x.n) (Zc9 true x.r (hu x)) x.n
noncomputable def Zf9 (L : List Rw) : List (List Int × Int) := L.foldl Zra []
theorem Zpn {L : List Rw} {x : Rw} : Zf9 (L ++ [x]) = Zra (Zf9 L) x := by unfold Zf9; rw [List.foldl_append]; rfl
theorem Zk4 (L : List Rw) : (Zf9 L).length ≤ 2 * L.length := by
  have : ∀ (L : List Rw) ps, (L.foldl Zra ps).length ≤ ps.length + 2 * L.length := by
    intro L
    induction L with
    | nil => intro ps; exact Nat.le_refl _
    | cons x L ih =>
      intro ps
      have h1 := ih (Zra ps x)
      have h2 : (Zra ps x).length ≤ (Zhg ps (Zc9 false x.l (hu x)) x.n).length + 1 := Zct
      have h3 : (Zhg ps (Zc9 false x.l (hu x)) x.n).length ≤ ps.length + 1 := Zct
      rw [List.foldl_cons, List.length_cons]; exact Z0k h1 h2 h3
  have := this L []
  simpa [Zf9] using this
theorem Zgz {ps : List (List Int × Int)} {x : Rw} {s : Bool} {e h : Int} : (Zra ps x).lookup (Zc9 s e h) = if x.e s = e ∧ hu x = h then some x.n else ps.lookup (Zc9 s e h) := by
  unfold Zra
  rw [Zd9, Zd9]
  cases s with
  | false =>
    rw [if_neg fun q => absurd (Zdw q).1 (by decide)]
    by_cases z : x.e false = e ∧ hu x = h
    · rw [if_pos z, if_pos (by unfold Zc9; rw [← z.1, ← z.2]; rfl)]
    · rw [if_neg z, if_neg fun q : Zc9 false e h = Zc9 false x.l (hu x) => z ⟨(Zdw q).2.1.symm, (Zdw q).2.2.symm⟩]
  | true =>
    by_cases z : x.e true = e ∧ hu x = h
    · rw [if_pos z, if_pos (by unfold Zc9; rw [← z.1, ← z.2]; rfl)]
    · rw [if_neg z, if_neg fun q : Zc9 true e h = Zc9 true x.r (hu x) => z ⟨(Zdw q).2.1.symm, (Zdw q).2.2.symm⟩, if_neg fun q => absurd (Zdw q).1 (by decide)]
theorem Zpo {L : List Rw} {s : Bool} {e h : Int} (f : ∀ x ∈ L, x.e s = e → hu x ≠ h) : (Zf9 L).lookup (Zc9 s e h) = none := by
  have : ∀ (L : List Rw) ps, (∀ x ∈ L, x.e s = e → hu x ≠ h) → ps.lookup (Zc9 s e h) = none → (L.foldl Zra ps).lookup (Zc9 s e h) = none := by
    intro L
    induction L with
    | nil => intro ps _ h; exact h
    | cons x L ih =>
      intro ps hf h0
      refine ih _ (fun y hy => hf y (.tail _ hy)) ?_
      rw [Zgz, if_neg fun z => hf x (.head _) z.1 z.2]; exact h0
  exact this L [] f rfl
theorem Zjz {L : List Rw} (ok : OkL L) {x : Rw} (hx : x ∈ L) (s : Bool) : (Zf9 L).lookup (Zc9 s (x.e s) (hu x)) = some x.n := by
  have key : ∀ (M : List Rw) ps, (∀ y ∈ M, y ∈ L) → (x ∈ M ∨ ps.lookup (Zc9 s (x.e s) (hu x)) = some x.n) → (M.foldl Zra ps).lookup (Zc9 s (x.e s) (hu x)) = some x.n := by
    intro M
    induction M with
    | nil => intro ps _ h; rcases h with h | h; cases h; exact h
    | cons y M ih =>
      intro ps hs h
      refine ih _ (fun z hz => hs z (.tail _ hz)) ?_
      rw [Zgz]
      by_cases w : y.e s = x.e s ∧ hu y = hu x
      · right
        rw [if_pos w]
        have hy := hs y (.head _)
        rw [ok.pr y hy x hx s w.1 (by rw [Zdk (ok.hd y hy), Zdk (ok.hd x hx), w.2]) (ok.hd y hy)]
      · rw [if_neg w]
        rcases h with h | h
        · rcases List.mem_cons.1 h with q | q
          · subst q; exact absurd ⟨rfl, rfl⟩ w
          · exact .inl q
        · exact .inr h
  exact key L [] (fun _ h => h) (.inl hx)
theorem Zj0 {L : List Rw} (ok : OkL L) {s : Bool} {e h : Int} : ((Zf9 L).map Zak).any (fun kv => kv.1 == Zc9 s e h) = !decide (∀ x ∈ L, x.e s = e → hu x ≠ h) := by
  have e1 : ((Zf9 L).map Zak).any (fun kv => kv.1 == Zc9 s e h) = ((Zf9 L).lookup (Zc9 s e h)).isSome := by
    rw [Zew, List.any_map]
    congr 1
    funext p
    simp only [Function.comp_apply, Zak]
    rw [Bool.eq_iff_iff]; simp
  rw [e1]
  by_cases f : ∀ x ∈ L, x.e s = e → hu x ≠ h
  · rw [Zpo f, decide_eq_true f]; rfl
  · rw [decide_eq_false f]
    have : ∃ x ∈ L, x.e s = e ∧ hu x = h := Classical.byContradiction fun q => f fun x hx he hh => q ⟨x, hx, he, hh⟩
    obtain ⟨x, hx, rfl, rfl⟩ := this
    rw [Zjz ok hx s]; rfl
theorem Zl9 {L : List Rw} (ok : OkL L) {s : Bool} {e h : Int} : Zas L s e h ↔ ∀ x ∈ L, x.e s = e → hu x ≠ h := by
  refine forall_congr' fun x => forall_congr' fun hx => forall_congr' fun _ => not_congr ?_
  rw [Zdk (ok.hd x hx)]; simp
theorem Zjm {L : List Rw} (ok : OkL L) {s : Bool} {e : Int} {m : Nat} : ((Zcl m).filter fun h => !(((Zf9 L).map Zak).any fun kv => kv.1 == Zc9 s e h)) = Z0 L s e m := by
  unfold Z0
  refine List.filter_congr fun h _ => ?_
  rw [Zj0 ok, Bool.not_not, Bool.eq_iff_iff, decide_eq_true_iff, ← Zl9 ok]
  rw [Bool.not_eq_true', List.contains_eq_mem, decide_eq_false_iff_not, Zdh]
  exact ⟨fun f ⟨x, hx, he, hh⟩ => f x hx he hh, fun f x hx he hh => f ⟨x, hx, he, hh⟩⟩
noncomputable def Zqx (tl : Rw → List V) (x : Rw) : V := .tup (.int x.l :: .int x.r :: tl x)
inductive Zmn (xs : List V) (σ : AH) (Q : V → AH → Prop) : Prop
  | mk (rd : Addr) (kvs : List (Int × V)) (L : List Rw) (tl : Rw → List V) (ep : Nat) (h0 : xs = [.ref rd]) (h1 : σ rd = some (.dictI kvs ep)) (h2 : kvs.map (·.2) = L.map (Zqx tl)) (h3 : L.length < 64) (h4 : ∀ m : Nat, (∀ a b, InR L a b → W7 L a b m) → Q (.int m) σ) : Zmn xs σ Q
noncomputable def Zff : TF := fun xs σ Q _ => Zmn xs σ Q
inductive Zqh (xs : List V) (σ : AH) (Q : V → AH → Prop) : Prop
  | mk (rd : Addr) (L : List Rw) (ep : Nat) (h0 : xs = [.ref rd]) (h1 : σ rd = some (.dictI (Yd L) ep)) (h2 : (L.map Rw.n).Nodup) (h3 : L.length < 64) (h4 : ∀ b ep', σ b = none → Q (.ref b) (σ.set b (.dictT ((Zf9 L).map Zak) ep'))) : Zqh xs σ Q
noncomputable def Zjl : TF := fun xs σ Q _ => Zqh xs σ Q
inductive Zql (xs : List V) (σ : AH) (Q : V → AH → Prop) : Prop
  | mk (rd : Addr) (L : List Rw) (ep : Nat) (s : Bool) (e : Int) (m : Nat) (h0 : xs = [.ref rd, .int (sI s), .int e, .int m]) (h1 : σ rd = some (.dictI (Yd L) ep)) (h2 : OkL L) (h3 : m ≤ 100) (h4 : ∀ b, σ b = none → Q (.ref b) (σ.set b (.list ((Z0 L s e m).map V.int)))) : Zql xs σ Q
noncomputable def Zgr : TF := fun xs σ Q _ => Zql xs σ Q
inductive Zmo (xs : List V) (σ : AH) (Q : V → AH → Prop) : Prop
  | mk (rd : Addr) (L : List Rw) (ep : Nat) (s : Bool) (e one other : Int) (h0 : xs = [.ref rd, .int (sI s), .int e, .int one, .int other]) (h1 : σ rd = some (.dictI (Yd L) ep)) (h2 : OkL L) (h3 : Zas L s e one) (h4 : one ≠ other) (h5 : ∀ b l, Zbc L s e one other l → Zc2 L s e one other l → σ b = none → Q (.ref b) (σ.set b (.list (l.map fun x => V.int x.n)))) : Zmo xs σ Q
noncomputable def Zit : TF := fun xs σ Q _ => Zmo xs σ Q
noncomputable def Zkd (L : List Rw) (l r : Int) (m : Nat) (s : Bool) (hue o : Int) (ch : List Rw) : Prop := hue ∈ Z0 L (!s) (Zar l r (!s)) m ∧ o ∈ Z0 L s (Zar l r s) m ∧ Zbc L s (Zar l r s) o hue ch ∧ Zc2 L s (Zar l r s) o hue ch
noncomputable def Zmr (L : List Rw) (l r : Int) (m : Nat) : Prop := ∀ h ∈ Z0 L false l m, h ∉ Z0 L true r m
inductive Zmm (xs : List V) (σ : AH) (Q : V → AH → Prop) : Prop
  | mk (rd : Addr) (L : List Rw) (ep : Nat) (l r : Int) (m : Nat) (h0 : xs = [.ref rd, .tup [.int l, .int r], .int m]) (h1 : σ rd = some (.dictI (Yd L) ep)) (h2 : OkL L) (h3 : m ≤ 100) (h4 : Zmr L l r m) (h5 : ∀ b (ns : List Int), (∀ n ∈ ns, ∃ s hue o ch, Zkd L l r m s hue o ch ∧ n = (ch.length : Int)) → (∀ s hue o ch, Zkd L l r m s hue o ch → (ch.length : Int) ∈ ns) → σ b = none → Q (.ref b) (σ.set b (.list (ns.map V.int)))) : Zmm xs σ Q
noncomputable def Zks : TF := fun xs σ Q _ => Zmm xs σ Q
noncomputable def Zsw (L : List Rw) (l r : Int) (m : Nat) (s : Bool) (hue o : Int) (ch : List Rw) : Prop := Zmr L l r m ∧ Zkd L l r m s hue o ch ∧ ∀ s' hue' o' ch', Zkd L l r m s' hue' o' ch' → ch.length ≤ ch'.length
inductive Zqf (xs : List V) (σ : AH) (Q : V → AH → Prop) : Prop
  | mk (rd nb : Addr) (L : List Rw) (ep : Nat) (l r : Int) (m : Nat) (s : Bool) (hue o : Int) (ch : List Rw) (h0 : xs = [.ref rd, .tup [.int l, .int r], .int m, .int hue, .int o, .ref nb]) (h1 : σ rd = some (.dictI (Yd L) ep)) (h2 : OkL L) (h3 : m ≤ 100) (h4 : σ nb = some (.list (ch.map fun x => V.int x.n))) (h5 : Zsw L l r m s hue o ch) (h6 : Q (.bool true) σ) : Zqf xs σ Q
noncomputable def Zov : TF := fun xs σ Q _ => Zqf xs σ Q
noncomputable def Znz (L : List Rw) (l r : Int) (m : Nat) (hue : Int) (other : Option Int) (nums : List Int) : Prop :=
  (other = none ∧ nums = [] ∧ hue ∈ Z0 L false l m ∧ hue ∈ Z0 L true r m) ∨ ∃ o s ch, other = some o ∧ nums = ch.map Rw.n ∧ Zsw L l r m s hue o ch
noncomputable def Znl (L : List Rw) (k l r hue : Int) (other : Option Int) (nums : List Int) : List Rw := L.map (Xz nums hue (other.getD 0)) ++ [⟨k, l, r, some hue⟩]
inductive Zvy (xs : List V) (σ : AH) (Q : V → AH → Prop) : Prop
  | mk (rd c : Addr) (L : List Rw) (ep : Nat) (k l r : Int) (m : Nat) (hue : Int) (other : Option Int) (nums : List Int) (h0 : xs = [.ref rd, Zmx k hue other c, .int k, .tup [.int l, .int r], .int m]) (h1 : σ rd = some (.dictI (Yd L) ep)) (h2 : OkL L) (h3 : (∀ x ∈ L, x.n ≠ k)) (h4 : m ≤ 100) (h5 : σ c = some (.list (nums.map V.int))) (h6 : Znz L l r m hue other nums) (h7 : ∀ b ep', σ b = none → Q (.ref b) (σ.set b (.dictI (Yd (Znl L k l r hue other nums)) ep'))) : Zvy xs σ Q
noncomputable def Zt6 : TF := fun xs σ Q _ => Zvy xs σ Q
inductive Zqp (xs : List V) (σ : AH) (Q : V → AH → Prop) : Prop
  | mk (rd c : Addr) (L : List Rw) (ep : Nat) (k l r a b : Int) (m : Nat) (hue : Int) (other : Option Int) (nums : List Int) (h0 : xs = [.ref rd, Zmx k hue other c, .int k, .tup [.int l, .int r]]) (h1 : σ rd = some (.dictI (Yd L) ep)) (h2 : OkL L) (h3 : L.length < 60) (h4 : (∀ x ∈ L, x.n ≠ k)) (h5 : InR (L ++ [⟨k, l, r, none⟩]) a b) (h6 : W7 (L ++ [⟨k, l, r, none⟩]) a b m) (h7 : σ c = some (.list (nums.map V.int))) (h8 : Znz L l r m hue other nums) (h9 : ∀ b ep', σ b = none → Q (.ref b) (σ.set b (.dictI (Yd (Znl L k l r hue other nums)) ep'))) : Zqp xs σ Q
noncomputable def Zo2 : TF := fun xs σ Q _ => Zqp xs σ Q
theorem Zcw {S L : List Rw} {s : Bool} {e : Int} {m : Nat} (h : ∀ k, Zas S s e k ↔ Zas L s e k) : Z0 S s e m = Z0 L s e m := by
  unfold Z0
  refine List.filter_congr fun k _ => ?_
  rw [Bool.eq_iff_iff]
  simp only [Bool.not_eq_true', List.contains_eq_mem, decide_eq_false_iff_not, Zdh]
  have := h k
  constructor
  · intro f ⟨x, hx, he, hh⟩
    exact (this.1 fun y hy hye hyh => f ⟨y, hy, hye, hyh⟩) x hx he hh
  · intro f ⟨x, hx, he, hh⟩
    exact (this.2 fun y hy hye hyh => f ⟨y, hy, hye, hyh⟩) x hx he hh
theorem Zge {S0 L : List Rw} {k l r : Int} (p : S0.Perm (L ++ [⟨k, l, r, none⟩])) {s : Bool} {e h : Int} : Zas S0 s e h ↔ Zas L s e h := by
  constructor
  · intro f x hx; exact f x (p.mem_iff.2 (List.mem_append_left _ hx))
  · intro f x hx he hh
    rcases List.mem_append.1 (p.mem_iff.1 hx) with w | w
    · exact f x w he hh
    · rw [List.mem_singleton.1 w] at hh; cases hh
theorem Zlw {S0 L : List Rw} {k l r : Int} (p : S0.Perm (L ++ [⟨k, l, r, none⟩])) {s : Bool} {e one other : Int} {ch : List Rw} : Zbc S0 s e one other ch ↔ Zbc L s e one other ch := by
  constructor
  · intro P
    refine ⟨fun x hx => ?_, P.hue, P.fst, P.nxt⟩
    rcases List.mem_append.1 (p.mem_iff.1 (P.mem x hx)) with w | w
    · exact w
    · obtain ⟨i, hi⟩ := List.getElem?_of_mem hx
      have := P.hue i x hi
      rw [List.mem_singleton.1 w] at this; cases this
  · intro P
    exact ⟨fun x hx => p.mem_iff.2 (List.mem_append_left _ (P.mem x hx)), P.hue, P.fst, P.nxt⟩
theorem Zn8 {S0 L : List Rw} {k l r : Int} (p : S0.Perm (L ++ [⟨k, l, r, none⟩])) {m : Nat} {s : Bool} {hue o : Int} {ch : List Rw} : Zkd S0 l r m s hue o ch ↔ Zkd L l r m s hue o ch := by
  unfold Zkd Zc2
  rw [Zcw fun k => Zge p, Zcw fun k => Zge p, Zlw p, Zge p]
theorem Zbf.toL {S0 S' L : List Rw} {k l r : Int} {m : Nat} {hue : Int} {other : Option Int} {nums : List Int} (h : Zbf S0 k l r m hue other nums S') (p : S0.Perm (L ++ [⟨k, l, r, none⟩])) (hk : ∀ x ∈ L, x.n ≠ k) : Znz L l r m hue other nums ∧ S'.Perm (Znl L k l r hue other nums) := by
  have hop : ∀ s e, Z0 S0 s e m = Z0 L s e m := fun s e => Zcw fun k => Zge p
  have fin : ∀ (f : Rw → Rw), (∀ x ∈ L, (f x).n ≠ k) → (f ⟨k, l, r, none⟩) = ⟨k, l, r, none⟩ → ((S0.map f).map (Wm k (some hue))).Perm (L.map f ++ [⟨k, l, r, some hue⟩]) := by
    intro f h1 h2
    have q := ((p.map f).map (Wm k (some hue)))
    rw [List.map_append, List.map_append] at q
    have e1 : (L.map f).map (Wm k (some hue)) = L.map f := by
      rw [List.map_map]
      refine List.map_congr_left fun x hx => ?_
      exact Y1 (h1 x hx)
    have e2 : (([⟨k, l, r, none⟩] : List Rw).map f).map (Wm k (some hue)) = [⟨k, l, r, some hue⟩] := by
      simp only [List.map_cons, List.map_nil, h2]
      unfold Wm; rw [if_pos rfl]
    rw [e1, e2] at q; exact q
  rcases h with ⟨rfl, rfl, h1, h2, rfl⟩ | ⟨hd, o, s, ch, rfl, rfl, h1, h2, hP, hD, rfl, hmin⟩
  · rw [hop] at h1 h2
    refine ⟨.inl ⟨rfl, rfl, h1, h2⟩, ?_⟩
    have e0 : ∀ (a b : Int) (x : Rw), Xz [] a b x = x := fun a b x => Xl (by simp)
    have := fin (Xz [] hue 0) (fun x hx => by rw [Zag]; exact hk x hx) (e0 _ _ _)
    unfold Ze8 Znl
    rwa [show (S0.map (Xz [] hue 0)) = S0 by rw [List.map_congr_left fun x _ => e0 hue 0 x]; exact List.map_id' _] at this
  · have hn : k ∉ ch.map Rw.n := fun z => by
      obtain ⟨x, hx, e⟩ := List.mem_map.1 z
      exact hk x (((Zlw p).1 hP).mem x hx) e
    refine ⟨.inr ⟨o, s, ch, rfl, rfl, fun h q => by have := hd h (by rw [hop]; exact q); rwa [hop] at this, (Zn8 p).1 ⟨h1, h2, hP, hD⟩, fun s' hue' o' ch' w => ?_⟩, ?_⟩
    · obtain ⟨w1, w2, w3, w4⟩ := (Zn8 p).2 w
      exact hmin s' hue' o' ch' w1 w2 w3 w4
    · exact fin (Xz (ch.map Rw.n) hue o) (fun x hx => by rw [Zag]; exact hk x hx) (Xl hn)
theorem Zlx {S L : List Rw} (p : S.Perm L) (hi : Inc S) (hp : Y4 S) (hh : ∀ x ∈ S, x.h ≠ none) (hf : L.length < 64) : OkL L :=
  ⟨(p.map Rw.n).nodup_iff.1 (Zg4 hi), hp.of_mem fun x hx => p.mem_iff.2 hx, fun x hx => hh x (p.mem_iff.2 hx), hf, S, p, hi⟩
theorem Zbc.perm {S L : List Rw} (p : S.Perm L) {s : Bool} {e one other : Int} {ch : List Rw} (P : Zbc L s e one other ch) : Zbc S s e one other ch := ⟨fun x hx => p.mem_iff.2 (P.mem x hx), P.hue, P.fst, P.nxt⟩
theorem OkL.len {L : List Rw} (ok : OkL L) {s : Bool} {e one other : Int} {ch : List Rw} (P : Zbc L s e one other ch) (hne : one ≠ other) (hf : Zas L s e one) : ch.length ≤ L.length := by
  obtain ⟨S, p, hi⟩ := ok.srt
  have := (P.perm p).len (ok.pr.of_mem fun x hx => p.mem_iff.1 hx) hi hne ((Zbk p.symm).2 hf)
  rw [p.length_eq] at this; exact this
theorem OkL.nodup {L : List Rw} (ok : OkL L) {s : Bool} {e one other : Int} {ch : List Rw} (P : Zbc L s e one other ch) (hne : one ≠ other) (hf : Zas L s e one) : (ch.map Rw.n).Nodup := by
  obtain ⟨S, p, hi⟩ := ok.srt
  exact (P.perm p).nodup (ok.pr.of_mem fun x hx => p.mem_iff.1 hx) hi hne ((Zbk p.symm).2 hf)
theorem OkL.unique {L : List Rw} (ok : OkL L) {s : Bool} {e one other : Int} {l l' : List Rw} (P : Zbc L s e one other l) (D : Zc2 L s e one other l) (P' : Zbc L s e one other l') (D' : Zc2 L s e one other l') : l = l' := by
  obtain ⟨S, p, hi⟩ := ok.srt
  exact (P.perm p).unique (ok.pr.of_mem fun x hx => p.mem_iff.1 hx) hi ((Zbk p.symm).2 D) (P'.perm p) ((Zbk p.symm).2 D')
theorem Zpm {σ : AH} {a : Addr} {kvs : List (List Int × V)} {ep : Nat} {ks : List Int} {Q : Bool → Prop} (h : σ a = some (.dictT kvs ep)) (q : Q (kvs.any fun kv => kv.1 == ks)) : inD (.tup (ks.map V.int)) (.ref a) σ Q := by
  simp only [inD, h]; exact ⟨ks, rfl, q⟩
theorem Zls (s : Bool) : (1 : Int) - sI s = sI (!s) := by cases s <;> rfl
theorem Zo4 {x : Rw} (s : Bool) : atV [V.int x.l, V.int x.r, V.int (hu x)] (sI s) = some (.int (x.e s)) := by
  cases s
  · exact Z8 (by decide) rfl
  · exact Z8 (by decide) rfl
theorem Zi8 {xs : List V} {x : V} : atV (xs ++ [x]) (-1) = some x := by
  have hl : (xs ++ [x]).length = xs.length + 1 := by simp
  have e : seqIndex? (-1) (xs ++ [x]).length = some xs.length := by
    rw [hl]
    unfold seqIndex?
    have e1 : (if (-1 : Int) < 0 then -1 + ((xs.length + 1 : Nat) : Int) else -1) = (xs.length : Int) := by rw [if_pos (by decide)]; exact Z0j
    simp only [e1]
    rw [if_pos (by simp; exact Z0i)]
    simp
  unfold atV
  rw [e]; simp
theorem Zal (l r : Int) (s : Bool) : atV [V.int l, V.int r] (sI s) = some (.int (Zar l r s)) := by
  cases s
  · exact Z8 (by decide) rfl
  · exact Z8 (by decide) rfl
theorem Zon {i : Nat} (h : i < 2) : ∃ s : Bool, (i : Int) = sI (!s) := by
  rcases (show i = 0 ∨ i = 1 by exact Zre h) with rfl | rfl
  · exact ⟨true, rfl⟩
  · exact ⟨false, rfl⟩
theorem Zgx {L : List Rw} {l r : Int} {m : Nat} (hd : Zmr L l r m) {s : Bool} {hue o : Int} (h1 : hue ∈ Z0 L (!s) (Zar l r (!s)) m) (h2 : o ∈ Z0 L s (Zar l r s) m) : o ≠ hue := Zgu hd h1 h2
theorem Znk {L : List Rw} {l r : Int} {m : Nat} (hd : Zmr L l r m) {s : Bool} {hue : Int} (h1 : hue ∈ Z0 L (!s) (Zar l r (!s)) m) : hue ∉ Z0 L s (Zar l r s) m := fun h2 => Zgu hd h1 h2 rfl
theorem Zku {L : List Rw} (ok : OkL L) {done : List Int} {a b : Int} {x : Rw} (hx : x ∈ L) (hn : x.n ∉ done) : Zfb (Yd (L.map (Xz done a b))) x.n (.tup [.int x.l, .int x.r, .int (a + b - hu x)]) = Yd (L.map (Xz (done ++ [x.n]) a b)) := by
  unfold Zfb
  rw [if_pos]
  · unfold Yd
    rw [List.map_map, List.map_map, List.map_map]
    refine List.map_congr_left fun y hy => ?_
    simp only [Function.comp_apply, Zag]
    by_cases z : y.n = x.n
    · have := ok.inj hy hx z
      subst this
      rw [if_pos rfl]
      congr 1
      have hh := Ztr (nums := done ++ [y.n]) (a := a) (b := b) (ok.hd y hy)
      rw [if_pos (by simp)] at hh
      unfold Zn2
      rw [hh]
      have e1 : (Xz (done ++ [y.n]) a b y).l = y.l := by unfold Xz; split <;> rfl
      have e2 : (Xz (done ++ [y.n]) a b y).r = y.r := by unfold Xz; split <;> rfl
      rw [e1, e2]
    · rw [if_neg z]
      congr 1
      unfold Xz
      by_cases w : y.n ∈ done
      · rw [if_pos w, if_pos (List.mem_append_left _ w)]
      · rw [if_neg w, if_neg (by simp [w, z])]
  · rw [List.any_eq_true]
    refine ⟨(x.n, Zn2 (Xz done a b x)), ?_, by simp⟩
    unfold Yd
    rw [List.map_map]
    exact List.mem_map.2 ⟨x, hx, by simp only [Function.comp_apply, Zag]⟩
theorem Zpt {L : List Rw} {a b : Int} : L.map (Xz [] a b) = L := by
  conv => rhs; rw [← List.map_id L]
  exact List.map_congr_left fun x _ => Xl (by simp)
theorem Zm5 {M : List Rw} {k l r hue : Int} (h : ∀ x ∈ M, x.n ≠ k) : Zfb (Yd M) k (.tup [.int l, .int r, .int hue]) = Yd (M ++ [⟨k, l, r, some hue⟩]) := by
  unfold Zfb
  rw [if_neg]
  · unfold Yd; rw [List.map_append]; rfl
  · rw [List.any_eq_true]
    rintro ⟨p, hp, w⟩
    obtain ⟨x, hx, rfl⟩ := List.mem_map.1 hp
    exact h x hx (of_decide_eq_true w)
noncomputable def Zrj (k : Int) (x : Rw) : List V := if x.n = k then [] else [.int (hu x)]
theorem Zpc {L : List Rw} {k l r : Int} (h : ∀ x ∈ L, x.n ≠ k) : (Zfb (Yd L) k (.tup [.int l, .int r])).map (·.2) = (L ++ [(⟨k, l, r, none⟩ : Rw)]).map (Zqx (Zrj k)) := by
  unfold Zfb
  rw [if_neg]
  · rw [List.map_append, List.map_append]
    congr 1
    · unfold Yd
      rw [List.map_map]
      refine List.map_congr_left fun x hx => ?_
      simp only [Function.comp_apply, Zqx, Zrj, if_neg (h x hx), Zn2]
    · simp [Zqx, Zrj]
  · rw [List.any_eq_true]
    rintro ⟨p, hp, w⟩
    obtain ⟨x, hx, rfl⟩ := List.mem_map.1 hp
    exact h x hx (of_decide_eq_true w)
theorem Zdd (L : List Rw) : (Yd L).map (·.2) = L.map (Zqx fun x => [.int (hu x)]) := by
  unfold Yd; rw [List.map_map]; rfl
theorem Wk (L : List Rw) : (Yd L).length = L.length := by simp [Yd]
theorem Znz.nums {L : List Rw} (ok : OkL L) {l r : Int} {m : Nat} {hue : Int} {other : Option Int} {nums : List Int} (h : Znz L l r m hue other nums) : nums.Nodup ∧ (∀ n ∈ nums, ∃ x ∈ L, x.n = n) ∧ nums.length ≤ L.length ∧ (nums ≠ [] → ∃ o, other = some o) := by
  rcases h with ⟨_, rfl, _⟩ | ⟨o, s, ch, rfl, rfl, hd, ⟨h1, h2, hP, hD⟩, _⟩
  · exact ⟨List.nodup_nil, fun _ h => absurd h (by simp), by simp, fun h => absurd rfl h⟩
  · have hne := Zgx hd h1 h2
    have hf := (Wg.1 h2).2
    refine ⟨ok.nodup hP hne hf, fun n hn => ?_, by rw [List.length_map]; exact ok.len hP hne hf, fun _ => ⟨o, rfl⟩⟩
    obtain ⟨x, hx, rfl⟩ := List.mem_map.1 hn
    exact ⟨x, hP.mem x hx, rfl⟩
inductive Zqm (xs : List V) (σ : AH) (Q : V → AH → Prop) : Prop
  | mk (c a b k : Int) (ed : Addr) (kvs : List (Int × V)) (L : List Rw) (tl : Rw → List V) (ep : Nat) (h0 : xs = [.int c, .tup [.int a, .int b, .int k], .ref ed]) (h1 : σ ed = some (.dictI kvs ep)) (h2 : kvs.map (·.2) = L.map (Zqx tl)) (h3 : 1 ≤ a) (h4 : a ≤ 8) (h5 : 1 ≤ b) (h6 : b ≤ 8) (h7 : ∀ l r, 0 ≤ l → l < a → 0 ≤ r → r < b → Q (.tup [.int l, .int r]) σ) : Zqm xs σ Q
noncomputable def Zo0 : TF := fun xs σ Q _ => Zqm xs σ Q
inductive Zqn (xs : List V) (σ : AH) (Q : V → AH → Prop) : Prop
  | mk (c a b k mx : Int) (ed : Addr) (kvs : List (Int × V)) (L : List Rw) (tl : Rw → List V) (ep : Nat) (h0 : xs = [.int c, .tup [.int a, .int b, .int k], .ref ed, .int mx]) (h1 : σ ed = some (.dictI kvs ep)) (h2 : kvs.map (·.2) = L.map (Zqx tl)) (h3 : 1 ≤ a) (h4 : a ≤ 8) (h5 : 1 ≤ b) (h6 : b ≤ 8) (h7 : (kvs.length : Int) ≤ mx) (h8 : 1 ≤ mx ∧ mx < 64)
    (h9 : ∀ n ∈ kvs.map (·.1), Q (.tup [.str goS, .int n]) σ) (h10 : (kvs.length : Int) < mx → ∀ l r, 0 ≤ l → l < a → 0 ≤ r → r < b → Q (.tup [.str Znv, .int l, .int r]) σ) : Zqn xs σ Q
noncomputable def Zo1 : TF := fun xs σ Q _ => Zqn xs σ Q
end
section
open PySem PySem.W PyProof.Rows
inductive Zqi (C : Addr) (xs : List V) (σ : AH) (Q : V → AH → Prop) : Prop
  | mk (x : Addr) (D : HD) (t : Rw × Addr) (h0 : xs = [.ref x, .int t.1.n]) (h1 : t ∈ D.T) (h2 : Zu σ C x D) (h3 : Inc D.S) (h4 : Q (Zjb t.1.h) σ) : Zqi C xs σ Q
noncomputable def Zox (C : Addr) : TF := fun xs σ Q _ => Zqi C xs σ Q
noncomputable def Zf7 (x : Rw) : List Int := [x.n, x.l, x.r, hu x]
theorem Zup {x : Rw} (h : x.h ≠ none) : Zuo x = Zet (Zf7 x) := by
  unfold Zuo Zet Zf7
  rw [Zdk h]; rfl
theorem Zte {S : List Rw} (h : ∀ x ∈ S, x.h ≠ none) : S.map Zuo = (S.map Zf7).map Zet := by
  rw [List.map_map]
  exact List.map_congr_left fun x hx => Zup (h x hx)
theorem Zgh.hued {D : HD} {m : Nat} (W : Zgh D m) : ∀ y ∈ D.S, y.h ≠ none := fun y hy => by obtain ⟨h, e, _⟩ := W.good.hues y hy; rw [e]; simp
theorem Zgh.okL {D : HD} {m : Nat} (W : Zgh D m) {L : List Rw} (p : D.S.Perm L) (h64 : D.T.length < 64) : OkL L :=
  Zlx p W.good.inc W.good.proper W.hued (by rw [← p.length_eq]; simpa [HD.S] using h64)
theorem Zfu {σ : AH} {a : Addr} {kvs : List (Int × V)} {ep : Nat} {ms : List Int} (ha : σ a = some (.dictI kvs ep)) (hp : (kvs.map (·.1)).Perm ms) (hi : ms.Pairwise (· < ·)) (h64 : kvs.length < 64) {Q : V → AH → Prop} {E : Addr → AH → Prop} (h : ∀ b, σ b = none → Q (.ref b) (σ.set b (.list (ms.map V.int)))) : Zcn [.ref a] σ Q E := by
  simp only [Zcn, Zdv, ha]
  refine ⟨by simpa using h64, fun ns' b hp' hs hb => ?_⟩
  rw [Zcv (hp'.trans hp) hs hi]
  exact h b hb
theorem Zgw {S : List Rw} (hi : Inc S) : (S.map Rw.n).Pairwise (· < ·) := by rw [List.pairwise_map]; exact hi.imp fun h => h
theorem Zlc {D D' : HD} {m m' : Nat} {l r hue : Int} {other : Option Int} {nums : List Int} {L : List Rw} (W : Zgh D m) (W' : Zgh D' m') (ha : D'.a = D.a) (hb : D'.b = D.b) (hsk : D'.S.map sk = D.S.map sk ++ [(D.nx, l, r)]) (hH : Zbf (D.S ++ [⟨D.nx, l, r, none⟩]) D.nx l r m' hue other nums D'.S) (p : D.S.Perm L) :
    Znz L l r m' hue other nums ∧ D'.S.Perm (Znl L D.nx l r hue other nums) ∧ InR (L ++ [⟨D.nx, l, r, none⟩]) D.a D.b ∧ W7 (L ++ [⟨D.nx, l, r, none⟩]) D.a D.b m' ∧ ∀ x ∈ L, x.n ≠ D.nx := by
  have hk : ∀ x ∈ L, x.n ≠ D.nx := fun x hx => by have := W.below x (p.mem_iff.2 hx); exact Zrf this
  have p' : (D.S ++ [(⟨D.nx, l, r, none⟩ : Rw)]).Perm (L ++ [(⟨D.nx, l, r, none⟩ : Rw)]) := p.append_right _
  have hsk' : (D.S ++ [(⟨D.nx, l, r, none⟩ : Rw)]).map sk = D'.S.map sk := by rw [hsk, List.map_append]; rfl
  obtain ⟨h1, h2⟩ := hH.toL p' hk
  have hin := Zpl hsk' W'.good.inr
  have hcn := Zvs hsk' W'.good.cnt
  rw [ha, hb] at hin hcn
  exact ⟨h1, h2, fun x hx => hin x (p'.mem_iff.2 hx), (Zfj p'.symm).1 hcn, hk⟩
end
section
open PySem PySem.W PyProof.Rows
theorem Zbf.tag {S S' : List Rw} {k l r : Int} {m : Nat} {hue : Int} {other : Option Int} {nums : List Int} (h : Zbf (S.map (Wm k none)) k l r m hue other nums S') (hp : Y4 S) (hi : Inc S) {t : Rw} (ht : t ∈ S) (hk : t.n = k) (hl : t.l = l) (hr : t.r = r) :
    ∀ y ∈ S', y.n ≠ k → ∃ y0 ∈ S, y0.n = y.n ∧ (y.h == some (m : Int)) = (y0.h == some (m : Int)) := by
  have hp1 : Y4 (S.map (Wm k none)) := Wu hp
  have hi1 : Inc (S.map (Wm k none)) := Zcx (fun _ => Wv) hi
  rcases h with ⟨_, _, h1, h2, rfl⟩ | ⟨hd, o, s, ch, _, rfl, h1, h2, hP, hD, rfl, _⟩
  · intro y hy hyk
    obtain ⟨y1, hy1, rfl⟩ := List.mem_map.1 hy
    obtain ⟨y0, hy0, rfl⟩ := List.mem_map.1 hy1
    rw [Wv, Wv] at hyk
    rw [Y1 (x := y0) hyk, Y1 hyk]
    exact ⟨y0, hy0, rfl, rfl⟩
  · have m1 := Wg.1 h1
    have m2 := Wg.1 h2
    have he : ∀ b, (Wm k none t).e b = Zar l r b := fun b => by rw [Zhv]; cases b <;> simp [Rw.e, Zar, hl, hr]
    have W : Way (S.map (Wm k none)) k m hue o ch := ⟨⟨s, Wm k none t, List.mem_map.2 ⟨t, ht, rfl⟩, by rw [Wv, hk], Zai hk, by rw [he]; exact hP, by rw [he]; exact hD, by rw [he]; exact m2.2, by rw [he]; exact m1.2⟩, Zgu hd h1 h2, m1.1, m2.1⟩
    intro y hy hyk
    obtain ⟨y1, hy1, rfl⟩ := List.mem_map.1 hy
    obtain ⟨y2, hy2, rfl⟩ := List.mem_map.1 hy1
    obtain ⟨y0, hy0, rfl⟩ := List.mem_map.1 hy2
    rw [Wv, Zag, Wv] at hyk
    rw [Y1 (x := y0) hyk, Y1 (by rw [Zag]; exact hyk)]
    refine ⟨y0, hy0, by rw [Zag], ?_⟩
    by_cases w : y0.n ∈ ch.map Rw.n
    · obtain ⟨x, hx, e⟩ := List.mem_map.1 w
      have hxS := (W.nodup hp1 hi1).2.1 x hx
      have hy0' : y0 ∈ S.map (Wm k none) := List.mem_map.2 ⟨y0, hy0, Y1 hyk⟩
      have := hi1.inj hxS hy0' e
      subst this
      have key : ∀ a : Int, 0 ≤ a ∧ a < m → (some a == some (m : Int)) = false := fun a ha => by
        rw [beq_eq_false_iff_ne]; intro q; have := Option.some.inj q; exact Z0h ha this
      unfold Xz
      rw [if_pos w]
      rcases W.chainHue hx with q | q
      · simp only [q, Option.map_some]
        rw [key _ m1.1, key _ (by have := m2.1; omega)]
      · simp only [q, Option.map_some]
        rw [key _ m2.1, key _ (by have := m1.1; omega)]
    · rw [Xl w]
inductive Zv0 (C : Addr) (xs : List V) (σ : AH) (Q : V → AH → Prop) : Prop
  | mk (x : Addr) (D : HD) (m : Nat) (t : Rw × Addr) (h0 : xs = [.ref x, .int t.1.n]) (h1 : t ∈ D.T) (h2 : Zu σ C x D) (h3 : Zgh D m) (h4 : D.T.length < 64) (h5 : ∀ σ' D' m' b log, Zu σ' C x D' → Zgh D' m' → Frm σ σ' D D' → D'.S.map sk = (drp t.1.n D.S).map sk → W7 (drp t.1.n D.S) D.a D.b m' → Zlk m' (drp t.1.n D.S) log D'.S → log.map Zdo.k = ((drp t.1.n D.S).filter fun x => x.h == some (m' : Int)).map Rw.n → σ b = none → ¬ D'.foot b → σ' b = some (.list (log.map Zdo.v)) → (∀ e ∈ log, σ' e.c = some (.list (e.nums.map V.int)) ∧ σ e.c = none ∧ ¬ D'.foot e.c) → Q (.ref b) σ') : Zv0 C xs σ Q
noncomputable def Zwj (C : Addr) : TF := fun xs σ Q _ => Zv0 C xs σ Q
end
section
open PySem PySem.W PyProof.Rows
variable {g : Gr} {sc csc : Scope} {r : Nat} {c : Bool} {K : Frag}
noncomputable def Zmt : List V → List V → List V
  | x :: xs, y :: ys => .tup [x, y] :: Zmt xs ys
  | _, _ => []
theorem Zlm : ∀ {xs ys : List V} {k : Nat} {v : V}, (Zmt xs ys)[k]? = some v → ∃ x y, xs[k]? = some x ∧ ys[k]? = some y ∧ v = .tup [x, y]
  | [], ys, k, v, h => by simp [Zmt] at h
  | x :: xs, [], k, v, h => by simp [Zmt] at h
  | x :: xs, y :: ys, 0, v, h => by simp [Zmt] at h; exact ⟨x, y, rfl, rfl, h.symm⟩
  | x :: xs, y :: ys, k + 1, v, h => by simp [Zmt] at h; simpa using Zlm h
theorem Zln : ∀ {xs ys : List V} {k : Nat}, (Zmt xs ys).length ≤ k → xs.length ≤ k ∨ ys.length ≤ k
  | [], ys, k, h => .inl (by simp)
  | x :: xs, [], k, h => .inr (by simp)
  | x :: xs, y :: ys, 0, h => by simp [Zmt] at h
  | x :: xs, y :: ys, k + 1, h => by
    simp [Zmt] at h
    rcases Zln h with q | q
    · exact .inl (by simp; exact Zwp q)
    · exact .inr (by simp; exact Zwp q)
theorem Zpk (a b z TI TO i1 i2 : Addr) (xs ys : List V) (D : ZipApart z TI TO i1 i2 a b) (hTI : g.hid TI) (hTO : g.hid TO) :
    Zhj g (Zmt xs ys) (fun σ => σ a = some (.list xs) ∧ σ b = some (.list ys)) z (fun c => c = z ∨ c = TI ∨ c = TO ∨ c = i1 ∨ c = i2)
      (fun k h => IsZip h z TI TO .none ∧ IsPair h TI (.ref i1) (.ref i2) ∧ (∃ p q, IsPair h TO p q) ∧ h.IsListIter i1 a k ∧ h.IsListIter i2 b k) true where
  stab := fun k h h' st _ kp => ⟨kp z _ (.inl rfl) st.1, kp TI _ (.inr (.inl rfl)) st.2.1, let ⟨p, q, e⟩ := st.2.2.1; ⟨p, q, kp TO _ (.inr (.inr (.inl rfl))) e⟩, st.2.2.2.1.at fun o e => kp i1 o (.inr (.inr (.inr (.inl rfl)))) e, st.2.2.2.2.at fun o e => kp i2 o (.inr (.inr (.inr (.inr rfl)))) e⟩
  flds := fun k h y st e => by
    obtain ⟨s1, s2, ⟨p, q, s3⟩, ⟨o4, h4, _, d4⟩, ⟨o5, h5, _, d5⟩⟩ := st
    rcases e with rfl | rfl | rfl | rfl | rfl
    · exact ⟨_, s1, .inr ⟨_, rfl⟩⟩
    · exact ⟨_, s2, .inl ⟨hTI, _, _, rfl⟩⟩
    · exact ⟨_, s3, .inl ⟨hTO, _, _, rfl⟩⟩
    · exact ⟨_, h4, .inr ⟨_, d4⟩⟩
    · exact ⟨_, h5, .inr ⟨_, d5⟩⟩
  self := fun k A E s Q st h => wpAny_pyIter_zip st.1 h
  item := fun k x A E s σ target Q hx st R iv off tp h => by
    obtain ⟨es, m, p, rfl⟩ := tp rfl
    obtain ⟨u, w, hu, hw, rfl⟩ := Zlm hx
    obtain ⟨hf1, vs, n, ho, hv⟩ := (R.own a _ iv.1).2
    obtain ⟨hf2, vs', n', ho', hv'⟩ := (R.own b _ iv.2).2
    obtain ⟨s1, s2, ⟨p1, q1, s3⟩, s4, s5⟩ := id st
    obtain ⟨uv, eu, hus⟩ := Zfa hv hu
    obtain ⟨wv, ew, hws⟩ := Zfa hv' hw
    obtain ⟨o4, h4, _, d4⟩ := id s4
    obtain ⟨o5, h5, _, d5⟩ := id s5
    refine wpAny_pyNext_zip_item D s1 s2 s3 s4 s5 ⟨_, ho, rfl, n, rfl⟩ ⟨_, ho', rfl, n', rfl⟩ eu ew fun h' a1 a2 a3 a4 a5 a6 kp => ?_
    refine wpAny_letOwnedTupleGo_zip a1 fun h'' hz'' sb => ?_
    have kb : Zbz (fun c => c = z ∨ c = TI ∨ c = TO ∨ c = i1 ∨ c = i2) s.heap h'' := fun y o nb eb => sb.extBut y o (fun q => nb (.inl q)) (kp y o (fun q => nb (.inl q)) (fun q => nb (.inr (.inr (.inl q)))) (fun q => nb (.inr (.inr (.inr (.inl q))))) (fun q => nb (.inr (.inr (.inr (.inr q))))) eb)
    have tk : Y2 g s.heap h'' := fun y o xs' n'' nh eb cl d => by
      refine .of (kb y o ?_ eb)
      rintro (rfl | rfl | rfl | rfl | rfl)
      · rw [s1] at eb; cases eb; cases d
      · exact nh hTI
      · exact nh hTO
      · rw [h4] at eb; cases eb; rw [d4] at d; cases d
      · rw [h5] at eb; cases eb; rw [d5] at d; cases d
    have ez : s.heap.objs.size ≠ z := Nat.ne_of_gt (Heap.lt_size s1)
    refine h _ _ kb ⟨rfl, rfl, rfl⟩ ⟨hz'', sb.extBut _ _ D.TIz (kp _ _ D.TIz D.TITO D.TIi1 D.TIi2 s2), ⟨_, _, sb.extBut _ _ D.TOz a2⟩, a3.extBut sb.extBut D.i1z, a4.extBut sb.extBut D.i2z⟩ ?_
    refine Wq.mpr ⟨Yh rfl, _, _, _, _, rfl, fun nh => ?_, sb.extBut _ _ ez a5, rfl, rfl, ?_⟩
    · obtain ⟨o', eo⟩ := R.hid _ nh; rw [Z4] at eo; cases eo
    · exact Ys (VR.mono tk hus) (Ys (VR.mono tk hws) Xq)
  last := fun k A E s σ Q hk hh st R iv off h => by
    obtain ⟨hf1, vs, n, ho, hv⟩ := (R.own a _ iv.1).2
    obtain ⟨hf2, vs', n', ho', hv'⟩ := (R.own b _ iv.2).2
    obtain ⟨s1, s2, ⟨p1, q1, s3⟩, s4, s5⟩ := id st
    have hend : vs[k]? = none ∨ vs'[k]? = none := by
      rcases Zln hk with q | q
      · exact .inl (Ze9 hv q)
      · exact .inr (Ze9 hv' q)
    exact wpAny_pyNext_zip_end hh D s1 s2 s3 s4 s5 ⟨_, ho, rfl, n, rfl⟩ ⟨_, ho', rfl, n', rfl⟩ hend fun h' kp => h { s with heap := h' } (fun y o nb eb => kp y o (fun q => nb (.inl q)) (fun q => nb (.inr (.inr (.inl q)))) (fun q => nb (.inr (.inr (.inr (.inl q))))) (fun q => nb (.inr (.inr (.inr (.inr q))))) eb) ⟨rfl, rfl, rfl⟩
noncomputable def Zoe (t : Tgt) (t₁ t₂ : TE) (tb : TS) : TS := fun ℓ σ Q E => t₁ ℓ σ (fun x σ₁ => t₂ ℓ σ₁ (fun y σ₂ => ∃ a b xs ys, x = .ref a ∧ y = .ref b ∧ σ₂ a = some (.list xs) ∧ σ₂ b = some (.list ys) ∧ Zbh t (fun σ => σ a = some (.list xs) ∧ σ b = some (.list ys)) tb (Zmt xs ys) ℓ σ₂ Q E) fun C σ' => E C ℓ σ') fun C σ' => E C ℓ σ'
theorem LR.keeps {h h' : Heap} {σ : AH} {env : Env} {ℓ : Loc} (L : LR g h σ env ℓ) (kp : ∀ a o, h.get? a = some o → h'.get? a = some o) : LR g h' σ env ℓ :=
  Zbx.loc (fp := No) ⟨fun _ q => q.elim, fun _ q => q.elim, fun _ q => q.elim⟩ L (fun b o _ e => kp b o e) fun _ q => q.elim
theorem Zn7 {n a b : Nat} (ha : a < n) (hb : b < n) : ZipApart (n + 4) (n + 2) (n + 3) n (n + 1) a b := by
  constructor <;> (intro q; have q : (_ : Nat) = _ := q; omega)
theorem Zkp {e₁ e₂ target : Expr} {body : List Stmt} {p pos' pos : Pos} {t : Tgt} {t₁ t₂ : TE} {tb : TS} (hm : (Str.ofString "zip", NameKind.globalImplicit) ∈ sc.names) (hk : Wn g "zip" (.type "zip")) (h1 : Xy g sc r true e₁ t₁) (h2 : Xy g sc r true e₂ t₂) (hs1 : Zfy e₁ = false) (hs2 : Zfy e₂ = false)
    (ht : Zja sc target t) (htup : t.isTup = true) (hb : ∀ H, Zhc (g.wh H) sc r true body tb) (hf : ∀ env x, foldedSetIterable (.Call (.Name (Str.ofString "zip") p) [e₁, e₂] [] pos') env x = pure x) :
    Zmk g sc r true (.For target (.Call (.Name (Str.ofString "zip") p) [e₁, e₂] [] pos') body [] pos) (Zoe t t₁ t₂ tb) := .mk fun A env s ℓ σ Q E X h => by
  refine wpAny_For ?_ (hf env)
  show wpAny _ A (do callWith pos' (← eval (.Name (Str.ofString "zip") p) env) [] (backTo pos' (starEach [e₁, e₂] env)) (backToKw pos' (keywordEach [] env))) _ _ s
  refine wpAny_bind (X7 X hm hk ?_)
  rw [Xe env hs1, Xe (es := []) env hs2]
  refine X8 (.inr (.inr ⟨_, rfl⟩)) rfl ?_
  show wpAny _ A (spliced [(false, eval e₁ env), (false, eval e₂ env)]) _ _ s
  refine Calls.spliced_cons (wpAny_mono (h1.run A env s ℓ σ _ _ X h) (fun v s₁ q => ?_) fun _ _ q => q.toS X)
  refine Za3.elim q fun x σ₁ hv hR hx hsa hq => ?_
  have X1 := X.step hR hx
  refine Calls.spliced_cons (wpAny_mono (h2.run A env s₁ ℓ σ₁ _ _ X1 hq) (fun w s₂ q => ?_) fun _ _ q => Zam.back hx.own hsa (q.toS X1))
  obtain ⟨y, σ₂, hw, hR2, hx2, hsb, a, b, xs, ys, rfl, rfl, ea, eb, hl⟩ := q
  have X2 := X1.step hR2 hx2
  refine Calls.spliced_nil ⟨fun a o e => hR2.base a o e, ?_⟩
  rw [Yi.mp hv, Yi.mp hw]
  obtain ⟨hf1, us, n, ho, hvs⟩ := (hR2.own a _ ea).2
  obtain ⟨hf2, us', n', ho', hvs'⟩ := (hR2.own b _ eb).2
  refine call_zip_2 ⟨_, ho, rfl, n, rfl⟩ ⟨_, ho', rfl, n', rfl⟩ fun h' hz hTI hTO hi1 hi2 hsz kp => ?_
  refine wpAny_pyIter_zip hz ?_
  have fr : ∀ c, s₂.heap.objs.size ≤ c → s₂.heap.get? c = none := fun c hc => Heap.get?_none_of_le hc
  have hx02 : Ext No s.heap σ s₂.heap σ₂ := hx.trans hx2
  let H : Addr → Prop := fun c => g.hid c ∨ c = s₂.heap.objs.size + 2 ∨ c = s₂.heap.objs.size + 3
  have hk' : ∀ c o, s₂.heap.get? c = some o → H c → g.hid c := fun c o e q => by
    rcases q with q | q | q
    · exact q
    · rw [q, fr _ (by exact Z0g)] at e; cases e
    · rw [q, fr _ (by exact Z0f)] at e; cases e
  have hp : ∀ c, H c → ∃ o, h'.get? c = some o := fun c q => by
    rcases q with q | q | q
    · obtain ⟨o, e⟩ := hR2.hid c q; exact ⟨o, kp c o e⟩
    · rw [q]; exact ⟨_, hTI⟩
    · rw [q]; exact ⟨_, hTO⟩
  have hR' : Rel (g.wh H) h' σ₂ := Rel.more hk' hR2 kp hp
  have hL' : LR (g.wh H) h' σ₂ env ℓ := LR.keeps (LR.more hk' X2.loc) kp
  refine Zma (H := H) (s₂ := { s₂ with heap := h' }) (fun _ q => .inl q) X (Zpk (g := g.wh H) a b _ _ _ _ _ xs ys (Zn7 (Heap.lt_size ho) (Heap.lt_size ho')) (.inr (.inl rfl)) (.inr (.inr rfl))) ⟨hz, hTI, ⟨_, _, hTO⟩, hi1, hi2⟩ hL' hR' (hx02.trans (.keeps kp)) ((hsa.trans hsb).trans ⟨rfl, rfl, rfl⟩) (fun c q => ?_) (fun _ => htup) hl ht (hb H)
  have hc : s₂.heap.get? c = none := by
    rcases q with q | q | q | q | q <;> (rw [q]; first | exact fr _ (Nat.le_add_right _ _) | exact fr _ (Nat.le_refl _))
  refine ⟨?_, hR2.fresh hc⟩
  cases e : s.heap.get? c with
  | none => rfl
  | some o => obtain ⟨o', e'⟩ := hx02.pres _ o e; rw [hc] at e'; cases e'
inductive Zhl (m : Nat) : List Rw → List Zdo → List Rw → Prop
  | nil {S : List Rw} : Zhl m S [] S
  | cons {S S1 S2 : List Rw} {log : List Zdo} {e : Zdo} {t : Rw} : t ∈ S → t.n = e.k → t.h = some (m : Int) → Zbf (S.map (Wm e.k none)) e.k t.l t.r m e.hue e.other e.nums S1 → Zhl m S1 log S2 → Zhl m S (e :: log) S2
theorem Zhl.snoc {m : Nat} {S S1 S2 : List Rw} {log : List Zdo} {e : Zdo} {t : Rw} (h : Zhl m S log S1) (ht : t ∈ S1) (hk : t.n = e.k) (hh : t.h = some (m : Int)) (hH : Zbf (S1.map (Wm e.k none)) e.k t.l t.r m e.hue e.other e.nums S2) : Zhl m S (log ++ [e]) S2 := by
  induction h with
  | nil => exact .cons ht hk hh hH .nil
  | cons a b c d _ ih => exact .cons a b c d (ih ht hH)
theorem Zlk.run {m : Nat} {S S' : List Rw} {log : List Zdo} (h : Zlk m S log S') : Zhl m S log S' := by
  induction h with
  | nil => exact .nil
  | snoc _ ht hk hh hH ih => exact ih.snoc ht hk hh hH
structure StS (S : List Rw) : Prop where
  inc : Inc S
  pr : Y4 S
  hd : ∀ x ∈ S, x.h ≠ none
theorem StS.next {m : Nat} {S S1 : List Rw} {e : Zdo} {t : Rw} (st : StS S) (ht : t ∈ S) (hk : t.n = e.k) (hH : Zbf (S.map (Wm e.k none)) e.k t.l t.r m e.hue e.other e.nums S1) : StS S1 ∧ S1.length = S.length := by
  have hx : Wm e.k none t ∈ S.map (Wm e.k none) := List.mem_map.2 ⟨t, ht, rfl⟩
  have el : (Wm e.k none t).l = t.l := by unfold Wm; split <;> rfl
  have er : (Wm e.k none t).r = t.r := by unfold Wm; split <;> rfl
  have H := hH.hued (Wu st.pr) (Zcx (fun _ => Wv) st.inc) hx (by rw [Wv, hk]) (Zai hk) el er
  refine ⟨⟨H.inc, H.proper, fun y hy => ?_⟩, ?_⟩
  · rcases H.hues y hy with ⟨h, q, _⟩ | ⟨q, w⟩
    · rw [q]; simp
    · obtain ⟨z, hz, rfl⟩ := List.mem_map.1 q
      rw [Wv] at w
      rw [Y1 w]; exact st.hd z hz
  · have := congrArg List.length H.sk
    simpa using this
theorem Znq {L : List Rw} (hn : (L.map Rw.n).Nodup) {t : Rw} (ht : t ∈ L) : (L.filter fun x => !(x.n != t.n)) = [t] := by
  induction L with
  | nil => cases ht
  | cons y L ih =>
    rw [List.map_cons, List.nodup_cons] at hn
    rcases List.mem_cons.1 ht with rfl | w
    · rw [List.filter_cons_of_pos (by simp), List.filter_eq_nil_iff.2]
      intro x hx q
      have : x.n = t.n := by simpa using q
      exact hn.1 (by rw [← this]; exact List.mem_map.2 ⟨x, hx, rfl⟩)
    · rw [List.filter_cons_of_neg, ih hn.2 w]
      intro q
      have : y.n = t.n := by simpa using q
      exact hn.1 (by rw [this]; exact List.mem_map.2 ⟨t, w, rfl⟩)
theorem Zo8 {S L : List Rw} (p : S.Perm L) (hn : (L.map Rw.n).Nodup) {t : Rw} (ht : t ∈ L) : (S.map (Wm t.n none)).Perm (drp t.n L ++ [⟨t.n, t.l, t.r, none⟩]) := by
  have h1 : (drp t.n L ++ L.filter fun x => !(x.n != t.n)).Perm L := List.filter_append_perm _ _
  rw [Znq hn ht] at h1
  have h2 := (p.trans h1.symm).map (Wm t.n none)
  rw [List.map_append] at h2
  have e1 : (drp t.n L).map (Wm t.n none) = drp t.n L := by
    conv => rhs; rw [← List.map_id (drp t.n L)]
    refine List.map_congr_left fun x hx => ?_
    have := (List.mem_filter.1 hx).2
    exact Y1 (by simpa using this)
  have e2 : ([t] : List Rw).map (Wm t.n none) = [⟨t.n, t.l, t.r, none⟩] := by simp [Wm]
  rw [e1, e2] at h2
  exact h2
theorem Zgs (L : List Rw) (k : Int) : ((Yd L).filter fun kv => decide (kv.1 ≠ k)) = Yd (drp k L) := by
  unfold Yd drp
  rw [List.filter_map]
  congr 1
  refine List.filter_congr fun x _ => ?_
  simp only [Function.comp_apply]
  rw [Bool.eq_iff_iff]; simp
theorem Zs1 (log : List Zdo) : Zmt ((log.map Zdo.k).map V.int) (log.map Zdo.v) = log.map fun e => .tup [.int e.k, e.v] := by
  induction log with
  | nil => rfl
  | cons e log ih => simp only [List.map_cons, Zmt, ih]
inductive Zss (xs : List V) (σ : AH) (Q : V → AH → Prop) : Prop
  | mk (rd tb : Addr) (L S0 S' : List Rw) (ep : Nat) (k a b : Int) (m : Nat) (log : List Zdo) (h0 : xs = [.ref rd, .ref tb, .int k]) (h1 : σ rd = some (.dictI (Yd L) ep)) (h2 : (L.map Rw.n).Nodup) (h3 : L.length < 60) (h4 : (∃ x ∈ L, x.n = k)) (h5 : S0.Perm (drp k L)) (h6 : StS S0) (h7 : InR S0 a b) (h8 : W7 S0 a b m) (h9 : (∀ x ∈ S0, hu x ≤ m)) (h10 : Zhl m S0 log S') (h11 : log.map Zdo.k = (S0.filter fun x => x.h == some (m : Int)).map Rw.n) (h12 : σ tb = some (.list (log.map Zdo.v))) (h13 : (∀ e ∈ log, σ e.c = some (.list (e.nums.map V.int)))) (h14 : ∀ b ep' L', S'.Perm L' → σ b = none → Q (.ref b) (σ.set b (.dictI (Yd L') ep'))) : Zss xs σ Q
noncomputable def Ztb : TF := fun xs σ Q _ => Zss xs σ Q
end
section
open PySem PySem.W PyProof.Rows
noncomputable def Zqu {α : Type} (R : α → V → Prop) : List α → List V → Prop
  | [], ys => ys = []
  | x :: xs, ys => ∃ y r, ys = y :: r ∧ R x y ∧ Zqu R xs r
theorem Zqu.mono {α : Type} {R R' : α → V → Prop} (k : ∀ x y, R x y → R' x y) : ∀ {xs : List α} {ys : List V}, Zqu R xs ys → Zqu R' xs ys
  | [], _, h => h
  | _ :: _, _, ⟨y, r, e, h1, h2⟩ => ⟨y, r, e, k _ _ h1, Zqu.mono k h2⟩
theorem Zqu.snoc {α : Type} {R : α → V → Prop} : ∀ {xs : List α} {ys : List V} {x : α} {y : V}, Zqu R xs ys → R x y → Zqu R (xs ++ [x]) (ys ++ [y])
  | [], ys, x, y, h, q => by cases h; exact ⟨y, [], rfl, q, rfl⟩
  | _ :: _, _, x, y, ⟨z, r, e, h1, h2⟩, q => ⟨z, r ++ [y], by rw [e]; rfl, h1, Zqu.snoc h2 q⟩
theorem Zka {α : Type} {t : Tgt} {inv : AH → Prop} {telt : TE} {ℓ : Loc} {σ : AH} {Q : List V → AH → Prop} {E : Addr → AH → Prop} (f : α → V) (R : α → V → AH → Prop) (hm : ∀ x y σ σ', Sub σ σ' → R x y σ → R x y σ') (hinv : ∀ σ', Sub σ σ' → inv σ') :
    ∀ (xs pre : List α) (acc : List V) (σ₀ : AH), Sub σ σ₀ → Zqu (fun x y => R x y σ₀) pre acc → (∀ x ∈ xs, ∃ ℓ₁, (∀ σ', Sub σ σ' → ∀ P : Loc → Prop, P ℓ₁ → Xd t (f x) ℓ.bare σ' P) ∧ ∀ σ', Sub σ σ' → ∀ Qv : V → AH → Prop, (∀ y σ₃, Sub σ' σ₃ → R x y σ₃ → Qv y σ₃) → telt ℓ₁ σ' Qv E) →
      (∀ ys σ', Sub σ σ' → Zqu (fun x y => R x y σ') (pre ++ xs) ys → Q ys σ') → Ze5 t inv (Wd true) telt ℓ (xs.map f) acc σ₀ Q E
  | [], pre, acc, σ₀, h0, ha, _, h => ⟨hinv σ₀ h0, h acc σ₀ h0 (by simpa using ha)⟩
  | x :: xs, pre, acc, σ₀, h0, ha, hs, h => by
    obtain ⟨ℓ₁, h1, h2⟩ := hs x (.head _)
    refine ⟨hinv σ₀ h0, h1 σ₀ h0 _ ?_⟩
    show telt ℓ₁ σ₀ _ E
    refine h2 σ₀ h0 _ fun y σ₃ s3 hy => ?_
    refine Zka f R hm hinv xs (pre ++ [x]) (acc ++ [y]) σ₃ (h0.trans s3) ((ha.mono fun _ _ q => hm _ _ _ _ s3 q).snoc hy) (fun z hz => hs z (.tail _ hz)) fun ys σ' s' q => h ys σ' s' (by simpa using q)
structure Z2a (σ : AH) (Bad : Addr → Prop) (p : Addr × Addr) (d : PyData) (fps : List (Addr × List V)) : Prop where
  lay : Lay d
  same : PyData.eqv d d = true
  at_ : ∀ q ∈ fps, σ q.1 = some (.list q.2) ∧ ¬ Bad q.1
  data : ∀ σ', (∀ q ∈ fps, σ' q.1 = some (.list q.2)) → Y3 σ' d (.ref p.1) ∧ Y3 σ' d (.ref p.2)
noncomputable def Zsx (σ : AH) (Bad : Addr → Prop) (p : Addr × Addr) : Prop := ∃ d fps, Z2a σ Bad p d fps
theorem Zsx.keep {σ σ' : AH} {Bad Bad' : Addr → Prop} {p : Addr × Addr} (h : Zsx σ Bad p) (k : ∀ y l, σ y = some (.list l) → ¬ Bad y → σ' y = some (.list l) ∧ ¬ Bad' y) : Zsx σ' Bad' p :=
  let ⟨d, fps, H⟩ := h; ⟨d, fps, H.lay, H.same, fun q hq => k _ _ (H.at_ q hq).1 (H.at_ q hq).2, H.data⟩
theorem Zsx.eq {σ : AH} {Bad : Addr → Prop} {p : Addr × Addr} (h : Zsx σ Bad p) {Q : Bool → Prop} (q : Q true) : eqD (.ref p.1) (.ref p.2) σ Q := by
  obtain ⟨d, fps, H⟩ := h
  obtain ⟨h1, h2⟩ := H.data σ fun q hq => (H.at_ q hq).1
  unfold eqD
  exact ⟨d, d, h1, h2, H.lay, H.lay, by rw [H.same]; exact q⟩
noncomputable def Zaa (p : Addr × Addr) : V := .tup [.ref p.1, .ref p.2]
end
section
open PySem PySem.W PyProof.Rows
section
variable {g : Gr} {sc : Scope} {r : Nat} {c : Bool}
theorem Zb (i : Nat) {n : String} {pos : Pos} {k : NameKind} (h : nth sc.names i = some (Str.ofString n, k)) (hk : Zve k = true) : Xy g sc r c (.Name (Str.ofString n) pos) (Zk n) := Zok (at_ h) hk
theorem Zp (i : Nat) {n : String} {p pos : Pos} {args : List Expr} {ts : TL} {t : TF} (h : nth sc.names i = some (Str.ofString n, NameKind.globalImplicit)) (hf : FnG g n r t) (hL : Zml g sc r true args ts) (hp : Zef args) : Xy g sc r true (.Call (.Name (Str.ofString n) p) args [] pos) (Ye ts t) := Zom (at_ h) hf hL hp
theorem Z6 (i : Nat) {n : String} {k : NameKind} {p' pos : Pos} {e : Expr} {t : TE} (h : nth sc.names i = some (Str.ofString n, k)) (hk : (k == .local || k == .cell) = true) (h1 : Xy g sc r c e t) (hs : ∀ env, swapsWith e (some (.Name (Str.ofString n) p')) pos.line env = pure false) : Zmk g sc r c (.Assign [.Name (Str.ofString n) p'] e pos) (Z5 n t) := Zkq (at_ h) hk h1 hs
end
inductive Zhd (C : Addr) (xs : List V) (σ : AH) (Q : V → AH → Prop) : Prop
  | mk (x : Addr) (D : HD) (s : Bool) (e : Int) (h0 : xs = [.ref x, .str (Zb8 s), .int e]) (h1 : Zu σ C x D) (h2 : 0 ≤ e) (h3 : e < Zb3 D.a D.b s) (h4 : Q .none σ) : Zhd C xs σ Q
noncomputable def Zfe (C : Addr) : TF := fun xs σ Q _ => Zhd C xs σ Q
inductive Zqk (C : Addr) (xs : List V) (σ : AH) (Q : V → AH → Prop) : Prop
  | mk (x : Addr) (D : HD) (m : Nat) (s : Bool) (e : Int) (h0 : xs = [.ref x, .str (Zb8 s), .int e]) (h1 : Zu σ C x D) (h2 : Zgh D m) (h3 : D.T.length < 64) (h4 : 0 ≤ e) (h5 : e < Zb3 D.a D.b s) (hq : ∀ b, σ b = none → Q (.ref b) (σ.set b (.list ((Z0 D.S s e m).map V.int)))) : Zqk C xs σ Q
noncomputable def Zoz (C : Addr) : TF := fun xs σ Q _ => Zqk C xs σ Q
theorem Zrs {σ : AH} {s : Bool} {Q : Bool → Prop} (h : Q true) : inD (.str (Zb8 s)) (.tup [.str (Str.ofString "left"), .str (Str.ofString "right")]) σ Q := by
  unfold inD
  have l1 : Lay (.tuple [.str (Str.ofString "left"), .str (Str.ofString "right")]) := ⟨by decide +kernel, by decide +kernel⟩
  refine ⟨[.str (Str.ofString "left"), .str (Str.ofString "right")], .str (Zb8 s), by simp [X6, Y3], by simp [Y3], l1, Zky (Zin s), ?_⟩
  have : ([PyData.str (Str.ofString "left"), PyData.str (Str.ofString "right")].any fun y => PyData.eqv y (.str (Zb8 s))) = true := by cases s <;> decide +kernel
  rw [this]; exact h
theorem Zng {S L : List Rw} (p : S.Perm L) {s : Bool} {e : Int} {m : Nat} : Z0 S s e m = Z0 L s e m :=
  Zcw fun k => ⟨fun h x hx => h x (p.mem_iff.2 hx), fun h x hx => h x (p.mem_iff.1 hx)⟩
theorem Zg6 {α : Type} {t : Tgt} {inv : AH → Prop} {telt : TE} {ℓ : Loc} {Q : List V → AH → Prop} {E : Addr → AH → Prop} (f : α → V) (I : Nat → AH → Prop) (hinv : ∀ i σ, I i σ → inv σ) :
    ∀ (xs : List α) (k : Nat) (acc : List V) (σ : AH), I k σ → (∀ i x σ (K : V → AH → Prop), xs[i]? = some x → I (k + i) σ → (∀ σ₂, I (k + i + 1) σ₂ → K (.bool true) σ₂) → Xd t (f x) ℓ.bare σ fun ℓ₁ => telt ℓ₁ σ K E) →
      (∀ σ, I (k + xs.length) σ → Q (acc ++ xs.map fun _ => V.bool true) σ) → Ze5 t inv (Wd true) telt ℓ (xs.map f) acc σ Q E
  | [], k, acc, σ, h, _, hq => ⟨hinv _ _ h, by have := hq σ h; simpa using this⟩
  | x :: xs, k, acc, σ, h, hs, hq => ⟨hinv _ _ h, hs 0 x σ _ rfl h fun σ₂ h2 => Zg6 f I hinv xs (k + 1) _ σ₂ h2 (fun i y σ K e hI hK => hs (i + 1) y σ K (by simpa using e) (by rw [show k + (i + 1) = k + 1 + i by exact Zv8]; exact hI) (by rw [show k + (i + 1) = k + 1 + i by exact Zv8]; exact hK)) fun σ hI => by
      have := hq σ (by rw [List.length_cons, show k + (xs.length + 1) = k + 1 + xs.length by exact Zv8]; exact hI)
      simpa using this⟩
theorem Zij {σ : AH} {a : Addr} {ns ms : List Int} (ha : σ a = some (.list (ns.map V.int))) (hp : ns.Perm ms) (hi : ms.Pairwise (· < ·)) (h64 : ns.length < 64) {Q : V → AH → Prop} {E : Addr → AH → Prop} (h : ∀ b, σ b = none → Q (.ref b) (σ.set b (.list (ms.map V.int)))) : Zcn [.ref a] σ Q E := by
  simp only [Zcn, Zdv, ha, Zcg]
  refine ⟨h64, fun ns' b hp' hs hb => ?_⟩
  rw [Zcv (hp'.trans hp) hs hi]
  exact h b hb
theorem Znj {S L : List Rw} (p : S.Perm L) (hd : ∀ x ∈ S, x.h ≠ none) (k : Int) : ((L.filter fun x => hu x == k).map Rw.n).Perm ((Zfh S k).map Rw.n) := by
  refine (List.Perm.map _ ?_)
  unfold Zfh
  refine (p.symm.filter _).trans ?_
  rw [List.filter_congr fun x hx => show (hu x == k) = (x.h == some k) from ?_]
  rw [Zdk (hd x hx)]
  rfl
theorem Zgg {α : Type} (xs : List α) : ((xs.map fun _ => true).all id) = true := by rw [List.all_map]; simp
structure Zhk (σ0 σ : AH) (vs : List V) : Prop where
  sub : Sub σ0 σ
  all : ∀ v ∈ vs, ∃ (a : Addr) (ns : List Int), v = .ref a ∧ σ a = some (.list (ns.map V.int)) ∧ σ0 a = none ∧ ns.length ≤ 6
theorem Zhk.nil {σ : AH} : Zhk σ σ [] := ⟨Sub.refl, fun _ h => absurd h List.not_mem_nil⟩
theorem Zhk.new {σ0 σ : AH} {vs : List V} {a : Addr} {o : AO} (P : Zhk σ0 σ vs) (h : σ a = none) : Zhk σ0 (σ.set a o) vs := ⟨P.sub.new h, fun v hv => let ⟨b, ms, e1, e2, e3⟩ := P.all v hv; ⟨b, ms, e1, Zl e2 h, e3⟩⟩
theorem Zhk.add {σ0 σ : AH} {vs : List V} {a : Addr} (P : Zhk σ0 σ vs) (ns : List Int) (h : σ a = none) (hl : ns.length ≤ 6 := by decide) : Zhk σ0 (σ.set a (.list (ns.map V.int))) (vs ++ [.ref a]) := ⟨P.sub.new h, fun v hv => by
  rcases List.mem_append.1 hv with w | w
  · exact (P.new h).all v w
  · exact ⟨a, ns, List.mem_singleton.1 w, Zd, P.sub.none h, hl⟩⟩
structure Zsy (l : List V) (ds : List PyData) : Prop where
  data : ∀ σ, X6 σ ds l
  lay : PyData.canLayAll0 ds = true
  deep : PyData.depthAll ds ≤ 5
  same : PyData.eqvAll ds ds = true
theorem Zsy.held {σ : AH} {Bad : Addr → Prop} {a b : Addr} {l : List V} {ds : List PyData} (F : Zsy l ds) (h1 : σ a = some (.list l)) (h2 : σ b = some (.list l)) (n1 : ¬ Bad a) (n2 : ¬ Bad b) : Zsx σ Bad (a, b) := by
  refine ⟨.list ds, [(a, l), (b, l)], ⟨by rw [PyData.canLay0]; exact F.lay, by have := F.deep; rw [PyData.depth]; exact Z0e this⟩, by rw [PyData.eqv]; exact F.same, fun q hq => ?_, fun σ' k => ⟨Zci (k _ (.head _)) (F.data _), Zci (k _ (.tail _ (.head _))) (F.data _)⟩⟩
  rcases List.mem_cons.1 hq with rfl | hq
  · exact ⟨h1, n1⟩
  · rw [List.mem_singleton.1 hq]; exact ⟨h2, n2⟩
theorem Ze2 (ns : List Int) : Zsy (ns.map V.int) (ns.map PyData.int) :=
  ⟨fun _ => Zcj ns, Zbv ns, Nat.le_trans (Zbm ns) (by decide), by rw [Zcz]; exact BEq.rfl⟩
theorem Zpu (rs : List (List Int)) : Zsy (rs.map Zet) (rs.map Ziu) :=
  ⟨fun _ => Ze4 rs, Zed rs, Nat.le_trans (Zfm rs) (by decide), by rw [Zeb]; exact BEq.rfl⟩
theorem Zh3 : ∀ rs : List (List Int), Zsy (rs.map Zet ++ [.none]) (rs.map Ziu ++ [.none])
  | [] => ⟨fun _ => by simp [X6, Y3], by simp [PyData.canLayAll0, PyData.canLay0], by simp [PyData.depthAll, PyData.depth], by simp [PyData.eqvAll, PyData.eqv]⟩
  | r :: rs => by
    have ih := Zh3 rs
    refine ⟨fun σ => ?_, ?_, ?_, ?_⟩
    · simp only [List.map_cons, List.cons_append, X6]; exact ⟨_, _, rfl, Zmc r, ih.data σ⟩
    · simp only [List.map_cons, List.cons_append, PyData.canLayAll0, ih.lay, (Zto r).1, Bool.and_self]
    · have h1 := ih.deep; have h2 := Zbm r
      simp only [List.map_cons, List.cons_append, PyData.depthAll, Ziu, PyData.depth]; exact Z0d h1 h2
    · simp only [List.map_cons, List.cons_append, PyData.eqvAll, ih.same, Zp0, BEq.rfl, Bool.and_self]
structure Zd3 (σ σ' : AH) (hb : Addr) (hs hs' : List (Addr × Addr)) (n : Nat) : Prop where
  keep : ∀ y o, σ y = some o → y ≠ hb → σ' y = some o
  had : σ hb = some (.list (hs.map Zaa))
  has : σ' hb = some (.list (hs'.map Zaa))
  len : hs'.length ≤ hs.length + n
  held : ∀ p ∈ hs', p ∈ hs ∨ Zsx σ' (fun y => σ y ≠ none) p
theorem Zd3.refl {σ : AH} {hb : Addr} {hs : List (Addr × Addr)} {n : Nat} (h : σ hb = some (.list (hs.map Zaa))) : Zd3 σ σ hb hs hs n :=
  ⟨fun _ _ q _ => q, h, h, Nat.le_add_right _ _, fun _ hp => .inl hp⟩
theorem Zd3.isSome {σ σ' : AH} {hb : Addr} {hs hs' : List (Addr × Addr)} {n : Nat} (G : Zd3 σ σ' hb hs hs' n) {y : Addr} (h : σ y ≠ none) : σ' y ≠ none := by
  by_cases z : y = hb
  · rw [z, G.has]; exact nofun
  · cases e : σ y with
    | none => exact absurd e h
    | some o => rw [G.keep y o e z]; exact nofun
theorem Zd3.trans {σ σ1 σ2 : AH} {hb : Addr} {hs hs1 hs2 : List (Addr × Addr)} {n k t : Nat} (G : Zd3 σ σ1 hb hs hs1 n) (K : Zd3 σ1 σ2 hb hs1 hs2 k) (ht : n + k ≤ t) : Zd3 σ σ2 hb hs hs2 t := by
  refine ⟨fun y o q z => K.keep y o (G.keep y o q z) z, G.had, K.has, by have := G.len; have := K.len; omega, fun p hp => ?_⟩
  rcases K.held p hp with h | h
  · rcases G.held p h with h | h
    · exact .inl h
    · exact .inr (h.keep fun y l q nb => ⟨K.keep y _ q fun z => nb (by rw [z, G.had]; exact nofun), nb⟩)
  · exact .inr (h.keep fun y l q nb => ⟨q, fun z => nb (G.isSome z)⟩)
theorem Zd3.sub {σ σ1 σ2 : AH} {hb : Addr} {hs hs1 : List (Addr × Addr)} {n : Nat} (G : Zd3 σ σ1 hb hs hs1 n) (s : Sub σ1 σ2) : Zd3 σ σ2 hb hs hs1 n :=
  ⟨fun y o q z => s _ _ (G.keep y o q z), G.had, s _ _ G.has, G.len, fun p hp => (G.held p hp).imp id fun h => h.keep fun y l q nb => ⟨s _ _ q, nb⟩⟩
theorem Zd3.of_sub {σ0 σ σ1 : AH} {hb : Addr} {hs hs1 : List (Addr × Addr)} {n : Nat} (s : Sub σ0 σ) (h : σ0 hb = some (.list (hs.map Zaa))) (G : Zd3 σ σ1 hb hs hs1 n) : Zd3 σ0 σ1 hb hs hs1 n :=
  ⟨fun y o q z => G.keep y o (s _ _ q) z, h, G.has, G.len, fun p hp => (G.held p hp).imp id fun h => h.keep fun y l q nb => ⟨q, fun z => nb fun w => z (s.none w)⟩⟩
theorem Zu.kept {σ σ' : AH} {C x hb : Addr} {D : HD} {l : List V} (H : Zu σ C x D) (k : ∀ y o, σ y = some o → y ≠ hb → σ' y = some o) (h : σ hb = some (.list l)) (nf : ¬ D.foot hb) : Zu σ' C x D := by
  have ne : ∀ {y o}, σ y = some o → (∀ l, o ≠ .list l) → y ≠ hb := fun {y o} q n z => by rw [z, h] at q; cases q; exact n l rfl
  obtain ⟨ep, e⟩ := H.rows
  obtain ⟨ep', e'⟩ := H.sizes
  exact ⟨k _ _ H.inst (ne H.inst nofun), k _ _ H.attrs (ne H.attrs nofun), H.aRows, H.aSizes, H.aNext, H.names, H.few, ⟨ep, k _ _ e (ne e nofun)⟩, fun t ht => k _ _ (H.row t ht) fun z => nf (.inr (.inr (List.mem_map.2 ⟨t, ht, z⟩))), H.nodup, ⟨ep', k _ _ e' (ne e' nofun)⟩⟩
inductive Zqe (xs : List V) (σ : AH) (Q : V → AH → Prop) : Prop
  | mk (fb db hb : Addr) (way : Int) (ns : List Int) (hs : List (Addr × Addr)) (h0 : xs = [.ref fb, .ref db, .ref hb, .int way]) (h1 : σ fb = some (.list (ns.map V.int))) (h2 : σ db = some (.list (ns.map V.int))) (h3 : σ hb = some (.list (hs.map Zaa))) (h4 : ns.length ≤ 1000) (h5 : hs.length ≤ 100000) (h6 : fb ≠ hb)
    (hq : ∀ (σ' : AH) (ns' : List Int) (cb : Addr), (∀ y o, σ y = some o → y ≠ hb → y ≠ fb → σ' y = some o) → σ' hb = some (.list ((hs ++ [(fb, cb)]).map Zaa)) → σ cb = none → σ' fb = some (.list (ns'.map V.int)) → σ' cb = some (.list (ns'.map V.int)) → Q (.bool true) σ') : Zqe xs σ Q
noncomputable def Zou : TF := fun xs σ Q _ => Zqe xs σ Q
inductive Zqj (xs : List V) (σ : AH) (Q : V → AH → Prop) : Prop
  | mk (rd : Addr) (L : List Rw) (ep : Nat) (s : Bool) (a b : Int) (m : Nat) (h0 : xs = [.ref rd, .int (sI s)]) (h1 : σ rd = some (.dictI (Yd L) ep)) (h2 : L.length < 64) (h3 : InR L a b) (h4 : W7 L a b m) (h5 : 1 ≤ a ∧ a ≤ 8) (h6 : 1 ≤ b ∧ b ≤ 8)
    (hq : ∀ fb, σ fb = none → Q (.ref fb) (σ.set fb (.list ((if m = 0 then [] else Zbi L s (Zb3 a b s) m).map V.int)))) : Zqj xs σ Q
noncomputable def Zoy : TF := fun xs σ Q _ => Zqj xs σ Q
theorem Zd3.one {σ0 σ σ' : AH} {hb fb cb : Addr} {hs : List (Addr × Addr)} {l : List V} {ds : List PyData} {n : Nat} (s : Sub σ0 σ) (h : σ0 hb = some (.list (hs.map Zaa))) (f0 : σ0 fb = none) (k : ∀ y o, σ y = some o → y ≠ hb → y ≠ fb → σ' y = some o) (hh : σ' hb = some (.list ((hs ++ [(fb, cb)]).map Zaa))) (c0 : σ cb = none) (F : Zsy l ds) (h1 : σ' fb = some (.list l)) (h2 : σ' cb = some (.list l)) : Zd3 σ0 σ' hb hs (hs ++ [(fb, cb)]) (n + 1) :=
  ⟨fun y o q z => k y o (s _ _ q) z fun w => (by rw [w, f0] at q; cases q), h, hh, (by simp), fun p hp => (List.mem_append.1 hp).imp id fun w => by rw [List.mem_singleton.1 w]; exact F.held h1 h2 (fun z => z f0) (fun z => z (s.none c0))⟩
theorem Zd3.two {σ σ2 σ3 σ5 : AH} {hb c cb : Addr} {hs hs1 : List (Addr × Addr)} {l lc : List V} {ds : List PyData} {n : Nat} (hh0 : σ hb = some (.list (hs.map Zaa))) (c0 : σ c = none) (G : Zd3 (σ.set c (.list lc)) σ2 hb hs hs1 n) (s3 : Sub σ2 σ3) (k : ∀ y o, σ3 y = some o → y ≠ hb → y ≠ c → σ5 y = some o) (hh : σ5 hb = some (.list ((hs1 ++ [(c, cb)]).map Zaa))) (cb0 : σ3 cb = none) (F : Zsy l ds) (h1 : σ5 c = some (.list l)) (h2 : σ5 cb = some (.list l)) : Zd3 σ σ5 hb hs (hs1 ++ [(c, cb)]) (n + 1) := by
  have up : ∀ y, σ y ≠ none → (σ.set c (.list lc)) y ≠ none := fun y h => by
    rw [Zf fun z => h (by rw [z]; exact c0)]; exact h
  refine ⟨fun y o q z => k y o (s3 _ _ (G.keep y o (Zl q c0) z)) z fun w => (by rw [w, c0] at q; cases q), hh0, hh, by have := G.len; simp only [List.length_append, List.length_singleton]; exact Z0c this, fun p hp => ?_⟩
  rcases List.mem_append.1 hp with w | w
  · refine (G.held p w).imp id fun h => h.keep fun y l q nb => ⟨k y _ (s3 _ _ q) (fun z => nb ?_) (fun z => nb ?_), fun z => nb (up y z)⟩
    · rw [z]; exact up _ (by rw [hh0]; exact nofun)
    · rw [z, Zd]; exact nofun
  · rw [List.mem_singleton.1 w]
    exact .inr (F.held h1 h2 (fun z => z c0) fun z => G.isSome (up _ z) (s3.none cb0))
inductive Zso (C : Addr) (ok : Int → Prop) (bd : Nat) (xs : List V) (σ : AH) (Q : V → AH → Prop) : Prop
  | mk (x rd hb : Addr) (D : HD) (m : Nat) (L : List Rw) (ep : Nat) (kk ask way : Int) (hs : List (Addr × Addr)) (h0 : xs = [.ref x, .tup [.int D.a, .int D.b, .int kk], .ref rd, .ref hb, .int ask, .int way]) (h1 : Zu σ C x D) (h2 : Zgh D m) (h3 : D.T.length < 64) (h4 : σ rd = some (.dictI (Yd L) ep)) (h5 : D.S.Perm L) (h6 : σ hb = some (.list (hs.map Zaa))) (h7 : hs.length + bd ≤ 95000) (h8 : ¬ D.foot hb) (h9 : ok way)
    (hq : ∀ σ' hs', Zd3 σ σ' hb hs hs' bd → Q (.bool true) σ') : Zso C ok bd xs σ Q
noncomputable def Zm4 (C : Addr) (ok : Int → Prop) (bd : Nat) : TF := fun xs σ Q _ => Zso C ok bd xs σ Q
inductive Zke (C : Addr) (xs : List V) (σ : AH) (Q : V → AH → Prop) : Prop
  | mk (x rd hb : Addr) (D : HD) (m : Nat) (L : List Rw) (ep : Nat) (kk way : Int) (hs : List (Addr × Addr)) (h0 : xs = [.ref x, .tup [.int D.a, .int D.b, .int kk], .ref rd, .ref hb, .int way]) (h1 : Zu σ C x D) (h2 : Zgh D m) (h3 : D.T.length < 64) (h4 : σ rd = some (.dictI (Yd L) ep)) (h5 : D.S.Perm L) (h6 : σ hb = some (.list (hs.map Zaa))) (h7 : hs.length ≤ 80000) (h8 : ¬ D.foot hb)
    (hq : ∀ σ' hs', Zd3 σ σ' hb hs hs' 500 → Q (.bool true) σ') : Zke C xs σ Q
noncomputable def Ziq (C : Addr) : TF := fun xs σ Q _ => Zke C xs σ Q
inductive Zn1 (D : HD) : Bool → V → Prop
  | go (t : Rw × Addr) (ht : t ∈ D.T) : Zn1 D false (.tup [.str goS, .int t.1.n])
  | come (l r : Int) (h40 : D.T.length < 40) (hl : 0 ≤ l ∧ l < D.a) (hr : 0 ≤ r ∧ r < D.b) : Zn1 D true (.tup [.str Znv, .int l, .int r])
inductive Zst (C : Addr) (xs : List V) (σ : AH) (Q : V → AH → Prop) : Prop
  | mk (x rd : Addr) (D : HD) (m : Nat) (L : List Rw) (ep : Nat) (cm : Bool) (dv : V) (h0 : xs = [.ref x, .ref rd, dv, .int D.nx]) (h1 : Zu σ C x D) (h2 : Zgh D m) (h3 : D.T.length ≤ 40) (h4 : D.nx < 1000) (h5 : σ rd = some (.dictI (Yd L) ep)) (h6 : D.S.Perm L) (h7 : ¬ D.foot rd) (h8 : Zn1 D cm dv)
    (hq : ∀ σ' D' m' L' rd' ep', Zu σ' C x D' → Zgh D' m' → D'.a = D.a → D'.b = D.b → D'.T.length ≤ 40 → D'.nx = D.nx + (if cm then 1 else 0) → D'.S.Perm L' → σ' rd' = some (.dictI (Yd L') ep') → σ rd' = none → ¬ D'.foot rd' → (∀ y o, σ y = some o → ¬ D.foot y → σ' y = some o) → (∀ y, D'.foot y → D.foot y ∨ σ y = none) → Q (.ref rd') σ') : Zst C xs σ Q
noncomputable def Ztc (C : Addr) : TF := fun xs σ Q _ => Zst C xs σ Q
theorem Zh1 {S L : List Rw} (p : S.Perm L) {s : Bool} {n : Int} {m : Nat} : Zbi S s n m = Zbi L s n m := by
  unfold Zbi
  exact List.filter_congr fun e _ => by rw [Zi4 p]
theorem Zru {L : List Rw} {a b : Int} {s : Bool} {m : Nat} (ha : 1 ≤ a ∧ a ≤ 8) (hb : 1 ≤ b ∧ b ≤ 8) : (if m = 0 then [] else Zbi L s (Zb3 a b s) m).length ≤ 1000 := by
  split
  · exact Nat.zero_le _
  · have hn : 1 ≤ Zb3 a b s ∧ Zb3 a b s ≤ 8 := by cases s <;> assumption
    refine Nat.le_trans (List.length_filter_le _ _) ?_
    simp only [Zcl, List.length_map, List.length_range]
    exact Z0b hn
theorem Zm6 {p q : Int → Bool} {n : Int} (h0 : 0 ≤ n) (h8 : n ≤ 8) (h1 : ∀ e, 0 ≤ e → e < n → p e = q e) (h2 : ∀ e, n ≤ e → p e = false) : (Zcl 8).filter p = (Zcl n.toNat).filter q := by
  obtain ⟨k, hk⟩ : ∃ k, 8 = n.toNat + k := ⟨8 - n.toNat, by exact Z0a h0 h8⟩
  unfold Zcl
  rw [hk, List.range_add, List.map_append, List.filter_append, List.map_map]
  have hnil : List.filter p (List.map (Int.ofNat ∘ fun x => n.toNat + x) (List.range k)) = [] := by
    refine List.filter_eq_nil_iff.2 fun e he => ?_
    obtain ⟨i, hi, rfl⟩ := List.mem_map.1 he
    rw [h2 _ (by show n ≤ ((n.toNat + i : Nat) : Int); exact Zz9 h0 h8 hk)]
    exact Bool.false_ne_true
  rw [hnil, List.append_nil]
  refine List.filter_congr fun e he => ?_
  obtain ⟨i, hi, rfl⟩ := List.mem_map.1 he
  have := List.mem_range.1 hi
  exact h1 _ (Int.natCast_nonneg i) (by show (i : Int) < n; exact Zz8 hk this)
theorem Zts {L : List Rw} {a b : Int} {m : Nat} (hr : InR L a b) (hc : W7 L a b m) (ha : 1 ≤ a ∧ a ≤ 8) (hb : 1 ≤ b ∧ b ≤ 8) (s : Bool) :
    ((Zcl 8).filter fun e => decide (e ∈ L.map fun x => x.e s) && (((L.map fun x => x.e s).count e : Int) == (m : Int))) = if m = 0 then [] else Zbi L s (Zb3 a b s) m := by
  have hd : ∀ e, (L.map fun x => x.e s).count e = deg L s e := fun e => Zp3 0 _ L e
  have hz : ∀ e, deg L s e = 0 → e ∉ L.map fun x => x.e s := fun e h z => by have := List.count_pos_iff.2 z; rw [hd] at this; exact Zz7 h this
  split
  · rename_i h
    subst h
    refine List.filter_eq_nil_iff.2 fun e _ => ?_
    rw [decide_eq_false (hz e (Nat.le_zero.1 (hc.all hr s e))), Bool.false_and]
    exact Bool.false_ne_true
  · rename_i h
    have hn : 1 ≤ Zb3 a b s ∧ Zb3 a b s ≤ 8 := by cases s <;> assumption
    unfold Zbi
    refine Zm6 (by exact Zc7 hn) hn.2 (fun e h0 h1 => ?_) fun e h1 => ?_
    · rw [hd]
      by_cases q : deg L s e = m
      · rw [q, BEq.rfl, BEq.rfl, Bool.and_true]
        refine decide_eq_true (Decidable.byContradiction fun z => h ?_)
        rw [← q, ← hd, List.count_eq_zero]; exact z
      · rw [beq_eq_false_iff_ne.2 q, show ((deg L s e : Int) == (m : Int)) = false from beq_eq_false_iff_ne.2 (fun z => q (Int.ofNat.inj z)), Bool.and_false]
    · rw [decide_eq_false fun z => ?_, Bool.false_and]
      obtain ⟨x, hx, e1⟩ := List.mem_map.1 z
      have := (hr x hx s).2
      rw [e1] at this
      exact Zz6 h1 e1 this
end
section
open PySem PySem.W PyProof.Rows
variable {g : Gr} {P : Params}
noncomputable abbrev CC : Addr := 277
structure NN (g : Gr) : Prop where
  n_isinstance : Wn g "isinstance" (.builtin "isinstance")
  n_int : Wn g "int" (.type "int")
  n_bool : Wn g "bool" (.type "bool")
  n_len : Wn g "len" (.builtin "len")
  n_max : Wn g "max" (.builtin "max")
  n_min : Wn g "min" (.builtin "min")
  n_range : Wn g "range" (.type "range")
  n_sorted : Wn g "sorted" (.builtin "sorted")
  n_list : Wn g "list" (.type "list")
  n_dict : Wn g "dict" (.type "dict")
  n_set : Wn g "set" (.type "set")
  n_all : Wn g "all" (.builtin "all")
  n_tuple : Wn g "tuple" (.type "tuple")
  n_zip : Wn g "zip" (.type "zip")
  n_LEFT : Wn g "LEFT" (.str (Str.ofString "left") 325)
  n_RIGHT : Wn g "RIGHT" (.str (Str.ofString "right") 327)
  n_MOST_ENDS : Wn g "MOST_ENDS" (.int 8 321)
  n_MOST_PAIRS : Wn g "MOST_PAIRS" (.int 40 323)
  n_Hall : Wn g "Hall" (.ref CC)
  n_str : Wn g "str" (.type "str")
theorem hC : Zsc (KK P) CC := ⟨by kernel_rfl, by kernel_rfl, by kernel_rfl, by kernel_rfl⟩
theorem Ztp : keepIn (KK P) (.ref CC) = true := by kernel_rfl
structure Zsd (K : Frag) : Prop where
  a_rows : findIn K (.ref CC) (Str.ofString "rows") = some none
  a_sizes : findIn K (.ref CC) (Str.ofString "sizes") = some none
  a_next_number : findIn K (.ref CC) (Str.ofString "next_number") = some none
  t_rows : takerIn K CC (Str.ofString "rows") = some none
  t_sizes : takerIn K CC (Str.ofString "sizes") = some none
  t_next_number : takerIn K CC (Str.ofString "next_number") = some none
theorem CF : Zsd (KK P) := ⟨by kernel_rfl, by kernel_rfl, by kernel_rfl, by kernel_rfl, by kernel_rfl, by kernel_rfl⟩
theorem fnM {n : String} {f : Addr} {r : Nat} {t : TF} (h1 : findIn (KK P) (.ref CC) (Str.ofString n) = some (some (.ref f))) (h2 : isFn (KK P) (.ref f) = true) (h3 : keepIn (KK P) (.ref f) = true) (h : Xu g r (.ref f) t) : FnM g (KK P) CC n r t := ⟨f, h1, h2, h3, h.toF⟩
noncomputable def Yt : TF := fun xs σ Q _ => ∃ i, xs = [.int i] ∧ Q (.bool true) σ
noncomputable def Zoq : TF := fun xs σ Q _ => ∃ s, xs = [.str (Zb8 s)] ∧ Q (.str (Zb8 (!s))) σ
noncomputable def Zlt : TF := fun xs σ Q _ => ∃ x D s t, xs = [.ref x, .int t.1.n, .str (Zb8 s)] ∧ Zu σ CC x D ∧ Inc D.S ∧ t ∈ D.T ∧ Q (.int (t.1.e s)) σ
theorem Zk9 (hK : (KK P).In g.b0) (N : NN g) : Xu g 2 (.ref 118) Yt := by
  refine Xu.mono (Z1 (r := 1) (ps := ["thing"]) (hK 118 _ rfl) rfl (Zq (hK 117 _ rfl) rfl rfl) rfl (by intro vs h; obtain ⟨a0, rfl⟩ := Zph h; rfl) rfl rfl rfl (by decide +kernel)
    (Zc (Zj (Wt (Zdq (Yk (k := .int) (at_ (i := 1) rfl) (N.n_isinstance) (at_ (i := 2) rfl) (N.n_int) (Zb 0 rfl rfl) rfl) (Zb4 (Zlr (Yk (k := .bool) (at_ (i := 1) rfl) (N.n_isinstance) (at_ (i := 3) rfl) (N.n_bool) (Zb 0 rfl rfl) rfl))))))
  Zh)) ?_
  rintro xs σ Q E ⟨i, rfl, h⟩
  refine Yu rfl fun K KE kret _ _ => ?_
  dsimp only [Loc.setAll]
  refine Yg fun K1 r1 => ?_
  dsimp only [Za8, Zqv, Zn3, Zk, Xr, Zwd, Zs3, Loc.set, String.reduceBEq, cond_true]
  exact r1 _ _ _ (kret _ _ _ _ Sub.refl h)
theorem Zj4 (hK : (KK P).In g.b0) (N : NN g) : Xu g 2 (.ref 125) Zoq := by
  refine Xu.mono (Z1 (r := 1) (ps := ["side"]) (hK 125 _ rfl) rfl (Zq (hK 124 _ rfl) rfl rfl) rfl (by intro vs h; obtain ⟨a0, rfl⟩ := Zph h; rfl) rfl rfl rfl (by decide +kernel)
    (Zc (Yb (Zv (Zb 0 rfl rfl) (Z7 (at_ (i := 1) rfl) (N.n_LEFT) (fun _ => Y9.mpr ⟨Za4 (by decide), _, rfl⟩)) rfl) (Zc (Zj (Z7 (at_ (i := 2) rfl) (N.n_RIGHT) (fun _ => Y9.mpr ⟨Za4 (by decide), _, rfl⟩)))
  Zh) Zh)
  (Zc (Zj (Z7 (at_ (i := 1) rfl) (N.n_LEFT) (fun _ => Y9.mpr ⟨Za4 (by decide), _, rfl⟩)))
  Zh))) ?_
  rintro xs σ Q E ⟨s, rfl, h⟩
  refine Yu rfl fun K KE kret _ _ => ?_
  dsimp only [Loc.setAll]
  refine Yl fun K1 k1 r1 => ?_
  dsimp only [Zan, Zkl, Zm, Zk, Xm, Wy, Loc.set, String.reduceBEq, cond_true]
  refine Zfl (Zin s) Zpi ?_
  rw [Zhq]
  cases s with
  | false =>
    simp only [Bool.not_false]
    refine Yg fun K2 r2 => ?_
    dsimp only [Za8, Zm]
    exact r2 _ _ _ (r1 _ _ _ (kret _ _ _ _ Sub.refl h))
  | true =>
    simp only [Bool.not_true]
    refine k1 _ _ ?_
    refine Yg fun K2 r2 => ?_
    dsimp only [Za8, Zm]
    exact r2 _ _ _ (kret _ _ _ _ Sub.refl h)
theorem Zr1 (hK : (KK P).In g.b0) (N : NN g) : Xu g 2 (.ref 160) Zlt := by
  refine Xu.mono (Z1 (r := 1) (ps := ["self", "number", "side"]) (hK 160 _ rfl) rfl (Zq (hK 159 _ rfl) rfl rfl) rfl (by intro vs h; obtain ⟨a0, a1, a2, rfl⟩ := Zpg h; rfl) rfl rfl rfl (by decide +kernel)
    (Zc (Yb (Zv (Zb 2 rfl rfl) (Z7 (at_ (i := 3) rfl) (N.n_LEFT) (fun _ => Y9.mpr ⟨Za4 (by decide), _, rfl⟩)) rfl) (Zc (Zj (Zi (Zi (Yc hK hC CF.a_rows rfl rfl (Zb 0 rfl rfl)) (Zb 1 rfl rfl) (fun _ _ => rfl)) Zg (fun _ _ => rfl)))
  Zh) Zh)
  (Zc (Zj (Zi (Zi (Yc hK hC CF.a_rows rfl rfl (Zb 0 rfl rfl)) (Zb 1 rfl rfl) (fun _ _ => rfl)) Zg (fun _ _ => rfl)))
  Zh))) ?_
  rintro xs σ Q E ⟨x, D, s, t, rfl, H, hi, ht, h⟩
  refine Yu rfl fun K KE kret _ _ => ?_
  dsimp only [Loc.setAll]
  refine Yl fun K1 k1 r1 => ?_
  dsimp only [Zan, Zkl, Zm, Zk, Xm, Wy, Loc.set, String.reduceBEq, cond_true, cond_false]
  refine Zfl (Zin s) Zpi ?_
  rw [Zhq]
  cases s with
  | false =>
    simp only [Bool.not_false]
    refine Yg fun K2 r2 => ?_
    dsimp only [Za8, Zm, Zk, Yq, Loc.set, String.reduceBEq, cond_true, cond_false, Za5]
    simp only [H.rowsA]
    exact H.item hi ht (H.item0 ht (r2 _ _ _ (r1 _ _ _ (kret _ _ _ _ Sub.refl h))))
  | true =>
    simp only [Bool.not_true]
    refine k1 _ _ ?_
    refine Yg fun K2 r2 => ?_
    dsimp only [Za8, Zm, Zk, Yq, Loc.set, String.reduceBEq, cond_true, cond_false, Za5]
    simp only [H.rowsA]
    exact H.item hi ht (H.item1 ht (r2 _ _ _ (kret _ _ _ _ Sub.refl h)))
end
section
open PySem PySem.W PyProof.Rows
variable {g : Gr} {P : Params}
theorem Z15 (hK : (KK P).In g.b0) (N : NN g) (M_end_of : FnM g (KK P) CC "end_of" 2 Zlt) : Xu g 3 (.ref 165) (Zt7 CC) := by
  refine Xu.mono (Z1 (r := 2) (ps := ["self", "side", "end"]) (hK 165 _ rfl) rfl (Zq (hK 164 _ rfl) rfl rfl) rfl (by intro vs h; obtain ⟨a0, a1, a2, rfl⟩ := Zpg h; rfl) rfl rfl rfl (by decide +kernel)
    (Zc (Zj (Y0 (by decide +kernel) (Z3 (Zp 3 rfl (Zy N.n_sorted Ws) (Za (Yc hK hC CF.a_rows rfl rfl (Zb 0 rfl rfl)) Ze) rfl)) (.name (at_ (i := 1) rfl) rfl) (by decide +kernel) (W8 (Zv (Zs hK hC M_end_of (Zb 3 rfl rfl) (Za (Zb 1 rfl rfl) (Za (Zb 4 rfl rfl) Ze)) rfl rfl rfl rfl) (Zb 2 rfl rfl) rfl)) (Zb 1 rfl rfl) (fun _ _ => rfl)))
  Zh)) ?_
  rintro xs σ Q E ⟨x, D, s, e, rfl, H, hi, h64, h⟩
  refine Yu rfl fun K KE kret _ _ => ?_
  dsimp only [Loc.setAll]
  refine Yg fun K1 r1 => ?_
  dsimp only [Za8, Zap, Zah, Ye, Y6, Zav, Yj, Zt, Zk, Loc.set, String.reduceBEq, cond_true, cond_false, Za5]
  simp only [H.rowsA]
  refine Zb2 H hi h64 fun b hb => ?_
  simp only [Zd]
  have s1 : Sub σ (σ.set b (.list (D.T.map fun t => V.int t.1.n))) := Sub.refl.new hb
  refine ⟨nofun, Xc (fun t : Rw × Addr => V.int t.1.n) (fun t => t.1.e s == e) (fun t => V.int t.1.n) D.T (fun σ' hs => hs _ _ Zd) (fun t ht σ' hs => ⟨_, fun P h => h, fun Qb hQ => ?_, fun _ σ'' hs'' Qv hQ => ?_⟩) fun σ' hs => ?_⟩
  · have H' := H.sub (s1.trans hs)
    dsimp only [Yj, Zt, Zk, Xm, Wy, Loc.set, Loc.bare, String.reduceBEq, cond_true, cond_false, Yy]
    refine ⟨H'.instOf (by decide +kernel), x, D, s, t, rfl, H', hi, ht, ?_⟩
    simp only [eqD]
    exact hQ _ Sub.refl
  · dsimp only [Zk, Loc.set, Loc.bare, String.reduceBEq, cond_true, cond_false]
    exact hQ _ Sub.refl
  · intro d hd
    have s2 : Sub σ σ' := s1.trans hs
    exact r1 _ _ _ (kret _ _ _ (σ.set d (.list ((Zly D.T s e).map fun t => V.int t.1.n))) (Zd6 s2) (h d (s2.none hd)))
theorem Ztx (hK : (KK P).In g.b0) (N : NN g) (M_met : FnM g (KK P) CC "met" 3 (Zt7 CC)) : Xu g 4 (.ref 170) (Zfv CC) := by
  refine Xu.mono (Z1 (r := 3) (ps := ["self"]) (hK 170 _ rfl) rfl (Zq (hK 169 _ rfl) rfl rfl) rfl (by intro vs h; obtain ⟨a0, rfl⟩ := Zph h; rfl) rfl rfl rfl (by decide +kernel)
    (Zc (Z6 1 rfl rfl (Zw (Za Zg Ze)) (fun _ => rfl))
  (Zc (Yz (Z3 (Zx (Za (Z7 (at_ (i := 3) rfl) (N.n_LEFT) (fun _ => Y9.mpr ⟨Za4 (by decide), _, rfl⟩)) (Za (Z7 (at_ (i := 4) rfl) (N.n_RIGHT) (fun _ => Y9.mpr ⟨Za4 (by decide), _, rfl⟩)) Ze)))) (.name (at_ (i := 2) rfl) rfl) (Zc (Z6 1 rfl rfl (Zr (Zb 1 rfl rfl) (Y0 (by decide +kernel) (Yv (at_ (i := 5) rfl) (N.n_range) (Zi (Yc hK hC CF.a_sizes rfl rfl (Zb 0 rfl rfl)) (Zb 2 rfl rfl) (fun _ _ => rfl)) rfl) (.name (at_ (i := 1) rfl) rfl) (by decide +kernel) Wa (Zp 2 rfl (Zy N.n_len Wb) (Za (Zs hK hC M_met (Zb 3 rfl rfl) (Za (Zb 4 rfl rfl) (Za (Zb 1 rfl rfl) Ze)) rfl rfl rfl rfl) Ze) rfl) (fun _ _ => rfl))) (fun _ => rfl))
  Zh) (fun _ _ => rfl))
  (Zc (Zj (Zp 6 rfl (Zy N.n_max Zlq) (Za (Zb 1 rfl rfl) Ze) rfl))
  Zh)))) ?_
  rintro xs σ Q E ⟨x, D, rfl, H, hi, h64, ha0, ha1, hb0, hb1, h⟩
  refine Yu rfl fun K KE kret _ _ => ?_
  dsimp only [Loc.setAll]
  refine Zo fun K1 k1 => ?_
  dsimp only [Z5, Zay, Yj, Zt, Zm, List.length_cons, List.length_nil]
  refine ⟨Yh rfl, fun b0 hb0' => k1 _ _ ?_⟩
  have s1 : Sub σ (σ.set b0 (.list [V.int 0])) := Sub.refl.new hb0'
  refine Zo fun K1 k1 => ?_
  dsimp only [Zgb, Zap, Zah, Wc, Yj, Zt, Zm, List.length_cons, List.length_nil]
  refine ⟨Yh rfl, nofun, ?_⟩
  refine Zaf (fun xs ℓ σ' => ∀ P0 : Prop, (∀ (done rest : List Bool) (b : Addr), (xs = rest.map (fun s => V.str (Zb8 s))) → (done ++ rest = [false, true]) → (ℓ "self" = some (.ref x)) → (ℓ "sizes" = some (.ref b)) → (σ' b = some (.list (((0 : Int) :: Zn4 D.S D.a D.b done).map V.int))) → (Sub σ σ') → P0) → P0) ?_ ?_
    (fun _ kI => kI ([]) ([false, true]) (b0) (rfl) (rfl) (rfl) (rfl) (Zd) (s1))
  · intro ℓ σ' hI0
    refine hI0 _ fun done rest b h1 h2 h3 h4 h5 h6 => ?_
    obtain rfl := Xb h1
    rw [List.append_nil] at h2
    subst h2
    refine ⟨trivial, k1 _ _ ?_⟩
    refine Yg fun K2 r2 => ?_
    dsimp only [Za8, Ye, Zv5, Yj, Zt, Zk]
    simp only [h4, Za9, h5, Zcg]
    refine ⟨by simp, fun m hm1 hm2 => ?_⟩
    obtain ⟨k, rfl, hk⟩ := Zrr hm1 hm2
    exact r2 _ _ _ (kret _ _ _ _ h6 (h k hk))
  · intro v xs ℓ σ' K2 k2 r2 hI0
    refine hI0 _ fun done rest b h1 h2 h3 h4 h5 h6 => ?_
    obtain ⟨s, rest, rfl, rfl, rfl⟩ := Yp h1
    refine ⟨trivial, ?_⟩
    dsimp only [Xd]
    refine Zo fun K3 k3 => ?_
    dsimp only [Z5, Zae, Y6, Zav, Zk, Zc6, Zb7, Yq, Loc.set, String.reduceBEq, cond_true, cond_false, Za5]
    have H' := H.sub h6
    simp only [h3, h4, H'.sizesA]
    have hsz : 0 ≤ Zb3 D.a D.b s ∧ Zb3 D.a D.b s ≤ 1000 := by cases s <;> simp [Zb3] <;> omega
    refine H'.size s ⟨hsz.1, by unfold Xv; exact Zz5 hsz, nofun, ?_⟩
    rw [Zat]
    refine Wl V.int (fun e => V.int (deg D.S s e : Int)) (Zcl (Zb3 D.a D.b s).toNat) (fun _ _ => trivial) (fun e he => ⟨_, fun _ _ P h => h, fun σ2 s2 Qv hQ => ?_⟩) fun σ2 s2 d hd => ?_
    · dsimp only [Ye, Zjf, Zjt, Yj, Zt, Zk, Loc.set, Loc.bare, String.reduceBEq, cond_true, cond_false, Yy]
      simp only [h3]
      have H2 := H'.sub s2
      refine ⟨H2.instOf (by decide +kernel), x, D, s, e, rfl, H2, hi, h64, fun c hc => ?_⟩
      simp only [Zd, List.length_map]
      rw [Zi0]
      exact hQ _ (Sub.refl.new hc)
    · refine ⟨_, _, Zl (s2 _ _ h5) hd, Zd, ?_, fun d' hd' => k3 _ _ (k2 _ _ (fun _ kI => kI (done ++ [s]) (rest) (d') (rfl) (by simpa using h2) (h3) (rfl) (?_) (((h6.trans s2).new hd).new hd')))⟩
      · have hl : (Zn4 D.S D.a D.b done).length ≤ 1000 * done.length := by
          clear h5 h2
          induction done with
          | nil => simp [Zn4]
          | cons t done ih =>
            have : (Zb3 D.a D.b t).toNat ≤ 1000 := by cases t <;> simp [Zb3] <;> omega
            unfold Zn4 at ih ⊢
            rw [List.flatMap_cons, List.length_append, List.length_map, Zbt, List.length_cons]
            exact Zz4 ih this
        have hd2 : done.length ≤ 2 := by have := congrArg List.length h2; simp at this; exact Zz3 this
        unfold Xv
        simp only [List.length_append, List.length_map, List.length_cons, Zbt]
        exact Zz2 hsz hl hd2
      · rw [Zd, Zp4]
        simp [List.map_map, Function.comp_def]
theorem Zk7 (hK : (KK P).In g.b0) (N : NN g) (M_met : FnM g (KK P) CC "met" 3 (Zt7 CC)) : Xu g 4 (.ref 175) (Zor CC) := by
  refine Xu.mono (Z1 (r := 3) (ps := ["self", "side", "end", "many"]) (hK 175 _ rfl) rfl (Zq (hK 174 _ rfl) rfl rfl) rfl (by intro vs h; obtain ⟨a0, a1, a2, a3, rfl⟩ := Zqw h; rfl) rfl rfl rfl (by decide +kernel)
    (Zc (Yo (at_ (i := 4) rfl) rfl (by decide +kernel) (Z3 (Zs hK hC M_met (Zb 0 rfl rfl) (Za (Zb 1 rfl rfl) (Za (Zb 2 rfl rfl) Ze)) rfl rfl rfl rfl)) (.name (at_ (i := 1) rfl) rfl) (by decide +kernel) Wa (Zi (Zi (Yc hK hC CF.a_rows rfl rfl (Zb 2 rfl rfl)) (Zb 1 rfl rfl) (fun _ _ => rfl)) Zg (fun _ _ => rfl)) (fun _ _ => rfl))
  (Zc (Zj (Y0 (by decide +kernel) (Yv (at_ (i := 5) rfl) (N.n_range) (Zb 3 rfl rfl) rfl) (.name (at_ (i := 1) rfl) rfl) (by decide +kernel) (W8 (Zv (Zb 1 rfl rfl) (Zb 2 rfl rfl) rfl)) (Zb 1 rfl rfl) (fun _ _ => rfl)))
  Zh))) ?_
  rintro xs σ Q E ⟨x, D, s, e, m, rfl, H, hi, h64, hm, h⟩
  refine Yu rfl fun K KE kret _ _ => ?_
  dsimp only [Loc.setAll]
  refine Yl fun K1 k1 r1 => ?_
  dsimp only [Xh, Zap, Zah, Zav, Yj, Zt, Zk, Loc.set, String.reduceBEq, cond_true, cond_false, Yy]
  refine ⟨H.instOf (by decide +kernel), x, D, s, e, rfl, H, hi, h64, fun c hc => ?_⟩
  simp only [Zd]
  have s1 : Sub σ (σ.set c (.list ((Zly D.T s e).map fun t => V.int t.1.n))) := Sub.refl.new hc
  refine ⟨nofun, Wl (fun t : Rw × Addr => V.int t.1.n) (fun t => Zjb t.1.h) (Zly D.T s e) (fun σ' hs => hs _ _ Zd) (fun t ht => ⟨_, fun _ _ P h => h, fun σ2 s2 Qv hQ => ?_⟩) fun σ2 s2 d hd => ?_⟩
  · have H2 := H.sub (s1.trans s2)
    have ht' := (List.mem_filter.1 ht).1
    dsimp only [Zm, Zk, Yq, Loc.set, Loc.bare, String.reduceBEq, cond_true, cond_false, Za5]
    simp only [H2.rowsA]
    exact H2.item hi ht' (H2.item2 ht' (hQ _ Sub.refl))
  · have s3 : Sub σ (σ2.set d (.list ((Zly D.T s e).map fun t => Zjb t.1.h))) := (s1.trans s2).new hd
    refine k1 _ _ ?_
    refine Yg fun K1 r1 => ?_
    dsimp only [Za8, Zae, Y6, Zav, Zk, Loc.set, String.reduceBEq, cond_true, cond_false]
    refine ⟨by exact Zz1 hm, by unfold Xv; exact Zz0 hm, nofun, ?_⟩
    rw [Zat]
    refine Xc V.int (fun h => !decide (some h ∈ (Zly D.T s e).map fun t => t.1.h)) V.int (Zcl (m : Int).toNat) (fun _ _ => trivial) (fun h' _ σ4 s4 => ⟨_, fun P h => h, fun Qb hQ => ?_, fun _ σ5 s5 Qv hQ => ?_⟩) fun σ4 s4 d' hd' => ?_
    · dsimp only [Zk, Xm, Wy, Loc.set, Loc.bare, String.reduceBEq, cond_true, cond_false]
      refine Zrt (hs := (Zly D.T s e).map fun t => t.1.h) ?_ (hQ _ Sub.refl)
      rw [List.map_map]
      exact s4 _ _ Zd
    · dsimp only [Zk, Loc.set, Loc.bare, String.reduceBEq, cond_true, cond_false]
      exact hQ _ Sub.refl
    · have s5 := s3.trans s4
      refine r1 _ _ _ (kret _ _ _ (σ.set d' (.list ((Z0 D.S s e m).map V.int))) ?_ (h d' (s5.none hd')))
      rw [show ((m : Int).toNat) = m by exact Zzz hm, Zoa]
      exact Zd6 s5
theorem Znr (hK : (KK P).In g.b0) (N : NN g) (M_met : FnM g (KK P) CC "met" 3 (Zt7 CC)) : Xu g 4 (.ref 182) (Zs7 CC) := by
  refine Xu.mono (Z1 (r := 3) (ps := ["self", "side", "end", "hue"]) (hK 182 _ rfl) rfl (Zq (hK 181 _ rfl) rfl rfl) rfl (by intro vs h; obtain ⟨a0, a1, a2, a3, rfl⟩ := Zqw h; rfl) rfl rfl rfl (by decide +kernel)
    (Zc (Yz (Z3 (Zs hK hC M_met (Zb 0 rfl rfl) (Za (Zb 1 rfl rfl) (Za (Zb 2 rfl rfl) Ze)) rfl rfl rfl rfl)) (.name (at_ (i := 4) rfl) rfl) (Zc (Yb (Zv (Zi (Zi (Yc hK hC CF.a_rows rfl rfl (Zb 0 rfl rfl)) (Zb 4 rfl rfl) (fun _ _ => rfl)) Zg (fun _ _ => rfl)) (Zb 3 rfl rfl) rfl) (Zc (Zj (Zb 4 rfl rfl))
  Zh) Zh)
  Zh) (fun _ _ => rfl))
  (Zc (Zj Y7)
  Zh))) ?_
  rintro xs σ Q E ⟨x, D, s, e, hh, rfl, H, hi, h64, h⟩
  refine Yu rfl fun K KE kret _ _ => ?_
  dsimp only [Loc.setAll]
  refine Yl fun K1 k1 r1 => ?_
  dsimp only [Zgb, Zap, Zah, Yj, Zt, Zk, Loc.set, String.reduceBEq, cond_true, cond_false, Yy]
  refine ⟨H.instOf (by decide +kernel), x, D, s, e, rfl, H, hi, h64, fun c hc => ?_⟩
  simp only [Zd]
  have s1 : Sub σ (σ.set c (.list ((Zly D.T s e).map fun t => V.int t.1.n))) := Sub.refl.new hc
  refine ⟨nofun, Zaf (fun xs ℓ σ' => ∀ P0 : Prop, (∀ rest : List (Rw × Addr), (xs = rest.map (fun t => V.int t.1.n)) → ((∀ t ∈ rest, t ∈ D.T)) → (Zhe D.S s e hh = (rest.find? fun t => t.1.h == some hh).map (·.1)) → (ℓ "self" = some (.ref x)) → (ℓ "hue" = some (.int hh)) → (Sub (σ.set c (.list ((Zly D.T s e).map fun t => V.int t.1.n))) σ') → P0) → P0) ?_ ?_
    (fun _ kI => kI (_) (rfl) (fun t ht => (List.mem_filter.1 ht).1) (Zmw D s e hh) (rfl) (rfl) (Sub.refl))⟩
  · intro ℓ σ' hI0
    refine hI0 _ fun rest h1 h2 h3 h4 h5 h6 => ?_
    obtain rfl := Xb h1
    refine ⟨h6 _ _ Zd, k1 _ _ ?_⟩
    refine Yg fun K2 r2 => ?_
    dsimp only [Za8, Zm]
    rw [h3] at h
    exact r2 _ _ _ (kret _ _ _ _ (s1.trans h6) h)
  · intro v xs ℓ σ' K2 k2 r2 hI0
    refine hI0 _ fun rest h1 h2 h3 h4 h5 h6 => ?_
    obtain ⟨t, rest, rfl, rfl, rfl⟩ := Yp h1
    refine ⟨h6 _ _ Zd, ?_⟩
    dsimp only [Xd]
    refine Yl fun K3 k3 r3 => ?_
    dsimp only [Zan, Zkl, Zm, Zk, Xm, Wy, Yq, Loc.set, String.reduceBEq, cond_true, cond_false, Za5]
    have H' := H.sub (s1.trans h6)
    simp only [h4, h5, H'.rowsA]
    refine H'.item hi (h2 t (.head _)) (H'.item2 (h2 t (.head _)) (Zlb ?_))
    rw [List.find?_cons] at h3
    cases q : (t.1.h == some hh) with
    | true =>
      rw [q] at h3
      simp only at h3 ⊢
      refine Yg fun K4 r4 => ?_
      dsimp only [Za8, Zk, Loc.set, String.reduceBEq, cond_true]
      rw [h3] at h
      exact r4 _ _ _ (r3 _ _ _ (r2 _ _ _ (r1 _ _ _ (kret _ _ _ _ (s1.trans h6) h))))
    | false =>
      rw [q] at h3
      simp only at h3 ⊢
      exact k3 _ _ (k2 _ _ (fun _ kI => kI (rest) (rfl) (fun t' ht' => h2 t' (.tail _ ht')) (h3) (h4) (h5) (h6)))
end
section
open PySem PySem.W PyProof.Rows
variable {g : Gr} {P : Params}
inductive ChI (S : List Rw) (s : Bool) (e one other : Int) (σ : AH) (x b : Addr) (n : Nat) (ℓ : Loc) (σ' : AH) : Prop
  | mk (l : List Rw) (h0 : Zbc S s e one other l) (h1 : n = S.length - l.length) (h2 : σ' = σ.set b (.list (l.map fun x => V.int x.n))) (h3 : ℓ "self" = some (.ref x)) (h4 : ℓ "found" = some (.ref b)) (h5 : ℓ "one" = some (.int one)) (h6 : ℓ "other" = some (.int other)) (h7 : ℓ "side" = some (.str (Zb8 (Xx s l.length)))) (h8 : ℓ "want" = some (.int (Xj one other l.length))) (h9 : ℓ "number" = some (Zvb (Zhe S (Xx s l.length) (Zkk s e l) (Xj one other l.length)))) : ChI S s e one other σ x b n ℓ σ'
theorem Zj6 (hK : (KK P).In g.b0) (N : NN g) (F_other_side : FnG g "other_side" 4 Zoq) (M_with_hue : FnM g (KK P) CC "with_hue" 4 (Zs7 CC)) (M_end_of : FnM g (KK P) CC "end_of" 4 Zlt) : Xu g 5 (.ref 189) (Zo3 CC) := by
  refine Xu.mono (Z1 (r := 4) (ps := ["self", "side", "end", "one", "other"]) (hK 189 _ rfl) rfl (Zq (hK 188 _ rfl) rfl rfl) rfl (by intro vs h; obtain ⟨a0, a1, a2, a3, a4, rfl⟩ := Zuc h; rfl) rfl rfl rfl (by decide +kernel)
    (Zc (Z6 5 rfl rfl (Zw Ze) (fun _ => rfl))
  (Zc (Z6 6 rfl rfl (Zb 4 rfl rfl) (fun _ => rfl))
  (Zc (Z6 7 rfl rfl (Zs hK hC M_with_hue (Zb 0 rfl rfl) (Za (Zb 1 rfl rfl) (Za (Zb 2 rfl rfl) (Za (Zb 6 rfl rfl) Ze))) rfl rfl rfl rfl) (fun _ => rfl))
  (Zc (Zhp (Zv (Zb 7 rfl rfl) Y7 rfl) (Zc (Yn (Za0 (Zb 5 rfl rfl) (Za (Zb 7 rfl rfl) Ze) rfl rfl rfl rfl) (fun _ => rfl))
  (Zc (Z6 1 rfl rfl (Zp 8 rfl F_other_side (Za (Zb 1 rfl rfl) Ze) rfl) (fun _ => rfl))
  (Zc (Z6 6 rfl rfl (Zr (Zr (Zb 3 rfl rfl) (Zb 4 rfl rfl)) (Zb 6 rfl rfl)) (fun _ => rfl))
  (Zc (Z6 7 rfl rfl (Zs hK hC M_with_hue (Zb 0 rfl rfl) (Za (Zb 1 rfl rfl) (Za (Zs hK hC M_end_of (Zb 0 rfl rfl) (Za (Zb 7 rfl rfl) (Za (Zb 1 rfl rfl) Ze)) rfl rfl rfl rfl) (Za (Zb 6 rfl rfl) Ze))) rfl rfl rfl rfl) (fun _ => rfl))
  Zh)))))
  (Zc (Zj (Zb 5 rfl rfl))
  Zh)))))) ?_
  rintro xs σ Q E ⟨x, D, s, e, one, other, rfl, H, hi, h64, hp, hf, hne, h⟩
  refine Yu rfl fun K KE kret _ _ => ?_
  dsimp only [Loc.setAll]
  refine Zo fun K1 k1 => ?_
  dsimp only [Z5, Zay, Yj, List.length_nil]
  refine ⟨Yh rfl, fun b hb => k1 _ _ ?_⟩
  refine Zo fun K1 k1 => ?_
  dsimp only [Z5, Zk, Loc.set, String.reduceBEq, cond_true, cond_false]
  refine k1 _ _ ?_
  have Hs : ∀ l : List V, Zu (σ.set b (.list l)) CC x D := fun l => H.sub (Sub.refl.new hb)
  refine Zo fun K1 k1 => ?_
  dsimp only [Z5, Yj, Zt, Zk, Loc.set, String.reduceBEq, cond_true, cond_false, Yy]
  refine ⟨(Hs []).instOf (by decide +kernel), x, D, s, e, other, rfl, Hs [], hi, h64, k1 _ _ ?_⟩
  refine Zo fun K1 k1 => ?_
  refine ⟨ChI D.S s e one other σ x b, ⟨_, [], .nil, rfl, rfl, rfl, rfl, rfl, rfl, rfl, rfl, rfl⟩, ?_⟩
  rintro n ℓ σ' ⟨l, hP, rfl, rfl, e1, e2, e3, e4, e5, e6, e7⟩
  dsimp only [Zm, Zk, Xm, Wy]
  simp only [e7]
  cases hw : Zhe D.S (Xx s l.length) (Zkk s e l) (Xj one other l.length) with
  | none =>
    simp only [Zvb, Zdj, Bool.not_true]
    refine k1 _ _ ?_
    refine Yg fun K2 r2 => ?_
    dsimp only [Za8, Zk]
    simp only [e2]
    exact r2 _ _ _ (kret _ _ _ _ Sub.refl (h b l hP (Zmv hw) hb))
  | some r =>
    obtain ⟨w1, w2, w3⟩ := Zmu hw
    have hP' : Zbc D.S s e one other (l ++ [r]) := hP.snoc w1 w3 w2
    have hl := hP'.len hp hi hne hf
    have hST : D.S.length = D.T.length := by simp [HD.S]
    rw [List.length_append, List.length_singleton] at hl
    simp only [Zvb, Zdj, Bool.not_false]
    rw [hw] at e7
    simp only [Zvb] at e7
    refine Zo fun K2 k2 => ?_
    dsimp only [tDo, Xf, Zga, Wr, Yj, Zt, Zk]
    simp only [e2, e7, Zd]
    refine ⟨trivial, by simp [Xv]; exact Zzy h64 hl hST, k2 _ _ ?_⟩
    rw [Zck]
    have hmap : ((l.map fun x => V.int x.n) ++ [V.int r.n]) = (l ++ [r]).map fun x => V.int x.n := by simp
    rw [hmap]
    refine Zo fun K2 k2 => ?_
    dsimp only [Z5, Ye, Yj, Zt, Zk]
    simp only [e5]
    refine ⟨_, rfl, k2 _ _ ?_⟩
    refine Zo fun K2 k2 => ?_
    dsimp only [Z5, Zk, Zc6, Zb7, Loc.set, String.reduceBEq, cond_false]
    simp only [e3, e4, e6]
    refine k2 _ _ ?_
    refine Zo fun K2 k2 => ?_
    dsimp only [Z5, Yj, Zt, Zk, Loc.set, String.reduceBEq, cond_true, cond_false, Yy]
    simp only [e1, e7]
    obtain ⟨t, ht, rfl⟩ := Zpe w1
    have H' := Hs ((l ++ [t.1]).map fun x => V.int x.n)
    refine ⟨H'.instOf (by decide +kernel), H'.instOf (by decide +kernel), x, D, _, t, rfl, H', hi, ht, x, D, _, _, _, rfl, H', hi, h64, k2 _ _ ?_⟩
    refine ⟨D.S.length - (l ++ [t.1]).length, by rw [List.length_append, List.length_singleton]; exact Zu1 hl, l ++ [t.1], hP', rfl, rfl, e1, e2, e3, e4, ?_, ?_, ?_⟩
    · simp only [List.length_append, List.length_singleton, Zbs]; rfl
    · simp only [List.length_append, List.length_singleton, Zcm]; rfl
    · simp only [List.length_append, List.length_singleton, Zbs, Zcm, Zje]; rfl
end
section
open PySem PySem.W PyProof.Rows
variable {g : Gr} {P : Params}
theorem Zvh (hK : (KK P).In g.b0) (N : NN g) : Xu g 2 (.ref 196) (Zs9 CC) := by
  refine Xu.mono (Z1 (r := 1) (ps := ["self", "chain", "one", "other"]) (hK 196 _ rfl) rfl (Zq (hK 195 _ rfl) rfl rfl) rfl (by intro vs h; obtain ⟨a0, a1, a2, a3, rfl⟩ := Zqw h; rfl) rfl rfl rfl (by decide +kernel)
    (Zc (Yz (Z3 (Zb 1 rfl rfl)) (.name (at_ (i := 4) rfl) rfl) (Zc (Yw (Zi (Yc hK hC CF.a_rows rfl rfl (Zb 0 rfl rfl)) (Zb 4 rfl rfl) (fun _ _ => rfl)) Zg (Zr (Zr (Zb 2 rfl rfl) (Zb 3 rfl rfl)) (Zi (Zi (Yc hK hC CF.a_rows rfl rfl (Zb 0 rfl rfl)) (Zb 4 rfl rfl) (fun _ _ => rfl)) Zg (fun _ _ => rfl))) (fun _ => rfl))
  Zh) (fun _ _ => rfl))
  Zh)) ?_
  rintro xs σ Q E ⟨x, D, c, nums, one, other, rfl, H, hi, hc, hca, hnd, hks, h⟩
  refine Yu rfl fun K KE kret kend _ => ?_
  dsimp only [Loc.setAll]
  refine Zo fun K1 k1 => ?_
  dsimp only [Zgb, Zap, Zah, Zk, Loc.set, String.reduceBEq, cond_true, cond_false]
  simp only [hc]
  refine ⟨nofun, Zaf (fun xs ℓ σ' => ∀ P0 : Prop, (∀ done rest : List Int, (done ++ rest = nums) → (xs = rest.map V.int) → (ℓ "self" = some (.ref x)) → (ℓ "one" = some (.int one)) → (ℓ "other" = some (.int other)) → (Zu σ' CC x (D.flip done one other)) → (∀ y, y ∉ D.T.map (·.2) → σ' y = σ y) → P0) → P0) ?_ ?_
    (fun _ kI => kI ([]) (nums) (rfl) (rfl) (rfl) (rfl) (rfl) (by rw [Zrv]; exact H) (fun _ _ => rfl))⟩
  · intro ℓ σ' hI0
    refine hI0 _ fun done rest h1 h2 h3 h4 h5 h6 h7 => ?_
    obtain rfl := Xb h2
    rw [List.append_nil] at h1
    subst h1
    refine ⟨(h7 c hca).trans hc, k1 _ _ ?_⟩
    dsimp only [Zan]
    exact kend _ _ _ Sub.refl (h σ' h6 h7)
  · intro v xs ℓ σ' K2 k2 r2 hI0
    refine hI0 _ fun done rest h1 h2 h3 h4 h5 h6 h7 => ?_
    obtain ⟨k, rest, rfl, rfl, rfl⟩ := Yp h2
    refine ⟨(h7 c hca).trans hc, ?_⟩
    dsimp only [Xd]
    obtain ⟨t, ht, rfl, hu, hh⟩ := hks k (by rw [← h1]; simp)
    have hnin : t.1.n ∉ done := fun q => by
      rw [← h1, List.nodup_append] at hnd
      exact hnd.2.2 _ q _ (.head _) rfl
    have ht' : (t.1, t.2) ∈ (D.flip done one other).T := List.mem_map.2 ⟨t, ht, by rw [Xl hnin]⟩
    have hi' : Inc (D.flip done one other).S := Zl7 hi
    refine Zo fun K3 k3 => ?_
    dsimp only [Wi]
    dsimp only [Zm, Zk, Zc6, Zb7, Yq, Loc.set, String.reduceBEq, cond_true, cond_false, Za5]
    simp only [h3, h4, h5, h6.rowsA]
    refine h6.item hi' ht' (h6.item2 ht' ?_)
    simp only [hh, Zjb]
    refine h6.item hi' ht' ?_
    simp only [Wj, h6.row _ ht']
    refine ⟨2, rfl, by simp [Zht], k3 _ _ (k2 _ _ (fun _ kI => kI (done ++ [t.1.n]) (rest) (by simpa using h1) (rfl) (h3) (h4) (h5) (?_) (fun y hy => ?_)))⟩
    · rw [← Zps hi ht hnin hh]
      have := h6.setHue hi' ht' (some (one + other - hu))
      simpa [Zht, Zjb] using this
    · rw [Zf fun z => hy (by rw [z]; exact List.mem_map.2 ⟨t, ht, rfl⟩)]
      exact h7 y hy
theorem Zvg (hK : (KK P).In g.b0) (N : NN g) (M_open_hues : FnM g (KK P) CC "open_hues" 5 (Zor CC)) (M_chain_from : FnM g (KK P) CC "chain_from" 5 (Zo3 CC)) : Xu g 6 (.ref 203) (Zs8 CC) := by
  refine Xu.mono (Z1 (r := 5) (ps := ["self", "left", "right", "many"]) (hK 203 _ rfl) rfl (Zq (hK 202 _ rfl) rfl rfl) rfl (by intro vs h; obtain ⟨a0, a1, a2, a3, rfl⟩ := Zqw h; rfl) rfl rfl rfl (by decide +kernel)
    (Zc (Z6 4 rfl rfl (Zw Ze) (fun _ => rfl))
  (Zc (Yz (Z3 (Zs hK hC M_open_hues (Zb 0 rfl rfl) (Za (Z7 (at_ (i := 8) rfl) (N.n_LEFT) (fun _ => Y9.mpr ⟨Za4 (by decide), _, rfl⟩)) (Za (Zb 1 rfl rfl) (Za (Zb 3 rfl rfl) Ze))) rfl rfl rfl rfl)) (.name (at_ (i := 5) rfl) rfl) (Zc (Yz (Z3 (Zs hK hC M_open_hues (Zb 0 rfl rfl) (Za (Z7 (at_ (i := 9) rfl) (N.n_RIGHT) (fun _ => Y9.mpr ⟨Za4 (by decide), _, rfl⟩)) (Za (Zb 2 rfl rfl) (Za (Zb 3 rfl rfl) Ze))) rfl rfl rfl rfl)) (.name (at_ (i := 6) rfl) rfl) (Zc (Z6 7 rfl rfl (Zs hK hC M_chain_from (Zb 0 rfl rfl) (Za (Z7 (at_ (i := 9) rfl) (N.n_RIGHT) (fun _ => Y9.mpr ⟨Za4 (by decide), _, rfl⟩)) (Za (Zb 2 rfl rfl) (Za (Zb 6 rfl rfl) (Za (Zb 5 rfl rfl) Ze)))) rfl rfl rfl rfl) (fun _ => rfl))
  (Zc (Yn (Za0 (Zb 4 rfl rfl) (Za (Zx (Za (Zp 10 rfl (Zy N.n_len Wb) (Za (Zb 7 rfl rfl) Ze) rfl) (Za (Zb 5 rfl rfl) (Za (Zb 6 rfl rfl) (Za (Zb 7 rfl rfl) Ze))))) Ze) rfl rfl rfl rfl) (fun _ => rfl))
  (Zc (Z6 7 rfl rfl (Zs hK hC M_chain_from (Zb 0 rfl rfl) (Za (Z7 (at_ (i := 8) rfl) (N.n_LEFT) (fun _ => Y9.mpr ⟨Za4 (by decide), _, rfl⟩)) (Za (Zb 1 rfl rfl) (Za (Zb 5 rfl rfl) (Za (Zb 6 rfl rfl) Ze)))) rfl rfl rfl rfl) (fun _ => rfl))
  (Zc (Yn (Za0 (Zb 4 rfl rfl) (Za (Zx (Za (Zp 10 rfl (Zy N.n_len Wb) (Za (Zb 7 rfl rfl) Ze) rfl) (Za (Zb 6 rfl rfl) (Za (Zb 5 rfl rfl) (Za (Zb 7 rfl rfl) Ze))))) Ze) rfl rfl rfl rfl) (fun _ => rfl))
  Zh)))) (fun _ _ => rfl))
  Zh) (fun _ _ => rfl))
  (Zc (Zj (Zb 4 rfl rfl))
  Zh)))) ?_
  rintro xs σ Q E ⟨x, D, l, r, m, rfl, H, hi, h64, hp, hm, hdis, h⟩
  refine Yu rfl fun K KE kret kend _ => ?_
  dsimp only [Loc.setAll]
  refine Zo fun K1 k1 => ?_
  dsimp only [Z5, Zay, Yj, List.length_nil]
  refine ⟨Yh rfl, fun b hb => k1 _ _ ?_⟩
  have w0 : Zr9 D.S l r m σ b (σ.set b (.list [])) [] := ⟨Zd, Sub.refl.new hb, fun t ht => absurd ht (by simp)⟩
  refine Zo fun K1 k1 => ?_
  dsimp only [Zgb, Zap, Zah, Yj, Zt, Zm, Zk, Loc.set, String.reduceBEq, cond_true, cond_false, Yy]
  have H1 := H.sub w0.sub
  refine ⟨H1.instOf (by decide +kernel), x, D, false, l, m, rfl, H1, hi, h64, by exact Nat.le_trans hm (by decide), fun o1 ho1 => ?_⟩
  simp only [Zd]
  refine ⟨nofun, Zaf (fun xs ℓ σ' => ∀ P0 : Prop, (∀ (done rest : List Int) (es : List (Int × Int × Int × Addr)), (done ++ rest = Z0 D.S false l m) → (xs = rest.map V.int) → (ℓ "self" = some (.ref x)) → (ℓ "left" = some (.int l)) → (ℓ "right" = some (.int r)) → (ℓ "many" = some (.int (m : Nat))) → (ℓ "found" = some (.ref b)) → (Zr9 D.S l r m σ b σ' es) → (σ' o1 = some (.list ((Z0 D.S false l m).map V.int))) → ((∀ one ∈ done, ∀ two ∈ Z0 D.S true r m, Zn6 es one two ∧ Zn6 es two one)) → (es.length ≤ 2 * (Z0 D.S true r m).length * done.length) → P0) → P0) ?_ ?_
    (fun _ kI => kI ([]) (Z0 D.S false l m) ([]) (rfl) (rfl) (rfl) (rfl) (rfl) (rfl) (rfl) (w0.keep ho1) (Zd) (fun _ h => absurd h (by simp)) (by simp))⟩
  · intro ℓ σ' hI0
    refine hI0 _ fun done rest es h1 h2 e1 e2 e3 e4 e5 W ho hg hl => ?_
    obtain rfl := Xb h2
    rw [List.append_nil] at h1
    subst h1
    refine ⟨ho, k1 _ _ ?_⟩
    refine Yg fun K2 r2 => ?_
    dsimp only [Za8, Zk]
    simp only [e5]
    exact r2 _ _ _ (kret _ _ _ _ Sub.refl (h σ' b es W.sub hb W.fb (fun t ht => ⟨(W.way t ht).1, (W.way t ht).2.1⟩) hg))
  · intro v xs ℓ σ' K2 k2 r2 hI0
    refine hI0 _ fun done rest es h1 h2 e1 e2 e3 e4 e5 W ho hg hl => ?_
    obtain ⟨one, rest, rfl, rfl, rfl⟩ := Yp h2
    have hone : one ∈ Z0 D.S false l m := by rw [← h1]; simp
    refine ⟨ho, ?_⟩
    dsimp only [Xd]
    refine Zo fun K3 k3 => ?_
    dsimp only [Zgb, Zap, Zah, Yj, Zt, Zm, Zk, Loc.set, String.reduceBEq, cond_false, Yy]
    simp only [e1, e3, e4]
    have H2 := H.sub W.sub
    refine ⟨H2.instOf (by decide +kernel), x, D, true, r, m, rfl, H2, hi, h64, by exact Nat.le_trans hm (by decide), fun o2 ho2 => ?_⟩
    simp only [Zd]
    have hlD : done.length ≤ m := by
      have := congrArg List.length h1
      have := Zb6 (S := D.S) (s := false) (e := l) (m := m)
      simp at *; omega
    have hlT : (Z0 D.S true r m).length ≤ m := Zb6
    refine ⟨nofun, Zaf (fun xs ℓ σ2 => ∀ P0 : Prop, (∀ (done2 rest2 : List Int) (fs : List (Int × Int × Int × Addr)), (done2 ++ rest2 = Z0 D.S true r m) → (xs = rest2.map V.int) → (ℓ "self" = some (.ref x)) → (ℓ "left" = some (.int l)) → (ℓ "right" = some (.int r)) → (ℓ "many" = some (.int (m : Nat))) → (ℓ "found" = some (.ref b)) → (ℓ "one" = some (.int one)) → (Zr9 D.S l r m σ b σ2 fs) → (σ2 o1 = some (.list ((Z0 D.S false l m).map V.int))) → (σ2 o2 = some (.list ((Z0 D.S true r m).map V.int))) → ((∀ one ∈ done, ∀ two ∈ Z0 D.S true r m, Zn6 fs one two ∧ Zn6 fs two one)) → ((∀ two ∈ done2, Zn6 fs one two ∧ Zn6 fs two one)) → (fs.length ≤ 2 * (Z0 D.S true r m).length * done.length + 2 * done2.length) → P0) → P0) ?_ ?_
      (fun _ kI => kI ([]) (Z0 D.S true r m) (es) (rfl) (rfl) (e1) (e2) (e3) (e4) (e5) (rfl) (W.keep ho2) (Zl ho ho2) (Zd) (hg) (fun _ h => absurd h (by simp)) (by simpa using hl))⟩
    · intro ℓ σ2 hI0
      refine hI0 _ fun done2 rest2 fs h3 h4 f1 f2 f3 f4 f5 f6 W2 ho3 ho4 hg2 hg3 hl2 => ?_
      obtain rfl := Xb h4
      rw [List.append_nil] at h3
      subst h3
      refine ⟨ho4, k3 _ _ (k2 _ _ (fun _ kI => kI (done ++ [one]) (rest) (fs) (by simpa using h1) (rfl) (f1) (f2) (f3) (f4) (f5) (W2) (ho3) (fun o hO two hT => ?_) (?_)))⟩
      · rcases List.mem_append.1 hO with q | q
        · exact hg2 o q two hT
        · rw [List.mem_singleton.1 q]; exact hg3 two hT
      · rw [List.length_append, List.length_singleton, Nat.mul_add]; exact Zzx hl2
    · intro v xs ℓ σ2 K4 k4 r4 hI0
      refine hI0 _ fun done2 rest2 fs h3 h4 f1 f2 f3 f4 f5 f6 W2 ho3 ho4 hg2 hg3 hl2 => ?_
      obtain ⟨two, rest2, rfl, rfl, rfl⟩ := Yp h4
      have htwo : two ∈ Z0 D.S true r m := by rw [← h3]; simp
      have hne : two ≠ one := fun z => hdis one hone (z ▸ htwo)
      have hlen2 : fs.length ≤ 2 * m * m + 2 * m := by
        have h5 : done2.length ≤ m := by have := congrArg List.length h3; simp at this; exact Zzw hlT this
        have h6 : 2 * (Z0 D.S true r m).length * done.length ≤ 2 * m * m := Nat.mul_le_mul (by exact Zzv hlT) hlD
        exact Zzu hl2 h5 h6
      have hmm : 2 * m * m ≤ 2 * 100 * 100 := Nat.mul_le_mul (by exact Zzt hm) hm
      refine ⟨ho4, ?_⟩
      dsimp only [Xd]
      have H3 := H.sub W2.sub
      refine Zo fun K5 k5 => ?_
      dsimp only [Z5, Yj, Zt, Zm, Zk, Loc.set, String.reduceBEq, cond_true, cond_false, Yy]
      simp only [f1, f3, f6]
      refine ⟨H3.instOf (by decide +kernel), x, D, true, r, two, one, rfl, H3, hi, h64, hp, (Wg.1 htwo).2, hne, fun c1 ch1 hp1 hd1 hc1 => k5 _ _ ?_⟩
      have c1b : b ≠ c1 := fun z => by rw [← z, W2.fb] at hc1; cases hc1
      have W3 := W2.add hb hc1 ch1 (s := true) (hue := one) (other := two) hone htwo hp1 hd1
      refine Zo fun K5 k5 => ?_
      dsimp only [tDo, Xf, Zga, Wr, Ye, Zjf, Zjt, Wc, Yj, Zt, Zk, Loc.set, String.reduceBEq, cond_true, cond_false, List.length_cons, List.length_nil]
      simp only [f5, f6, Zd, List.length_map, Zf c1b, W2.fb]
      refine ⟨trivial, Yh rfl, by simp [Xv]; exact Zzs hm hlen2 hmm, k5 _ _ ?_⟩
      have hq1 : (fs.map Zkm ++ [V.tup [V.int (ch1.length : Int), V.int one, V.int two, V.ref c1]]) = (fs ++ [((ch1.length : Int), one, two, c1)]).map Zkm := by simp [Zkm]
      rw [hq1]
      generalize hσ3 : (σ2.set c1 (.list (ch1.map fun x => V.int x.n))).set b (.list ((fs ++ [((ch1.length : Int), one, two, c1)]).map Zkm)) = σ3 at W3 ⊢
      have ob1 : o1 ≠ b := fun z => by rw [z, W2.fb] at ho3; injection ho3 with ho3; injection ho3 with ho3; rw [z, Zd] at ho1; cases ho1
      have ob2 : o2 ≠ b := fun z => by rw [z, W.fb] at ho2; cases ho2
      have go1 : σ3 o1 = some (.list ((Z0 D.S false l m).map V.int)) := by rw [← hσ3, Zf ob1]; exact Zl ho3 hc1
      have go2 : σ3 o2 = some (.list ((Z0 D.S true r m).map V.int)) := by rw [← hσ3, Zf ob2]; exact Zl ho4 hc1
      have H4 := H.sub W3.sub
      refine Zo fun K5 k5 => ?_
      dsimp only [Z5, Yj, Zt, Zm, Zk, Loc.set, String.reduceBEq, cond_true, cond_false, Yy]
      simp only [f1, f2, f6]
      refine ⟨H4.instOf (by decide +kernel), x, D, false, l, one, two, rfl, H4, hi, h64, hp, (Wg.1 hone).2, Ne.symm hne, fun c2 ch2 hp2 hd2 hc2 => k5 _ _ ?_⟩
      have c2b : b ≠ c2 := fun z => by rw [← z, W3.fb] at hc2; cases hc2
      have W4 := W3.add hb hc2 ch2 (s := false) (hue := two) (other := one) htwo hone hp2 hd2
      refine Zo fun K5 k5 => ?_
      dsimp only [tDo, Xf, Zga, Wr, Ye, Zjf, Zjt, Wc, Yj, Zt, Zk, Loc.set, String.reduceBEq, cond_true, cond_false, List.length_cons, List.length_nil]
      simp only [f5, f6, Zd, List.length_map, Zf c2b, W3.fb]
      refine ⟨trivial, Yh rfl, by simp [Xv]; exact Zzr hm hlen2 hmm, k5 _ _ (k4 _ _ ?_)⟩
      have hq2 : ((fs ++ [((ch1.length : Int), one, two, c1)]).map Zkm ++ [V.tup [V.int (ch2.length : Int), V.int two, V.int one, V.ref c2]]) = ((fs ++ [((ch1.length : Int), one, two, c1)]) ++ [((ch2.length : Int), two, one, c2)]).map Zkm := by simp [Zkm]
      rw [hq2]
      refine (fun _ kI => kI (done2 ++ [two]) (rest2) (_) (by simpa using h3) (rfl) (f1) (f2) (f3) (f4) (f5) (f6) (W4) (?_) (?_) (fun o hO t hT => ⟨(hg2 o hO t hT).1.more.more, (hg2 o hO t hT).2.more.more⟩) (fun t hT => ?_) (?_))
      · rw [Zf ob1]; exact Zl go1 hc2
      · rw [Zf ob2]; exact Zl go2 hc2
      · rcases List.mem_append.1 hT with q | q
        · exact ⟨(hg3 t q).1.more.more, (hg3 t q).2.more.more⟩
        · rw [List.mem_singleton.1 q]
          exact ⟨⟨((ch1.length : Int), one, two, c1), by simp, rfl, rfl⟩, ⟨((ch2.length : Int), two, one, c2), by simp, rfl, rfl⟩⟩
      · simp only [List.length_append, List.length_singleton]; exact Zzq hl2
end
section
open PySem PySem.W PyProof.Rows
variable {g : Gr} {P : Params}
theorem Zvl (hK : (KK P).In g.b0) (N : NN g) (M_open_hues : FnM g (KK P) CC "open_hues" 6 (Zor CC)) (M_ways : FnM g (KK P) CC "ways" 6 (Zs8 CC)) (M_turn : FnM g (KK P) CC "turn" 6 (Zs9 CC)) : Xu g 7 (.ref 208) (Zq6 CC) := by
  refine Xu.mono (Z1 (r := 6) (ps := ["self", "number", "left", "right", "many"]) (hK 208 _ rfl) rfl (Zq (hK 207 _ rfl) rfl rfl) rfl (by intro vs h; obtain ⟨a0, a1, a2, a3, a4, rfl⟩ := Zuc h; rfl) rfl rfl rfl (by decide +kernel)
    (Zc (Yw (Yc hK hC CF.a_rows rfl rfl (Zb 0 rfl rfl)) (Zb 1 rfl rfl) (Zw (Za (Zb 2 rfl rfl) (Za (Zb 3 rfl rfl) (Za Y7 Ze)))) (fun _ => rfl))
  (Zc (Yo (at_ (i := 6) rfl) rfl (by decide +kernel) (Z3 (Zs hK hC M_open_hues (Zb 0 rfl rfl) (Za (Z7 (at_ (i := 10) rfl) (N.n_LEFT) (fun _ => Y9.mpr ⟨Za4 (by decide), _, rfl⟩)) (Za (Zb 2 rfl rfl) (Za (Zb 4 rfl rfl) Ze))) rfl rfl rfl rfl)) (.name (at_ (i := 1) rfl) rfl) (by decide +kernel) (W8 (Zv (Zb 1 rfl rfl) (Zs hK hC M_open_hues (Zb 5 rfl rfl) (Za (Z7 (at_ (i := 2) rfl) (N.n_RIGHT) (fun _ => Y9.mpr ⟨Za4 (by decide), _, rfl⟩)) (Za (Zb 4 rfl rfl) (Za (Zb 3 rfl rfl) Ze))) rfl rfl rfl rfl) rfl)) (Zb 1 rfl rfl) (fun _ _ => rfl))
  (Zc (Yb (Zv (Zb 6 rfl rfl) (Zw Ze) rfl) (Zc (Yw (Zi (Yc hK hC CF.a_rows rfl rfl (Zb 0 rfl rfl)) (Zb 1 rfl rfl) (fun _ _ => rfl)) Zg (Zi (Zb 6 rfl rfl) Zg (fun _ _ => rfl)) (fun _ => rfl))
  (Zc (Zj (Zx (Za (Zb 1 rfl rfl) (Za (Zi (Zb 6 rfl rfl) Zg (fun _ _ => rfl)) (Za Y7 (Za (Zw Ze) Ze))))))
  Zh)) Zh)
  (Zc (Zdc (.cons (at_ (i := 7) rfl) rfl (.cons (at_ (i := 5) rfl) rfl (.cons (at_ (i := 8) rfl) rfl (.cons (at_ (i := 9) rfl) rfl .nil)))) (Zp 11 rfl (Zy N.n_min Zoi) (Za (Zs hK hC M_ways (Zb 0 rfl rfl) (Za (Zb 2 rfl rfl) (Za (Zb 3 rfl rfl) (Za (Zb 4 rfl rfl) Ze))) rfl rfl rfl rfl) Ze) rfl) (fun _ => rfl) (fun _ => rfl))
  (Zc (Yn (Zs hK hC M_turn (Zb 0 rfl rfl) (Za (Zb 9 rfl rfl) (Za (Zb 5 rfl rfl) (Za (Zb 8 rfl rfl) Ze))) rfl rfl rfl rfl) (fun _ => rfl))
  (Zc (Yw (Zi (Yc hK hC CF.a_rows rfl rfl (Zb 0 rfl rfl)) (Zb 1 rfl rfl) (fun _ _ => rfl)) Zg (Zb 5 rfl rfl) (fun _ => rfl))
  (Zc (Zj (Zx (Za (Zb 1 rfl rfl) (Za (Zb 5 rfl rfl) (Za (Zb 8 rfl rfl) (Za (Zp 12 rfl (Zdl N.n_list Zgm) (Za (Zb 9 rfl rfl) Ze) rfl) Ze))))))
  Zh)))))))) ?_
  rintro xs σ Q E ⟨x, D, t, m, rfl, ht, H, hi, h64, hm, hp0, hdl, hdr, h⟩
  refine Yu rfl fun K KE kret kend _ => ?_
  dsimp only [Loc.setAll]
  refine Yl fun K1 k1 r1 => ?_
  dsimp only [Zay, Yj, Zt, Zm, Zk, Loc.set, String.reduceBEq, cond_true, cond_false, List.length_cons, List.length_nil, Za5, Wi]
  refine ⟨Yh rfl, fun p hp => ?_⟩
  have H0 := H.sub (Sub.refl.new (o := .list [V.int t.1.l, V.int t.1.r, V.none]) hp)
  simp only [H0.rowsA]
  obtain ⟨e0, er0⟩ := H0.rows
  simp only [Wj, er0]
  refine ⟨_, rfl, by simp [Xv]; exact Nat.le_of_lt (Nat.lt_of_lt_of_le h64 (by decide)), fun ep => k1 _ _ ?_⟩
  have H1 := H.renew hi ht hp ep
  generalize hσ1 : (σ.set p (.list [V.int t.1.l, V.int t.1.r, V.none])).set D.rd (.dictI (Zfb (D.T.map fun t => (t.1.n, V.ref t.2)) t.1.n (.ref p)) ep) = σ1 at H1
  generalize hD1 : D.renew t.1.n p = D1 at H1
  have hS1 : D1.S = D.S.map (Wm t.1.n none) := by rw [← hD1]; exact HD.renew_S
  rw [← hS1] at hp0 h
  have hi1 : Inc D1.S := by rw [hS1]; exact Zcx (fun _ => Wv) hi
  have h641 : D1.T.length < 64 := by rw [← hD1]; simpa [HD.renew] using h64
  have ht1 : (Wm t.1.n none t.1, p) ∈ D1.T := by rw [← hD1]; exact Zo5 ht rfl
  have prow : (Wm t.1.n none t.1).n = t.1.n ∧ (Wm t.1.n none t.1).l = t.1.l ∧ (Wm t.1.n none t.1).r = t.1.r ∧ (Wm t.1.n none t.1).h = none := by unfold Wm; rw [if_pos rfl]; exact ⟨rfl, rfl, rfl, rfl⟩
  have hxS : Wm t.1.n none t.1 ∈ D1.S := List.mem_map.2 ⟨_, ht1, rfl⟩
  have sm1 : D1.a = D.a ∧ D1.b = D.b ∧ D1.nx = D.nx ∧ D1.d = D.d ∧ D1.rd = D.rd := by rw [← hD1]; exact ⟨rfl, rfl, rfl, rfl, rfl⟩
  have keep1 : ∀ y o, σ y = some o → ¬ D.foot y → σ1 y = some o := fun y o q nf => by
    rw [← hσ1, Zf fun z => nf (.inr (.inl z))]
    exact Zl q hp
  have addr1 : ∀ y, y ∈ D1.T.map (·.2) → y = p ∨ y ∈ D.T.map (·.2) := fun y q => Zm8 (by rw [hD1]; exact q)
  have fr1 : ∀ {T' : List (Rw × Addr)}, T'.map (·.2) = D1.T.map (·.2) → ∀ y, HD.foot { D1 with T := T' } y → D.foot y ∨ σ y = none := fun {T'} hT y q => by
    rcases q with q | q | q
    · exact .inl (.inl (q.trans sm1.2.2.2.1))
    · exact .inl (.inr (.inl (q.trans sm1.2.2.2.2)))
    · have q : y ∈ T'.map (·.2) := q
      rw [hT] at q
      rcases addr1 y q with w | w
      · exact .inr (by rw [w]; exact hp)
      · exact .inl (.inr (.inr w))
  have some1 : ∀ y, σ y ≠ none → σ1 y ≠ none := fun y q => by
    cases e : σ y with
    | none => exact absurd e q
    | some o =>
      rw [← hσ1]
      by_cases z : y = D.rd
      · rw [z, Zd]; simp
      · rw [Zf z, Zl e hp]; simp
  have none1 : ∀ y, σ1 y = none → σ y = none := fun y q => by
    cases e : σ y with
    | none => rfl
    | some o => exact absurd q (some1 y (by rw [e]; simp))
  have hdeg : ∀ s, deg D1.S s (Zar t.1.l t.1.r s) ≤ m := fun s => by
    rw [hS1, Ztz fun _ _ => Zhv]
    cases s with
    | false => exact hdl
    | true => exact hdr
  have hopen : ∀ s, ∃ hu, hu ∈ Z0 D1.S s (Zar t.1.l t.1.r s) m := fun s => by
    obtain ⟨hu, a, b, c⟩ := Zla (hdeg s) ⟨_, hxS, by cases s <;> simp [Rw.e, Zar, prow], prow.2.2.2⟩
    exact ⟨hu, Wg.2 ⟨⟨a, b⟩, c⟩⟩
  refine Yl fun K1 k1 r1 => ?_
  dsimp only [Xh, Zap, Zah, Zav, Yj, Zt, Zm, Zk, Loc.set, String.reduceBEq, cond_true, cond_false, Yy]
  refine ⟨H1.instOf (by decide +kernel), x, D1, false, t.1.l, m, rfl, H1, hi1, h641, by exact Nat.le_trans hm (by decide), fun o1 ho1 => ?_⟩
  simp only [Zd]
  have s2 : Sub σ1 (σ1.set o1 (.list ((Z0 D1.S false t.1.l m).map V.int))) := Sub.refl.new ho1
  refine ⟨nofun, Xc V.int (fun hu => decide (hu ∈ Z0 D1.S true t.1.r m)) V.int (Z0 D1.S false t.1.l m) (fun σ' hs => hs _ _ Zd) (fun hu _ σ3 s3 => ⟨_, fun P h => h, fun Qb hQ => ?_, fun _ σ4 s4 Qv hQ => ?_⟩) fun σ3 s3 d hd => ?_⟩
  · dsimp only [Yj, Zt, Zm, Zk, Xm, Wy, Loc.set, Loc.bare, String.reduceBEq, cond_true, cond_false, Yy]
    have H3 := H1.sub (s2.trans s3)
    refine ⟨H3.instOf (by decide +kernel), x, D1, true, t.1.r, m, rfl, H3, hi1, h641, by exact Nat.le_trans hm (by decide), fun o2 ho2 => ?_⟩
    exact Zdx Zd (hQ _ (Sub.refl.new ho2))
  · dsimp only [Zk, Loc.set, Loc.bare, String.reduceBEq, cond_true, cond_false]
    exact hQ _ Sub.refl
  generalize hboth : (Z0 D1.S false t.1.l m).filter (fun hu => decide (hu ∈ Z0 D1.S true t.1.r m)) = both at hd ⊢
  have s4 : Sub σ1 (σ3.set d (.list (both.map V.int))) := (s2.trans s3).new hd
  have hd1 : σ1 d = none := (s2.trans s3).none hd
  refine k1 _ _ ?_
  refine Yl fun K1 k1 r1 => ?_
  dsimp only [Zan, Zkl, Zay, Yj, Zk, Xm, Wy, Loc.set, String.reduceBEq, cond_true, cond_false, List.length_nil]
  refine ⟨Yh rfl, fun e he => ?_⟩
  have s5 : Sub σ1 ((σ3.set d (.list (both.map V.int))).set e (.list [])) := s4.new he
  have hbe : ((σ3.set d (.list (both.map V.int))).set e (.list [])) d = some (.list (both.map V.int)) := Zl Zd he
  refine Zdy (ns := both) (ms := []) hbe Zd ?_
  generalize hσ5 : (σ3.set d (.list (both.map V.int))).set e (.list []) = σ5 at s5 hbe
  have H5 := H1.sub s5
  cases both with
  | cons hu both =>
    have hbn : ((hu :: both) == ([] : List Int)) = false := rfl
    simp only [hbn, Bool.not_false]
    have hmem : hu ∈ Z0 D1.S false t.1.l m ∧ hu ∈ Z0 D1.S true t.1.r m := by
      have : hu ∈ (Z0 D1.S false t.1.l m).filter (fun hu => decide (hu ∈ Z0 D1.S true t.1.r m)) := by rw [hboth]; simp
      simpa using List.mem_filter.1 this
    refine Yl fun K2 k2 r2 => ?_
    dsimp only [Zm, Zk, Yq, Loc.set, String.reduceBEq, cond_true, cond_false, Za5, Wi]
    have hit : ∀ (Q : V → Prop), Q (.ref p) → Zbb (.ref D1.rd) (.int t.1.n) σ5 Q := fun Q hQ => by
      have := H5.item hi1 ht1 (Q := Q) hQ
      rw [prow.1] at this; exact this
    refine Za1 hbe (Z8 (by decide) rfl) ?_
    simp only [H5.rowsA]
    refine hit _ ?_
    simp only [Wj, H5.row _ ht1]
    refine ⟨2, rfl, by simp [Zht], k2 _ _ ?_⟩
    have H6 := H5.setHue hi1 ht1 (some hu)
    have hrow : ((Zht (Wm t.1.n none t.1)).set 2 (V.int hu)) = Zht { Wm t.1.n none t.1 with h := some hu } := by simp [Zht, Zjb]
    rw [hrow]
    rw [prow.1] at H6
    have dp : d ≠ p := fun z => by have := H1.row _ ht1; rw [← z, hd1] at this; cases this
    have hbd : (σ5.set p (.list (Zht { Wm t.1.n none t.1 with h := some hu }))) d = some (.list ((hu :: both).map V.int)) := by rw [Zf dp]; exact hbe
    generalize hσ6 : σ5.set p (.list (Zht { Wm t.1.n none t.1 with h := some hu })) = σ6 at H6 hbd
    refine Yg fun K2 r2 => ?_
    dsimp only [Za8, Zay, Wc, Yj, Zt, Zm, Zk, Yq, Loc.set, String.reduceBEq, cond_true, cond_false, List.length_cons, List.length_nil]
    refine Za1 hbd (Z8 (by decide) rfl) ?_
    refine ⟨Yh rfl, fun c hc => ⟨Yh rfl, r2 _ _ _ (r1 _ _ _ (kret _ _ _ _ Sub.refl ?_))⟩⟩
    have keep6 : ∀ y o, σ y = some o → ¬ D.foot y → σ6 y = some o := fun y o q nf => by
      rw [← hσ6, Zf fun z => by rw [z, hp] at q; cases q]
      exact s5 _ _ (keep1 y o q nf)
    have none6 : ∀ y, σ6 y = none → σ1 y = none := fun y q => by
      rw [← hσ6] at q
      by_cases z : y = p
      · rw [z, Zd] at q; cases q
      · rw [Zf z] at q; exact s5.none q
    refine h (σ6.set c (.list [])) (D1.put t.1.n (some hu)) hu none [] c (H6.sub (Sub.refl.new hc)) ⟨fun y o q nf => Zl (keep6 y o q nf) hc, fr1 Zeh, ⟨sm1.1, sm1.2.1, sm1.2.2.1⟩, fun y q => none1 y (none6 y ((Sub.refl.new hc).none q))⟩ (.inl rfl rfl hmem.1 hmem.2 Zms) (none1 c (none6 c hc)) (fun q => ?_) Zd
    rcases q with q | q | q
    · have := H6.attrs; rw [← q, hc] at this; cases this
    · obtain ⟨_, this⟩ := H6.rows; rw [← q, hc] at this; cases this
    · obtain ⟨u, hu', rfl⟩ := List.mem_map.1 q
      have := H6.row u hu'; rw [hc] at this; cases this
  | nil =>
    have hdis : ∀ hu ∈ Z0 D1.S false t.1.l m, hu ∉ Z0 D1.S true t.1.r m := fun hu h1 h2 => by
      have : hu ∈ (Z0 D1.S false t.1.l m).filter (fun hu => decide (hu ∈ Z0 D1.S true t.1.r m)) := List.mem_filter.2 ⟨h1, by simpa using h2⟩
      rw [hboth] at this; cases this
    simp only [BEq.rfl, Bool.not_true]
    refine k1 _ _ ?_
    refine Yl fun K1 k1 r1 => ?_
    dsimp only [Zgc, Ye, Yj, Zt, Zk, Loc.set, Xd, String.reduceBEq, cond_true, cond_false, List.length_cons, List.length_nil, Yy]
    refine ⟨H5.instOf (by decide +kernel), x, D1, t.1.l, t.1.r, m, rfl, H5, hi1, h641, hp0, hm, hdis, fun σ6 w es s6 hw5 hw6 hways hgot => ?_⟩
    have hes : es ≠ [] := by
      obtain ⟨a, ha⟩ := hopen false
      obtain ⟨b, hb⟩ := hopen true
      obtain ⟨⟨q, hq, _⟩, _⟩ := hgot a ha b hb
      intro z; rw [z] at hq; cases hq
    have uniq : ∀ q ∈ es, ∀ q' ∈ es, q.2.1 = q'.2.1 → q.2.2.1 = q'.2.2.1 → ∀ {s s' c c'}, q.2.1 ∈ Z0 D1.S (!s) (Zar t.1.l t.1.r (!s)) m → q.2.2.1 ∈ Z0 D1.S s (Zar t.1.l t.1.r s) m → Zbc D1.S s (Zar t.1.l t.1.r s) q.2.2.1 q.2.1 c → Zc2 D1.S s (Zar t.1.l t.1.r s) q.2.2.1 q.2.1 c →
        q'.2.1 ∈ Z0 D1.S (!s') (Zar t.1.l t.1.r (!s')) m → q'.2.2.1 ∈ Z0 D1.S s' (Zar t.1.l t.1.r s') m → Zbc D1.S s' (Zar t.1.l t.1.r s') q'.2.2.1 q'.2.1 c' → Zc2 D1.S s' (Zar t.1.l t.1.r s') q'.2.2.1 q'.2.1 c' → c = c' := by
      intro q _ q' _ z1 z2 s s' c c' a1 a2 a3 a4 b1 b2 b3 b4
      rw [← z1, ← z2] at b3 b4
      rw [← z1] at b1
      rw [← z2] at b2
      have hs : s = s' := by
        cases s <;> cases s'
        · rfl
        · exact absurd a1 (hdis _ b1)
        · exact absurd b1 (hdis _ a1)
        · rfl
      subst hs
      exact a3.unique hp0 hi1 a4 b3 b4
    refine ⟨w, es, rfl, hw6, hes, fun q hq => ?_, fun q hq hmin => ?_⟩
    · obtain ⟨⟨s, c, z1, z2, z3, z4, z5, z6⟩, _⟩ := hways q hq
      refine ⟨c.map Rw.n, by rw [z2, List.map_map]; rfl, fun q' hq' htri => ?_⟩
      obtain ⟨⟨s', c', y1, y2, y3, y4, y5, y6⟩, _⟩ := hways q' hq'
      simp only [tri, Prod.mk.injEq] at htri
      have := uniq q hq q' hq' htri.2.1 htri.2.2 z3 z4 z5 z6 y3 y4 y5 y6
      subst this
      rw [y2, List.map_map]; rfl
    · obtain ⟨⟨s, ch, z1, z2, z3, z4, z5, z6⟩, zc⟩ := hways q hq
      obtain ⟨ql, qh, qo, qc⟩ := q
      simp only at z1 z2 z3 z4 z5 z6 zc
      simp only [Zkm, Zce]
      refine ⟨rfl, ?_⟩
      dsimp only [Loc.setAll]
      refine k1 _ _ ?_
      have H6 := H5.sub s6
      have hne := Zgu hdis z3 z4
      have hfr := (Wg.1 z4).2
      have z2' : σ6 qc = some (.list ((ch.map Rw.n).map V.int)) := by rw [z2, List.map_map]; rfl
      have knot : t.1.n ∉ ch.map Rw.n := fun q => by
        obtain ⟨i, e⟩ := z5.at hi1 hxS (by rw [prow.1]; exact q)
        have := z5.hue i _ e
        rw [prow.2.2.2] at this; cases this
      have qcT : qc ∉ D1.T.map (·.2) := fun q => by
        obtain ⟨u, hu, z⟩ := List.mem_map.1 q
        have := H5.row u hu
        rw [z, zc] at this; cases this
      refine Yl fun K1 k1 r1 => ?_
      dsimp only [tDo, Yj, Zt, Zk, Loc.set, String.reduceBEq, cond_true, cond_false, Yy]
      refine ⟨H6.instOf (by decide +kernel), x, D1, qc, ch.map Rw.n, qh, qo, rfl, H6, hi1, z2', qcT, z5.nodup hp0 hi1 hne hfr, fun k hk => ?_, fun σ7 H7 same7 => k1 _ _ ?_⟩
      · obtain ⟨y, hy, rfl⟩ := List.mem_map.1 hk
        obtain ⟨u, hu, rfl⟩ := Zpe (z5.mem y hy)
        obtain ⟨i, hil, ei⟩ := List.getElem_of_mem hy
        exact ⟨u, hu, rfl, _, z5.hue i u.1 (by rw [List.getElem?_eq_getElem hil, ei])⟩
      · have hi7 : Inc (D1.flip (ch.map Rw.n) qh qo).S := Zl7 hi1
        have ht7 : (Wm t.1.n none t.1, p) ∈ (D1.flip (ch.map Rw.n) qh qo).T := List.mem_map.2 ⟨_, ht1, by rw [Xl (by rw [prow.1]; exact knot)]⟩
        refine Yl fun K1 k1 r1 => ?_
        dsimp only [Zm, Zk, Yq, Loc.set, String.reduceBEq, cond_true, cond_false, Za5, Wi]
        simp only [H7.rowsA]
        have hit : ∀ (Q : V → Prop), Q (.ref p) → Zbb (.ref (D1.flip (ch.map Rw.n) qh qo).rd) (.int t.1.n) σ7 Q := fun Q hQ => by
          have := H7.item hi7 ht7 (Q := Q) hQ
          rw [prow.1] at this; exact this
        refine hit _ ?_
        simp only [Wj, H7.row _ ht7]
        refine ⟨2, rfl, by simp [Zht], k1 _ _ ?_⟩
        have H8 := H7.setHue hi7 ht7 (some qh)
        have hrow : ((Zht (Wm t.1.n none t.1)).set 2 (V.int qh)) = Zht { Wm t.1.n none t.1 with h := some qh } := by simp [Zht, Zjb]
        rw [hrow]
        rw [prow.1] at H8
        have qcp : qc ≠ p := fun z => qcT (List.mem_map.2 ⟨_, ht1, z.symm⟩)
        have g8 : (σ7.set p (.list (Zht { Wm t.1.n none t.1 with h := some qh }))) qc = some (.list ((ch.map Rw.n).map V.int)) := by rw [Zf qcp, same7 qc qcT]; exact z2'
        generalize hσ8 : σ7.set p (.list (Zht { Wm t.1.n none t.1 with h := some qh })) = σ8 at H8 g8
        refine Yg fun K1 r1 => ?_
        dsimp only [Za8, Ye, Zgj, Wc, Yj, Zt, Zk, Loc.set, String.reduceBEq, cond_true, cond_false, List.length_cons, List.length_nil]
        simp only [Zce, g8]
        refine fun c hc => ⟨Yh rfl, r1 _ _ _ (kret _ _ _ _ Sub.refl ?_)⟩
        have keep8 : ∀ y o, σ y = some o → ¬ D.foot y → σ8 y = some o := fun y o q nf => by
          have yT : y ∉ D1.T.map (·.2) := fun z => by
            rcases addr1 y z with w | w
            · rw [w, hp] at q; cases q
            · exact nf (.inr (.inr w))
          rw [← hσ8, Zf (fun z => by rw [z, hp] at q; cases q), same7 y yT]
          exact s6 _ _ (s5 _ _ (keep1 y o q nf))
        have none8 : ∀ y, σ8 y = none → σ1 y = none := fun y q => by
          rw [← hσ8] at q
          by_cases z : y = p
          · rw [z, Zd] at q; cases q
          · rw [Zf z] at q
            by_cases yT : y ∈ D1.T.map (·.2)
            · obtain ⟨u, hu, rfl⟩ := List.mem_map.1 yT
              have : (Xz (ch.map Rw.n) qh qo u.1, u.2) ∈ (D1.flip (ch.map Rw.n) qh qo).T := List.mem_map.2 ⟨u, hu, rfl⟩
              have := H7.row _ this
              rw [q] at this; cases this
            · rw [same7 y yT] at q; exact s5.none (s6.none q)
        refine h (σ8.set c (.list ((ch.map Rw.n).map V.int))) ((D1.flip (ch.map Rw.n) qh qo).put t.1.n (some qh)) qh (some qo) (ch.map Rw.n) c (H8.sub (Sub.refl.new hc)) ⟨fun y o q nf => Zl (keep8 y o q nf) hc, fr1 (Zeh.trans HD.flip_addr), ⟨sm1.1, sm1.2.1, sm1.2.2.1⟩, fun y q => none1 y (none8 y ((Sub.refl.new hc).none q))⟩ (.inr hdis qo s ch rfl rfl z3 z4 z5 z6 ?_ ?_) (none1 c (none8 c hc)) (fun q => ?_) Zd
        · rw [Zms, Zkj]; rfl
        · intro s' hue' o' ch' y3 y4 y5 y6
          have hg : Zn6 es hue' o' := by
            cases s' with
            | false => exact (hgot o' y4 hue' y3).2
            | true => exact (hgot hue' y3 o' y4).1
          obtain ⟨q', hq', rfl, rfl⟩ := hg
          obtain ⟨⟨s'', c'', x1, x2, x3, x4, x5, x6⟩, _⟩ := hways q' hq'
          have := uniq q' hq' q' hq' rfl rfl x3 x4 x5 x6 y3 y4 y5 y6
          subst this
          have := hmin q' hq'
          rw [x1, z1] at this
          simp only at this
          exact_mod_cast this
        · rcases q with q | q | q
          · have := H8.attrs; rw [← q, hc] at this; cases this
          · obtain ⟨_, this⟩ := H8.rows; rw [← q, hc] at this; cases this
          · obtain ⟨u, hu', rfl⟩ := List.mem_map.1 q
            have := H8.row u hu'; rw [hc] at this; cases this
end
section
open PySem PySem.W PyProof.Rows
variable {g : Gr} {P : Params}
theorem Znt (hK : (KK P).In g.b0) (N : NN g) (F_is_number : FnG g "is_number" 2 Yt) : Xu g 3 (.ref 146) (Zgd CC) := by
  refine Xu.mono (Z1 (r := 2) (ps := ["self", "side", "end"]) (hK 146 _ rfl) rfl (Zq (hK 145 _ rfl) rfl rfl) rfl (by intro vs h; obtain ⟨a0, a1, a2, rfl⟩ := Zpg h; rfl) rfl rfl rfl (by decide +kernel)
    (Zc (Yb (Xi (Yx (Y5 (Ym (Zp 3 rfl F_is_number (Za (Zb 2 rfl rfl) Ze) rfl) (fun _ _ => rfl))) (Yx (Y5 (Zjj Zg (Zb 2 rfl rfl) (Zi (Yc hK hC CF.a_sizes rfl rfl (Zb 0 rfl rfl)) (Zb 1 rfl rfl) (fun _ _ => rfl)) rfl)) Xs))) (Zc Zcb
  Zh) Zh)
  Zh)) ?_
  rintro xs σ Q E ⟨x, D, s, e, rfl, H, h0, h1, h⟩
  refine Yu rfl fun K KE kret kend _ => ?_
  dsimp only [Loc.setAll]
  refine Zo fun K1 k1 => ?_
  dsimp only [Zan, Zkl, Ye, Yj, Zt, Zm, Zk, Zax, Xr, Zco, Zoc, Wd, Zog, Wy, Yq, Loc.set, String.reduceBEq, cond_true, cond_false, Za5, Yt]
  refine ⟨e, rfl, ?_⟩
  simp only [Bool.not_true, decide_eq_true h0]
  simp only [H.sizesA]
  refine H.size s ?_
  simp only [decide_eq_true h1, Bool.not_true]
  refine k1 _ _ ?_
  dsimp only [Zan]
  exact kend _ _ _ Sub.refl h
theorem Zvk (hK : (KK P).In g.b0) (N : NN g) (F_is_number : FnG g "is_number" 2 Yt) : Xu g 3 (.ref 139) (Zta CC) := by
  refine Xu.mono (Z1 (r := 2) (ps := ["self", "lefts", "rights"]) (hK 139 _ rfl) rfl (Zq (hK 138 _ rfl) rfl rfl) rfl (by intro vs h; obtain ⟨a0, a1, a2, rfl⟩ := Zpg h; rfl) rfl rfl rfl (by decide +kernel)
    (Zc (Yz (Z3 (Zx (Za (Zb 1 rfl rfl) (Za (Zb 2 rfl rfl) Ze)))) (.name (at_ (i := 3) rfl) rfl) (Zc (Yb (Xi (Yx (Y5 (Ym (Zp 4 rfl F_is_number (Za (Zb 3 rfl rfl) Ze) rfl) (fun _ _ => rfl))) (Yx (Y5 (Zjj Zg (Zb 3 rfl rfl) (Z7 (at_ (i := 5) rfl) (N.n_MOST_ENDS) (fun _ => Z9.mpr ⟨_, rfl⟩)) rfl)) Xs))) (Zc Zcb
  Zh) Zh)
  Zh) (fun _ _ => rfl))
  (Zc (Zb5 hK hC CF.t_sizes (Zb 0 rfl rfl) (Zm1 Zej Zft Zej Zft (Z7 (at_ (i := 7) rfl) (N.n_LEFT) (fun _ => Y9.mpr ⟨Za4 (by decide), _, rfl⟩)) (Zb 1 rfl rfl) (Z7 (at_ (i := 8) rfl) (N.n_RIGHT) (fun _ => Y9.mpr ⟨Za4 (by decide), _, rfl⟩)) (Zb 2 rfl rfl)) (fun _ => rfl))
  (Zc (Zb5 hK hC CF.t_rows (Zb 0 rfl rfl) Zds (fun _ => rfl))
  (Zc (Zb5 hK hC CF.t_next_number (Zb 0 rfl rfl) Zg (fun _ => rfl))
  Zh))))) ?_
  rintro xs σ Q E ⟨x, d, a, b, rfl, ha1, ha2, hb1, hb2, hx, hd, h⟩
  refine Yu rfl fun K KE kret kend _ => ?_
  dsimp only [Loc.setAll]
  refine Zo fun K1 k1 => ?_
  dsimp only [Zgb, Zap, Zah, Wc, Yj, Zt, Zk, Loc.set, String.reduceBEq, cond_true, cond_false, List.length_cons, List.length_nil]
  refine ⟨Yh rfl, nofun, ?_⟩
  refine Zaf (fun xs ℓ σ' => ∀ P0 : Prop, (∀ ns : List Int, (xs = ns.map V.int) → ((∀ n ∈ ns, 1 ≤ n ∧ n ≤ 8)) → (σ' = σ) → (ℓ "self" = some (.ref x)) → (ℓ "lefts" = some (.int a)) → (ℓ "rights" = some (.int b)) → P0) → P0) ?_ ?_
    (fun _ kI => kI ([a, b]) (rfl) (by simp; exact Zzp ha1 ha2 hb1 hb2) (rfl) (rfl) (rfl) (rfl))
  · intro ℓ σ' hI0
    refine hI0 _ fun ns _ _ hrf3 e1 e2 e3 => ?_
    obtain rfl := hrf3
    refine ⟨trivial, k1 _ _ ?_⟩
    refine Zo fun K1 k1 => ?_
    dsimp only [Zm, Zk, Zek, Zse]
    simp only [e1, e2, e3]
    refine ⟨_, _, rfl, rfl, Zi2, fun sd ep hsd => ?_⟩
    have hdsd : d ≠ sd := fun z => by rw [← z, hd] at hsd; cases hsd
    have hxsd : x ≠ sd := fun z => by rw [← z, hx] at hsd; cases hsd
    have hxd : x ≠ d := fun z => by rw [z, hd] at hx; cases hx
    refine ⟨x, d, [], rfl, Zl hx hsd, Zl hd hsd, Yh rfl, k1 _ _ ?_⟩
    generalize hσ1 : ((σ'.set sd (.dictS [(Str.ofString "left", .int a), (Str.ofString "right", .int b)] ep)).set d (.attrs [(Str.ofString "sizes", .ref sd)])) = σ1
    have x1 : σ1 x = some (.inst CC d) := by rw [← hσ1, Zf hxd]; exact Zl hx hsd
    have d1 : σ1 d = some (.attrs [(Str.ofString "sizes", .ref sd)]) := by rw [← hσ1]; exact Zd
    have sd1 : σ1 sd = some (.dictS [(Str.ofString "left", .int a), (Str.ofString "right", .int b)] ep) := by rw [← hσ1, Zf (Ne.symm hdsd)]; exact Zd
    have kp1 : ∀ y o, σ' y = some o → y ≠ d → σ1 y = some o := fun y o q n => by rw [← hσ1, Zf n]; exact Zl q hsd
    refine Zo fun K1 k1 => ?_
    dsimp only [Zk, Zek, Zof]
    simp only [e1]
    refine fun rd ep2 hrd => ⟨x, d, _, rfl, Zl x1 hrd, Zl d1 hrd, Yh rfl, k1 _ _ ?_⟩
    have hdrd : d ≠ rd := fun z => by rw [← z, d1] at hrd; cases hrd
    have hsrd : sd ≠ rd := fun z => by rw [← z, sd1] at hrd; cases hrd
    generalize hσ2 : ((σ1.set rd (.dictI [] ep2)).set d (.attrs [(Str.ofString "rows", .ref rd), (Str.ofString "sizes", .ref sd)])) = σ2
    have x2 : σ2 x = some (.inst CC d) := by rw [← hσ2, Zf hxd]; exact Zl x1 hrd
    have d2 : σ2 d = some (.attrs [(Str.ofString "rows", .ref rd), (Str.ofString "sizes", .ref sd)]) := by rw [← hσ2]; exact Zd
    have sd2 : σ2 sd = some (.dictS [(Str.ofString "left", .int a), (Str.ofString "right", .int b)] ep) := by rw [← hσ2, Zf (Ne.symm hdsd)]; exact Zl sd1 hrd
    have rd2 : σ2 rd = some (.dictI [] ep2) := by rw [← hσ2, Zf (Ne.symm hdrd)]; exact Zd
    have kp2 : ∀ y o, σ1 y = some o → y ≠ d → σ2 y = some o := fun y o q n => by rw [← hσ2, Zf n]; exact Zl q hrd
    refine Zo fun K1 k1 => ?_
    dsimp only [Zm, Zk, Zek]
    simp only [e1]
    refine ⟨x, d, _, rfl, x2, d2, Yh rfl, k1 _ _ ?_⟩
    dsimp only [Zan]
    refine kend _ _ _ Sub.refl (h _ ⟨[], a, b, 0, d, rd, sd, [(Str.ofString "next_number", .int 0), (Str.ofString "rows", .ref rd), (Str.ofString "sizes", .ref sd)]⟩ ⟨(Zf hxd).trans x2, Zd, ?_, ?_, ?_, ?_, by simp, ⟨ep2, (Zf (Ne.symm hdrd)).trans rd2⟩, fun t ht => absurd ht (by simp), by simp, ⟨ep, (Zf (Ne.symm hdsd)).trans sd2⟩⟩ rfl rfl rfl rfl rfl ?_ fun y o q n => by rw [Zf n]; exact kp2 y o (kp1 y o q n) n)
    · kernel_rfl
    · kernel_rfl
    · kernel_rfl
    · intro p hp
      simp at hp
      rcases hp with rfl | rfl | rfl <;> simp
    · show σ' rd = none
      cases q : σ' rd with
      | none => rfl
      | some o => rw [kp1 rd o q (Ne.symm hdrd)] at hrd; cases hrd
  · intro v xs ℓ σ' K2 k2 r2 hI0
    refine hI0 _ fun ns h1 h2 hrf3 e1 e2 e3 => ?_
    obtain rfl := hrf3
    obtain ⟨n, ns, rfl, rfl, rfl⟩ := Yp h1
    have hn := h2 n (.head _)
    refine ⟨trivial, ?_⟩
    dsimp only [Xd]
    refine Zo fun K3 k3 => ?_
    dsimp only [Zan, Zkl, Ye, Yj, Zt, Zm, Zk, Zax, Xr, Zco, Zoc, Wd, Zog, Wy, Loc.set, String.reduceBEq, cond_true, Yt]
    refine ⟨n, rfl, ?_⟩
    simp only [Bool.not_true, decide_eq_true hn.1, decide_eq_true hn.2]
    exact k3 _ _ (k2 _ _ (fun _ kI => kI (ns) (rfl) (fun n' h' => h2 n' (.tail _ h')) (rfl) (e1) (e2) (e3)))
theorem Zvr (hK : (KK P).In g.b0) (N : NN g) (M_need_end : FnM g (KK P) CC "need_end" 7 (Zgd CC)) (M_count : FnM g (KK P) CC "count" 7 (Zfv CC)) (M_hued : FnM g (KK P) CC "hued" 7 (Zq6 CC)) : Xu g 8 (.ref 215) (Ztd CC) := by
  refine Xu.mono (Z1 (r := 7) (ps := ["self", "left", "right"]) (hK 215 _ rfl) rfl (Zq (hK 214 _ rfl) rfl rfl) rfl (by intro vs h; obtain ⟨a0, a1, a2, rfl⟩ := Zpg h; rfl) rfl rfl rfl (by decide +kernel)
    (Zc (Yn (Zs hK hC M_need_end (Zb 0 rfl rfl) (Za (Z7 (at_ (i := 4) rfl) (N.n_LEFT) (fun _ => Y9.mpr ⟨Za4 (by decide), _, rfl⟩)) (Za (Zb 1 rfl rfl) Ze)) rfl rfl rfl rfl) (fun _ => rfl))
  (Zc (Yn (Zs hK hC M_need_end (Zb 0 rfl rfl) (Za (Z7 (at_ (i := 5) rfl) (N.n_RIGHT) (fun _ => Y9.mpr ⟨Za4 (by decide), _, rfl⟩)) (Za (Zb 2 rfl rfl) Ze)) rfl rfl rfl rfl) (fun _ => rfl))
  (Zc (Yb (Zv (Zp 6 rfl (Zy N.n_len Wb) (Za (Yc hK hC CF.a_rows rfl rfl (Zb 0 rfl rfl)) Ze) rfl) (Z7 (at_ (i := 7) rfl) (N.n_MOST_PAIRS) (fun _ => Z9.mpr ⟨_, rfl⟩)) rfl) (Zc Zcb
  Zh) Zh)
  (Zc (Z6 3 rfl rfl (Yc hK hC CF.a_next_number rfl rfl (Zb 0 rfl rfl)) (fun _ => rfl))
  (Zc (Zb5 hK hC CF.t_next_number (Zb 0 rfl rfl) (Zr (Zb 3 rfl rfl) Zg) (fun _ => rfl))
  (Zc (Yw (Yc hK hC CF.a_rows rfl rfl (Zb 0 rfl rfl)) (Zb 3 rfl rfl) (Zw (Za (Zb 1 rfl rfl) (Za (Zb 2 rfl rfl) (Za Y7 Ze)))) (fun _ => rfl))
  (Zc (Zj (Zs hK hC M_hued (Zb 0 rfl rfl) (Za (Zb 3 rfl rfl) (Za (Zb 1 rfl rfl) (Za (Zb 2 rfl rfl) (Za (Zs hK hC M_count (Zb 0 rfl rfl) Ze rfl rfl rfl rfl) Ze)))) rfl rfl rfl rfl))
  Zh)))))))) ?_
  rintro xs σ Q E ⟨x, D, l, r, m, rfl, H, W, hnx, hlen, hl, hr, h⟩
  refine Yu rfl fun K KE kret kend _ => ?_
  dsimp only [Loc.setAll]
  refine Yl fun K1 k1 r1 => ?_
  dsimp only [tDo, Yj, Zt, Zm, Zk, Loc.set, String.reduceBEq, cond_true, cond_false, Yy]
  refine ⟨H.instOf (by decide +kernel), x, D, false, l, rfl, H, hl.1, hl.2, k1 _ _ ?_⟩
  refine Yl fun K1 k1 r1 => ?_
  dsimp only [tDo, Yj, Zt, Zm, Zk, Loc.set, String.reduceBEq, cond_true, cond_false, Yy]
  refine ⟨H.instOf (by decide +kernel), x, D, true, r, rfl, H, hr.1, hr.2, k1 _ _ ?_⟩
  refine Yl fun K1 k1 r1 => ?_
  obtain ⟨ep, er⟩ := H.rows
  dsimp only [Zan, Zkl, Ye, Zjf, Zjt, Yj, Zt, Zm, Zk, Xm, Wy, Loc.set, String.reduceBEq, cond_true, cond_false, Za5]
  simp only [H.rowsA, er, List.length_map]
  have h40 : ¬ (40 : Int) ≤ (D.T.length : Int) := by exact Zzo hlen
  simp only [decide_eq_false h40]
  refine k1 _ _ ?_
  refine Yl fun K1 k1 r1 => ?_
  dsimp only [Z5, Zk, Loc.set, String.reduceBEq, cond_true, cond_false, Za5]
  simp only [H.nextA]
  refine k1 _ _ ?_
  refine Yl fun K1 k1 r1 => ?_
  dsimp only [Zm, Zk, Zc6, Zb7, Loc.set, String.reduceBEq, cond_true, cond_false, Zek]
  have hnx0 := W.nx
  refine ⟨x, D.d, D.kvs, rfl, H.inst, H.attrs, by have := H.few; unfold Xv; exact Zzn hnx hnx0 this, k1 _ _ ?_⟩
  have H1 := H.setNext hnx0.1
  generalize hσ1 : σ.set D.d (.attrs ((Str.ofString "next_number", .int (D.nx + 1)) :: D.kvs)) = σ1 at H1
  generalize hD1 : ({ D with nx := D.nx + 1, kvs := (Str.ofString "next_number", .int (D.nx + 1)) :: D.kvs } : HD) = D1 at H1
  have hT1 : D1.T = D.T ∧ D1.a = D.a ∧ D1.b = D.b ∧ D1.nx = D.nx + 1 ∧ D1.d = D.d ∧ D1.rd = D.rd := by rw [← hD1]; exact ⟨rfl, rfl, rfl, rfl, rfl, rfl⟩
  have hS1 : D1.S = D.S := by unfold HD.S; rw [hT1.1]
  refine Yl fun K1 k1 r1 => ?_
  dsimp only [Zay, Yj, Zt, Zm, Zk, Loc.set, String.reduceBEq, cond_true, cond_false, List.length_cons, List.length_nil, Za5, Wi]
  refine ⟨Yh rfl, fun p hp => ?_⟩
  have H2 := H1.sub (Sub.refl.new (o := .list [V.int l, V.int r, V.none]) hp)
  simp only [H2.rowsA]
  obtain ⟨e0, er0⟩ := H2.rows
  simp only [Wj, er0]
  refine ⟨_, rfl, by rw [hT1.1]; simp [Xv]; exact Nat.le_of_lt (Nat.lt_of_lt_of_le hlen (by decide)), fun ep2 => k1 _ _ ?_⟩
  have hbel : ∀ t ∈ D1.T, t.1.n ≠ D.nx := fun t ht => by
    have := W.below t.1 (List.mem_map.2 ⟨t, by rw [← hT1.1]; exact ht, rfl⟩); exact Zrf this
  have H3 := H1.addRow (w := ⟨D.nx, l, r, none⟩) hbel hp ep2
  have hrl : Zht ⟨D.nx, l, r, none⟩ = [V.int l, V.int r, V.none] := rfl
  rw [hrl] at H3
  simp only at H3
  generalize hσ3 : (σ1.set p (.list [V.int l, V.int r, V.none])).set D1.rd (.dictI (Zfb (D1.T.map fun t => (t.1.n, V.ref t.2)) D.nx (.ref p)) ep2) = σ3 at H3
  have hS3 : (D1.add ⟨D.nx, l, r, none⟩ p).S = D.S ++ [⟨D.nx, l, r, none⟩] := by rw [HD.add_S, hS1]
  obtain ⟨hinc, hprop⟩ := W.good.comeInc (x := ⟨D.nx, l, r, none⟩) W.below rfl
  have hinr : InR (D.S ++ [⟨D.nx, l, r, none⟩]) D.a D.b := fun y hy s => by
    rcases List.mem_append.1 hy with q | q
    · exact W.good.inr y q s
    · rw [List.mem_singleton.1 q]; cases s
      · exact hl
      · exact hr
  have h64 : (D1.add ⟨D.nx, l, r, none⟩ p).T.length < 64 := by simp [HD.add, hT1.1]; exact Zzm hlen
  have hai : (D1.add ⟨D.nx, l, r, none⟩ p).a = D.a ∧ (D1.add ⟨D.nx, l, r, none⟩ p).b = D.b := ⟨hT1.2.1, hT1.2.2.1⟩
  refine Yg fun K1 r1 => ?_
  dsimp only [Za8, Yj, Zt, Zk, Loc.set, String.reduceBEq, cond_true, cond_false, Yy]
  have ha8 := W.a8
  have hb8 := W.b8
  refine ⟨H3.instOf (by decide +kernel), H3.instOf (by decide +kernel), x, D1.add ⟨D.nx, l, r, none⟩ p, rfl, H3, by rw [hS3]; exact hinc, h64, by rw [hai.1]; exact Zzl hai ha8, by rw [hai.1]; exact Zzk hai ha8, by rw [hai.2]; exact Zzj hai hb8, by rw [hai.2]; exact Zzi hai hb8, fun m' hm' => ?_⟩
  rw [hS3, hai.1, hai.2] at hm'
  have hput : (D.S ++ [(⟨D.nx, l, r, none⟩ : Rw)]).map (Wm D.nx none) = D.S ++ [⟨D.nx, l, r, none⟩] := by
    conv => rhs; rw [← List.map_id (D.S ++ [(⟨D.nx, l, r, none⟩ : Rw)])]
    refine List.map_congr_left fun y hy => ?_
    rcases List.mem_append.1 hy with q | q
    · rw [Y1 (by have := W.below y q; exact Zrf this)]; rfl
    · rw [List.mem_singleton.1 q]; unfold Wm; rw [if_pos rfl]; rfl
  have hm100 : m' ≤ 100 := by have := Zac hm'; simp [HD.S] at this; exact Zzh hlen this
  refine ⟨x, D1.add ⟨D.nx, l, r, none⟩ p, (⟨D.nx, l, r, none⟩, p), m', rfl, by simp [HD.add], H3, by rw [hS3]; exact hinc, h64, hm100, by rw [hS3, hput]; exact hprop, by rw [hS3]; exact hm'.all hinr _ _, by rw [hS3]; exact hm'.all hinr _ _, fun σ' D' hue other nums c H' F' hto hc1 hc2 hc3 => r1 _ _ _ (kret _ _ _ _ Sub.refl ?_)⟩
  simp only at hto
  rw [hS3, hput] at hto
  have hH := hto.hued hprop hinc (x := ⟨D.nx, l, r, none⟩) (by simp) rfl rfl rfl rfl
  have hG : Zlj D'.S D.a D.b m' := W.good.come W.below (fun s => by cases s; exact hl; exact hr) rfl hm' hH
  have sz := F'.sz
  have hka : ∀ y o, σ y = some o → ¬ D.foot y → σ3 y = some o := fun y o q nf => by
    have y1 : y ≠ D.d := fun z => nf (.inl z)
    have y2 : y ≠ D1.rd := fun z => nf (.inr (.inl (z.trans hT1.2.2.2.2.2)))
    have q1 : σ1 y = some o := by rw [← hσ1, Zf y1]; exact q
    rw [← hσ3, Zf y2]; exact Zl q1 hp
  have hp0 : σ p = none := by
    cases e : σ p with
    | none => rfl
    | some o =>
      by_cases z : p = D.d
      · rw [← hσ1, z, Zd] at hp; cases hp
      · rw [← hσ1, Zf z, e] at hp; cases hp
  have hnone : ∀ y, σ3 y = none → σ y = none := fun y q => by
    cases e : σ y with
    | none => rfl
    | some o =>
      rw [← hσ3] at q
      by_cases z : y = D1.rd
      · rw [z, Zd] at q; cases q
      · rw [Zf z] at q
        by_cases z2 : y = D.d
        · have : σ1 y = some (.attrs ((Str.ofString "next_number", .int (D.nx + 1)) :: D.kvs)) := by rw [← hσ1, z2]; exact Zd
          rw [Zl this hp] at q; cases q
        · have : σ1 y = some o := by rw [← hσ1, Zf z2]; exact e
          rw [Zl this hp] at q; cases q
  have hfoot : ∀ y, (D1.add ⟨D.nx, l, r, none⟩ p).foot y → D.foot y ∨ σ y = none := fun y q => by
    rcases q with q | q | q
    · exact .inl (.inl (q.trans hT1.2.2.2.2.1))
    · exact .inl (.inr (.inl (q.trans hT1.2.2.2.2.2)))
    · simp only [HD.add, List.map_append, List.map_cons, List.map_nil, List.mem_append, List.mem_singleton, hT1.1] at q
      rcases q with q | q
      · exact .inl (.inr (.inr q))
      · exact .inr (by rw [q]; exact hp0)
  have ha' : D'.a = D.a := sz.1.trans hai.1
  have hb' : D'.b = D.b := sz.2.1.trans hai.2
  have hn' : D'.nx = D.nx + 1 := sz.2.2.trans hT1.2.2.2.1
  have hsk : D'.S.map sk = D.S.map sk ++ [(D.nx, l, r)] := by rw [hH.sk, List.map_append]; rfl
  refine h σ' D' m' hue other nums c H' ⟨by rw [ha', hb']; exact hG, by rw [ha']; exact W.a8, by rw [hb']; exact W.b8, by rw [hn']; exact Zzg hnx hnx0 sz hn', fun y hy => ?_⟩ hn' ha' hb' (fun y o q nf => F'.keep y o (hka y o q nf) fun w => ?_) (fun y q => ?_) (fun y q => hnone y (F'.dom y q)) hsk hto (hnone c hc1) hc2 hc3
  · have : sk y ∈ D.S.map sk ++ [(D.nx, l, r)] := by rw [← hsk]; exact List.mem_map.2 ⟨y, hy, rfl⟩
    rcases List.mem_append.1 this with q | q
    · obtain ⟨z, hz, e⟩ := List.mem_map.1 q
      have e1 : z.n = y.n := by unfold sk at e; simp only [Prod.mk.injEq] at e; exact e.1
      have := W.below z hz
      exact Zzf sz hn' e1 this
    · have e := List.mem_singleton.1 q
      unfold sk at e; simp only [Prod.mk.injEq] at e
      exact Zze sz hn' e
  · rcases hfoot y w with v | v
    · exact nf v
    · rw [v] at q; cases q
  · rcases F'.new y q with v | v
    · exact hfoot y v
    · exact .inr (hnone y v)
theorem Zk8 (hK : (KK P).In g.b0) (N : NN g) (F_is_number : FnG g "is_number" 2 Yt) : Xu g 3 (.ref 222) (Zes CC) := by
  refine Xu.mono (Z1 (r := 2) (ps := ["self", "number"]) (hK 222 _ rfl) rfl (Zq (hK 221 _ rfl) rfl rfl) rfl (by intro vs h; obtain ⟨a0, a1, rfl⟩ := Zrn h; rfl) rfl rfl rfl (by decide +kernel)
    (Zc (Yb (Xi (Yx (Y5 (Ym (Zp 2 rfl F_is_number (Za (Zb 1 rfl rfl) Ze) rfl) (fun _ _ => rfl))) (Yx (Zv (Zb 1 rfl rfl) (Yc hK hC CF.a_rows rfl rfl (Zb 0 rfl rfl)) rfl) Xs))) (Zc Zcb
  Zh) Zh)
  Zh)) ?_
  rintro xs σ Q E ⟨x, D, t, rfl, ht, H, h⟩
  refine Yu rfl fun K KE kret kend _ => ?_
  dsimp only [Loc.setAll]
  refine Zo fun K1 k1 => ?_
  dsimp only [Zan, Zkl, Ye, Yj, Zt, Zk, Zax, Xr, Zco, Zoc, Wd, Xm, Wy, Loc.set, String.reduceBEq, cond_true, cond_false, Za5, Yt]
  refine ⟨_, rfl, ?_⟩
  obtain ⟨ep, er⟩ := H.rows
  simp only [Bool.not_true, H.rowsA, inD, er]
  have : ((D.T.map fun t => (t.1.n, V.ref t.2)).any fun kv => kv.1 == t.1.n) = true := by
    rw [List.any_eq_true]; exact ⟨_, List.mem_map.2 ⟨t, ht, rfl⟩, by simp⟩
  rw [this]
  simp only [Bool.not_true]
  refine k1 _ _ ?_
  dsimp only [Zan]
  exact kend _ _ _ Sub.refl h
end
section
open PySem PySem.W PyProof.Rows
variable {g : Gr} {P : Params}
theorem Ztt (hK : (KK P).In g.b0) (N : NN g) : Xu g 2 (.ref 236) (Zop CC) := by
  refine Xu.mono (Z1 (r := 1) (ps := ["self"]) (hK 236 _ rfl) rfl (Zq (hK 235 _ rfl) rfl rfl) rfl (by intro vs h; obtain ⟨a0, rfl⟩ := Zph h; rfl) rfl rfl rfl (by decide +kernel)
    (Zc (Z6 1 rfl rfl (Zw Ze) (fun _ => rfl))
  (Zc (Yz (Z3 (Zp 6 rfl (Zy N.n_sorted Ws) (Za (Yc hK hC CF.a_rows rfl rfl (Zb 0 rfl rfl)) Ze) rfl)) (.name (at_ (i := 2) rfl) rfl) (Zc (Zdc (.cons (at_ (i := 3) rfl) rfl (.cons (at_ (i := 4) rfl) rfl (.cons (at_ (i := 5) rfl) rfl .nil))) (Zi (Yc hK hC CF.a_rows rfl rfl (Zb 0 rfl rfl)) (Zb 2 rfl rfl) (fun _ _ => rfl)) (fun _ => rfl) (fun _ => rfl))
  (Zc (Yn (Za0 (Zb 1 rfl rfl) (Za (Zx (Za (Zb 2 rfl rfl) (Za (Zb 3 rfl rfl) (Za (Zb 4 rfl rfl) (Za (Zb 5 rfl rfl) Ze))))) Ze) rfl rfl rfl rfl) (fun _ => rfl))
  Zh)) (fun _ _ => rfl))
  (Zc (Zj (Zb 1 rfl rfl))
  Zh)))) ?_
  rintro xs σ Q E ⟨x, D, rfl, H, hi, h64, h⟩
  refine Yu rfl fun K KE kret kend _ => ?_
  dsimp only [Loc.setAll]
  refine Zo fun K1 k1 => ?_
  dsimp only [Z5, Zay, Yj, List.length_nil]
  refine ⟨Yh rfl, fun b hb => k1 _ _ ?_⟩
  have s1 : Sub σ (σ.set b (.list [])) := Sub.refl.new hb
  have H1 := H.sub s1
  refine Zo fun K1 k1 => ?_
  dsimp only [Zgb, Zap, Zah, Ye, Yj, Zt, Zk, Loc.set, String.reduceBEq, cond_true, cond_false, Za5]
  simp only [H1.rowsA]
  refine Zb2 H1 hi h64 fun o ho => ?_
  simp only [Zd]
  have ob : o ≠ b := fun z => by rw [z, Zd] at ho; cases ho
  refine ⟨nofun, Zaf (fun xs ℓ σ' => ∀ P0 : Prop, (∀ done rest : List (Rw × Addr), (done ++ rest = D.T) → (xs = rest.map (fun t => V.int t.1.n)) → (ℓ "self" = some (.ref x)) → (ℓ "found" = some (.ref b)) → (Sub σ σ') → (σ' b = some (.list (done.map Zix))) → (σ' o = some (.list (D.T.map fun t => V.int t.1.n))) → P0) → P0) ?_ ?_
    (fun _ kI => kI ([]) (D.T) (rfl) (rfl) (rfl) (rfl) (s1.new ho) (Zl Zd ho) (Zd))⟩
  · intro ℓ σ' hI0
    refine hI0 _ fun done rest h1 h2 e1 e2 h3 h4 h5 => ?_
    obtain rfl := Xb h2
    rw [List.append_nil] at h1
    subst h1
    refine ⟨h5, k1 _ _ ?_⟩
    refine Yg fun K2 r2 => ?_
    dsimp only [Za8, Zk]
    simp only [e2]
    exact r2 _ _ _ (kret _ _ _ _ (Zgk h3 h4) (h b hb))
  · intro v xs ℓ σ' K2 k2 r2 hI0
    refine hI0 _ fun done rest h1 h2 e1 e2 h3 h4 h5 => ?_
    obtain ⟨t, rest, rfl, rfl, rfl⟩ := Yp h2
    have ht : t ∈ D.T := by rw [← h1]; simp
    refine ⟨h5, ?_⟩
    dsimp only [Xd]
    have H2 := H.sub h3
    refine Zo fun K3 k3 => ?_
    dsimp only [Zgc, Zk, Yq, Loc.set, Xd, String.reduceBEq, cond_true, cond_false, List.length_cons, List.length_nil, Za5]
    simp only [e1, H2.rowsA]
    refine H2.item hi ht ?_
    simp only [Zce, H2.row t ht, Zht]
    refine ⟨rfl, k3 _ _ ?_⟩
    dsimp only [Loc.setAll]
    refine Zo fun K3 k3 => ?_
    dsimp only [tDo, Xf, Zga, Wr, Wc, Yj, Zt, Zk, Loc.set, String.reduceBEq, cond_true, cond_false, List.length_cons, List.length_nil]
    simp only [e2, h4]
    refine ⟨trivial, Yh rfl, ?_, k3 _ _ (k2 _ _ (fun _ kI => kI (done ++ [t]) (rest) (by simpa using h1) (rfl) (e1) (e2) (h3.upd hb) (?_) (?_)))⟩
    · have := congrArg List.length h1; simp [Xv] at *; exact Zzd h64 this
    · rw [Zd]; simp [Zix]
    · rw [Zf ob]; exact h5
theorem Zr0 (hK : (KK P).In g.b0) (N : NN g) (M_need_pair : FnM g (KK P) CC "need_pair" 3 (Zes CC)) : Xu g 4 (.ref 243) (Zox CC) := by
  refine Xu.mono (Z1 (r := 3) (ps := ["self", "number"]) (hK 243 _ rfl) rfl (Zq (hK 242 _ rfl) rfl rfl) rfl (by intro vs h; obtain ⟨a0, a1, rfl⟩ := Zrn h; rfl) rfl rfl rfl (by decide +kernel)
    (Zc (Yn (Zs hK hC M_need_pair (Zb 0 rfl rfl) (Za (Zb 1 rfl rfl) Ze) rfl rfl rfl rfl) (fun _ => rfl))
  (Zc (Zj (Zi (Zi (Yc hK hC CF.a_rows rfl rfl (Zb 0 rfl rfl)) (Zb 1 rfl rfl) (fun _ _ => rfl)) Zg (fun _ _ => rfl)))
  Zh))) ?_
  rintro xs σ Q E ⟨x, D, t, rfl, ht, H, hi, h⟩
  refine Yu rfl fun K KE kret kend _ => ?_
  dsimp only [Loc.setAll]
  refine Yl fun K1 k1 r1 => ?_
  dsimp only [tDo, Yj, Zt, Zk, Loc.set, String.reduceBEq, cond_true, cond_false, Yy]
  refine ⟨H.instOf (by decide +kernel), x, D, t, rfl, ht, H, k1 _ _ ?_⟩
  refine Yg fun K1 r1 => ?_
  dsimp only [Za8, Zm, Zk, Yq, Loc.set, String.reduceBEq, cond_true, cond_false, Za5]
  simp only [H.rowsA]
  exact H.item hi ht (H.item2 ht (r1 _ _ _ (kret _ _ _ _ Sub.refl h)))
theorem Zrz (hK : (KK P).In g.b0) (N : NN g) (F_is_number : FnG g "is_number" 4 Yt) (M_count : FnM g (KK P) CC "count" 4 (Zfv CC)) : Xu g 5 (.ref 250) (Zow CC) := by
  refine Xu.mono (Z1 (r := 4) (ps := ["self", "thing"]) (hK 250 _ rfl) rfl (Zq (hK 249 _ rfl) rfl rfl) rfl (by intro vs h; obtain ⟨a0, a1, rfl⟩ := Zrn h; rfl) rfl rfl rfl (by decide +kernel)
    (Zc (Zj (Wt (Zdq (Zp 2 rfl F_is_number (Za (Zb 1 rfl rfl) Ze) rfl) (Zb4 (Zol Zg (Zb 1 rfl rfl) (Zs hK hC M_count (Zb 0 rfl rfl) Ze rfl rfl rfl rfl) rfl)))))
  Zh)) ?_
  rintro xs σ Q E ⟨x, D, m, hu, rfl, H, W, h64, h⟩
  refine Yu rfl fun K KE kret kend _ => ?_
  dsimp only [Loc.setAll]
  refine Yg fun K1 r1 => ?_
  dsimp only [Za8, Ye, Yj, Zt, Zm, Zk, Xr, Wy, Zs3, Loc.set, String.reduceBEq, cond_true, cond_false, Yy, Zuk, Yt]
  refine ⟨hu, rfl, ?_⟩
  have ha8 := W.a8
  have hb8 := W.b8
  by_cases h0 : 0 ≤ hu
  · simp only [decide_eq_true h0]
    refine ⟨H.instOf (by decide +kernel), x, D, rfl, H, W.good.inc, h64, by exact Zc7 ha8, by exact Zev ha8, by exact Zc7 hb8, by exact Zev hb8, fun m' hm' => ?_⟩
    have : m' = m := hm'.uniq W.good.cnt
    subst this
    have e : decide (hu < (m' : Int)) = decide (0 ≤ hu ∧ hu < (m' : Int)) := by rw [decide_eq_decide]; exact ⟨fun q => ⟨h0, q⟩, fun q => q.2⟩
    simp only [e]
    exact r1 _ _ _ (kret _ _ _ _ Sub.refl h)
  · simp only [decide_eq_false h0]
    have e : false = decide (0 ≤ hu ∧ hu < (m : Int)) := by symm; rw [decide_eq_false_iff_not]; exact fun q => h0 q.1
    rw [e]
    exact r1 _ _ _ (kret _ _ _ _ Sub.refl h)
theorem Zry (hK : (KK P).In g.b0) (N : NN g) (M_is_hue : FnM g (KK P) CC "is_hue" 5 (Zow CC)) : Xu g 6 (.ref 255) (Zos CC) := by
  refine Xu.mono (Z1 (r := 5) (ps := ["self", "hue"]) (hK 255 _ rfl) rfl (Zq (hK 254 _ rfl) rfl rfl) rfl (by intro vs h; obtain ⟨a0, a1, rfl⟩ := Zrn h; rfl) rfl rfl rfl (by decide +kernel)
    (Zc (Yb (Y5 (Ym (Zs hK hC M_is_hue (Zb 0 rfl rfl) (Za (Zb 1 rfl rfl) Ze) rfl rfl rfl rfl) (fun _ _ => rfl))) (Zc Zcb
  Zh) Zh)
  (Zc (Zj (Y0 (by decide +kernel) (Z3 (Zp 3 rfl (Zy N.n_sorted Ws) (Za (Yc hK hC CF.a_rows rfl rfl (Zb 0 rfl rfl)) Ze) rfl)) (.name (at_ (i := 1) rfl) rfl) (by decide +kernel) (W8 (Zv (Zi (Zi (Yc hK hC CF.a_rows rfl rfl (Zb 3 rfl rfl)) (Zb 1 rfl rfl) (fun _ _ => rfl)) Zg (fun _ _ => rfl)) (Zb 2 rfl rfl) rfl)) (Zb 1 rfl rfl) (fun _ _ => rfl)))
  Zh))) ?_
  rintro xs σ Q E ⟨x, D, m, hu, rfl, H, W, h64, h0, h1, h⟩
  refine Yu rfl fun K KE kret kend _ => ?_
  dsimp only [Loc.setAll]
  refine Yl fun K1 k1 r1 => ?_
  dsimp only [Zan, Zkl, Yj, Zt, Zk, Zax, Xr, Zco, Loc.set, String.reduceBEq, cond_true, cond_false, Yy]
  refine ⟨H.instOf (by decide +kernel), x, D, m, hu, rfl, H, W, h64, ?_⟩
  have e : decide (0 ≤ hu ∧ hu < (m : Int)) = true := by rw [decide_eq_true_iff]; exact ⟨h0, h1⟩
  rw [e]
  simp only [Bool.not_true]
  refine k1 _ _ ?_
  have hi := W.good.inc
  refine Yg fun K1 r1 => ?_
  dsimp only [Za8, Zap, Zah, Ye, Y6, Zav, Yj, Zt, Zk, Loc.set, String.reduceBEq, cond_true, cond_false, Za5]
  simp only [H.rowsA]
  refine Zb2 H hi h64 fun b hb => ?_
  simp only [Zd]
  have s1 : Sub σ (σ.set b (.list (D.T.map fun t => V.int t.1.n))) := Sub.refl.new hb
  refine ⟨nofun, Xc (fun t : Rw × Addr => V.int t.1.n) (fun t => t.1.h == some hu) (fun t => V.int t.1.n) D.T (fun σ' hs => hs _ _ Zd) (fun t ht σ' hs => ⟨_, fun P h => h, fun Qb hQ => ?_, fun _ σ'' hs'' Qv hQ => ?_⟩) fun σ' hs => ?_⟩
  · have H' := H.sub (s1.trans hs)
    dsimp only [Zm, Zk, Xm, Wy, Yq, Loc.set, Loc.bare, String.reduceBEq, cond_true, cond_false, Za5]
    simp only [H'.rowsA]
    exact H'.item hi ht (H'.item2 ht (Zlb (hQ _ Sub.refl)))
  · dsimp only [Zk, Loc.set, Loc.bare, String.reduceBEq, cond_true, cond_false]
    exact hQ _ Sub.refl
  · intro d hd
    have s2 : Sub σ σ' := s1.trans hs
    have e2 : ((D.T.filter fun t => t.1.h == some hu).map fun t => V.int t.1.n) = (Zfh D.S hu).map fun x => V.int x.n := by
      unfold Zfh HD.S
      rw [List.filter_map, List.map_map]; rfl
    rw [e2]
    exact r1 _ _ _ (kret _ _ _ _ (Zd6 s2) (h d (s2.none hd)))
theorem Zpx (hK : (KK P).In g.b0) (N : NN g) (M_count : FnM g (KK P) CC "count" 4 (Zfv CC)) (M_met : FnM g (KK P) CC "met" 4 (Zt7 CC)) : Xu g 5 (.ref 267) (Zis CC) := by
  refine Xu.mono (Z1 (r := 4) (ps := ["self"]) (hK 267 _ rfl) rfl (Zq (hK 266 _ rfl) rfl rfl) rfl (by intro vs h; obtain ⟨a0, rfl⟩ := Zph h; rfl) rfl rfl rfl (by decide +kernel)
    (Zc (Z6 1 rfl rfl (Zs hK hC M_count (Zb 0 rfl rfl) Ze rfl rfl rfl rfl) (fun _ => rfl))
  (Zc (Yb (Zv (Zb 1 rfl rfl) Zg rfl) (Zc (Zj (Zx (Za (Zw Ze) (Za (Zw Ze) Ze))))
  Zh) Zh)
  (Zc (Yo (at_ (i := 2) rfl) rfl (by decide +kernel) (Yv (at_ (i := 4) rfl) (N.n_range) (Zi (Yc hK hC CF.a_sizes rfl rfl (Zb 0 rfl rfl)) (Z7 (at_ (i := 5) rfl) (N.n_LEFT) (fun _ => Y9.mpr ⟨Za4 (by decide), _, rfl⟩)) (fun _ _ => rfl)) rfl) (.name (at_ (i := 1) rfl) rfl) (by decide +kernel) (W8 (Zv (Zp 2 rfl (Zy N.n_len Wb) (Za (Zs hK hC M_met (Zb 5 rfl rfl) (Za (Z7 (at_ (i := 3) rfl) (N.n_LEFT) (fun _ => Y9.mpr ⟨Za4 (by decide), _, rfl⟩)) (Za (Zb 1 rfl rfl) Ze)) rfl rfl rfl rfl) Ze) rfl) (Zb 4 rfl rfl) rfl)) (Zb 1 rfl rfl) (fun _ _ => rfl))
  (Zc (Yo (at_ (i := 3) rfl) rfl (by decide +kernel) (Yv (at_ (i := 4) rfl) (N.n_range) (Zi (Yc hK hC CF.a_sizes rfl rfl (Zb 0 rfl rfl)) (Z7 (at_ (i := 6) rfl) (N.n_RIGHT) (fun _ => Y9.mpr ⟨Za4 (by decide), _, rfl⟩)) (fun _ _ => rfl)) rfl) (.name (at_ (i := 1) rfl) rfl) (by decide +kernel) (W8 (Zv (Zp 2 rfl (Zy N.n_len Wb) (Za (Zs hK hC M_met (Zb 5 rfl rfl) (Za (Z7 (at_ (i := 3) rfl) (N.n_RIGHT) (fun _ => Y9.mpr ⟨Za4 (by decide), _, rfl⟩)) (Za (Zb 1 rfl rfl) Ze)) rfl rfl rfl rfl) Ze) rfl) (Zb 4 rfl rfl) rfl)) (Zb 1 rfl rfl) (fun _ _ => rfl))
  (Zc (Zj (Zx (Za (Zb 2 rfl rfl) (Za (Zb 3 rfl rfl) Ze))))
  Zh)))))) ?_
  rintro xs σ Q E ⟨x, D, m, rfl, H, W, h64, h⟩
  refine Yu rfl fun K KE kret kend _ => ?_
  dsimp only [Loc.setAll]
  have ha8 := W.a8
  have hb8 := W.b8
  have hi := W.good.inc
  refine Yl fun K1 k1 r1 => ?_
  dsimp only [Z5, Yj, Zk, Loc.set, String.reduceBEq, cond_true, Yy]
  refine ⟨H.instOf (by decide +kernel), x, D, rfl, H, W.good.inc, h64, by exact Zc7 ha8, by exact Zev ha8, by exact Zc7 hb8, by exact Zev hb8, fun m' hm' => ?_⟩
  have : m' = m := hm'.uniq W.good.cnt
  subst this
  refine k1 _ _ ?_
  refine Yl fun K1 k1 r1 => ?_
  dsimp only [Zan, Zkl, Zm, Zk, Xm, Wy, Loc.set, String.reduceBEq, cond_true, cond_false]
  simp only [eqD]
  by_cases hz : m' = 0
  · have e : ((m' : Int) == 0) = true := by rw [hz]; rfl
    rw [e]
    simp only
    refine Yg fun K2 r2 => ?_
    dsimp only [Za8, Zay, Wc, Yj, Zt, List.length_cons, List.length_nil]
    refine ⟨Yh rfl, fun b hb => ⟨Yh rfl, fun c hc => ⟨Yh rfl, r2 _ _ _ (r1 _ _ _ (kret _ _ _ _ Sub.refl ?_))⟩⟩⟩
    have := h b c hb ((Sub.refl.new hb).none hc) (fun z => by rw [← z, Zd] at hc; cases hc)
    rw [if_pos hz, if_pos hz] at this
    exact this
  · have e : ((m' : Int) == 0) = false := by simp; exact Zzc hz
    rw [e]
    simp only
    refine k1 _ _ ?_
    rw [if_neg hz, if_neg hz] at h
    refine Yl fun K1 k1 r1 => ?_
    dsimp only [Xh, Zae, Zav, Zm, Zk, Yq, Loc.set, String.reduceBEq, cond_true, cond_false, Za5]
    simp only [H.sizesA]
    refine H.size false ⟨by simp [Zb3]; exact Zc7 ha8, by simp [Zb3, Xv]; exact Ztj ha8, nofun, ?_⟩
    rw [Zat]
    refine Xc V.int (fun e => deg D.S false e == m') V.int (Zcl (Zb3 D.a D.b false).toNat) (fun _ _ => trivial) (fun e _ σ4 s4 => ⟨_, fun P h => h, fun Qb hQ => ?_, fun _ σ5 s5 Qv hQ => ?_⟩) fun σ4 s4 d hd => ?_
    · have H4 := H.sub s4
      dsimp only [Ye, Zjf, Zjt, Yj, Zt, Zm, Zk, Xm, Wy, Loc.set, Loc.bare, String.reduceBEq, cond_true, cond_false, Yy]
      refine ⟨H4.instOf (by decide +kernel), x, D, false, e, rfl, H4, hi, h64, fun q hq => ?_⟩
      simp only [Zd, List.length_map, Zi0, eqD]
      have ee : ((deg D.S false e : Int) == (m' : Int)) = (deg D.S false e == m') := by rw [Bool.eq_iff_iff]; simp; exact Zu0
      rw [ee]
      exact hQ _ (Sub.refl.new hq)
    · dsimp only [Zk, Loc.set, Loc.bare, String.reduceBEq, cond_true, cond_false]
      exact hQ _ Sub.refl
    · refine k1 _ _ ?_
      have s5 := s4.new (o := .list (((Zcl (Zb3 D.a D.b false).toNat).filter fun e => deg D.S false e == m').map V.int)) hd
      have H5 := H.sub s5
      refine Yl fun K1 k1 r1 => ?_
      dsimp only [Xh, Zae, Zav, Zm, Zk, Yq, Loc.set, String.reduceBEq, cond_true, cond_false, Za5]
      simp only [H5.sizesA]
      refine H5.size true ⟨by simp [Zb3]; exact Zc7 hb8, by simp [Zb3, Xv]; exact Ztj hb8, nofun, ?_⟩
      rw [Zat]
      refine Xc V.int (fun e => deg D.S true e == m') V.int (Zcl (Zb3 D.a D.b true).toNat) (fun _ _ => trivial) (fun e _ σ6 s6 => ⟨_, fun P h => h, fun Qb hQ => ?_, fun _ σ7 s7 Qv hQ => ?_⟩) fun σ6 s6 d' hd' => ?_
      · have H6 := H5.sub s6
        dsimp only [Ye, Zjf, Zjt, Yj, Zt, Zm, Zk, Xm, Wy, Loc.set, Loc.bare, String.reduceBEq, cond_true, cond_false, Yy]
        refine ⟨H6.instOf (by decide +kernel), x, D, true, e, rfl, H6, hi, h64, fun q hq => ?_⟩
        simp only [Zd, List.length_map, Zi0, eqD]
        have ee : ((deg D.S true e : Int) == (m' : Int)) = (deg D.S true e == m') := by rw [Bool.eq_iff_iff]; simp; exact Zu0
        rw [ee]
        exact hQ _ (Sub.refl.new hq)
      · dsimp only [Zk, Loc.set, Loc.bare, String.reduceBEq, cond_true, cond_false]
        exact hQ _ Sub.refl
      · refine k1 _ _ ?_
        refine Yg fun K1 r1 => ?_
        dsimp only [Za8, Wc, Yj, Zt, Zk, Loc.set, String.reduceBEq, cond_true, cond_false, List.length_cons, List.length_nil]
        refine ⟨Yh rfl, r1 _ _ _ (kret _ _ _ _ ?_ (h d d' (s4.none hd) ((s5.trans s6).none hd') (fun z => ?_)))⟩
        · refine Zgk (fun y p q => ?_) Zd
          refine Zl ?_ hd'
          exact s6 _ _ ((Zgk s5 Zd) y p q)
        · have w := s6 _ _ (Zd (σ := σ4) (a := d))
          rw [z, hd'] at w; cases w
theorem Z4r (hK : (KK P).In g.b0) (N : NN g) (M_need_pair : FnM g (KK P) CC "need_pair" 7 (Zes CC)) (M_count : FnM g (KK P) CC "count" 7 (Zfv CC)) (M_hued : FnM g (KK P) CC "hued" 7 (Zq6 CC)) : Xu g 8 (.ref 229) (Zwj CC) := by
  refine Xu.mono (Z1 (r := 7) (ps := ["self", "number"]) (hK 229 _ rfl) rfl (Zq (hK 228 _ rfl) rfl rfl) rfl (by intro vs h; obtain ⟨a0, a1, rfl⟩ := Zrn h; rfl) rfl rfl rfl (by decide +kernel)
    (Zc (Yn (Zs hK hC M_need_pair (Zb 0 rfl rfl) (Za (Zb 1 rfl rfl) Ze) rfl rfl rfl rfl) (fun _ => rfl))
  (Zc (Z6 2 rfl rfl (Zs hK hC M_count (Zb 0 rfl rfl) Ze rfl rfl rfl rfl) (fun _ => rfl))
  (Zc (Yn (Z1y (Yc hK hC CF.a_rows rfl rfl (Zb 0 rfl rfl)) (Za (Zb 1 rfl rfl) Ze) rfl rfl rfl rfl) (fun _ => rfl))
  (Zc (Z6 3 rfl rfl (Zs hK hC M_count (Zb 0 rfl rfl) Ze rfl rfl rfl rfl) (fun _ => rfl))
  (Zc (Z6 4 rfl rfl (Zw Ze) (fun _ => rfl))
  (Zc (Yb (Zv (Zb 3 rfl rfl) (Zb 2 rfl rfl) rfl) (Zc (Yz (Z3 (Zp 6 rfl (Zy N.n_sorted Ws) (Za (Yc hK hC CF.a_rows rfl rfl (Zb 0 rfl rfl)) Ze) rfl)) (.name (at_ (i := 5) rfl) rfl) (Zc (Yb (Zv (Zi (Zi (Yc hK hC CF.a_rows rfl rfl (Zb 0 rfl rfl)) (Zb 5 rfl rfl) (fun _ _ => rfl)) Zg (fun _ _ => rfl)) (Zb 3 rfl rfl) rfl) (Zc (Yn (Za0 (Zb 4 rfl rfl) (Za (Zs hK hC M_hued (Zb 0 rfl rfl) (Za (Zb 5 rfl rfl) (Za (Zi (Zi (Yc hK hC CF.a_rows rfl rfl (Zb 0 rfl rfl)) (Zb 5 rfl rfl) (fun _ _ => rfl)) Zg (fun _ _ => rfl)) (Za (Zi (Zi (Yc hK hC CF.a_rows rfl rfl (Zb 0 rfl rfl)) (Zb 5 rfl rfl) (fun _ _ => rfl)) Zg (fun _ _ => rfl)) (Za (Zb 3 rfl rfl) Ze)))) rfl rfl rfl rfl) Ze) rfl rfl rfl rfl) (fun _ => rfl))
  Zh) Zh)
  Zh) (fun _ _ => rfl))
  Zh) Zh)
  (Zc (Zj (Zb 4 rfl rfl))
  Zh)))))))) ?_
  rintro xs σ Q E ⟨x, D, m, t, rfl, ht, H, W, h64, h⟩
  refine Yu rfl fun K KE kret kend _ => ?_
  dsimp only [Loc.setAll]
  have ha8 := W.a8
  have hb8 := W.b8
  have hi := W.good.inc
  refine Yl fun K1 k1 r1 => ?_
  dsimp only [tDo, Yj, Zt, Zk, Loc.set, String.reduceBEq, cond_true, cond_false, Yy]
  refine ⟨H.instOf (by decide +kernel), x, D, t, rfl, ht, H, k1 _ _ ?_⟩
  refine Yl fun K1 k1 r1 => ?_
  dsimp only [Z5, Yj, Zk, Loc.set, String.reduceBEq, cond_true, cond_false, Yy]
  refine ⟨H.instOf (by decide +kernel), x, D, rfl, H, hi, h64, by exact Zc7 ha8, by exact Zev ha8, by exact Zc7 hb8, by exact Zev hb8, fun m0 hm0 => k1 _ _ ?_⟩
  have : m0 = m := hm0.uniq W.good.cnt
  subst this
  refine Yl fun K1 k1 r1 => ?_
  obtain ⟨ep, er⟩ := H.rows
  dsimp only [tDo, Xf, Zga, Yj, Zt, Zk, Loc.set, String.reduceBEq, cond_true, cond_false, Za5]
  simp only [H.rowsA, er, Zt5]
  refine ⟨trivial, _, Zl0 hi ht, fun ep2 => k1 _ _ ?_⟩
  have H1 := H.dropRow t.1.n ep2
  generalize hσ1 : σ.set D.rd (.dictI ((D.T.map fun t => (t.1.n, V.ref t.2)).filter fun kv => decide (kv.1 ≠ t.1.n)) ep2) = σ1 at H1
  have hS1 : (D.drop t.1.n).S = drp t.1.n D.S := HD.drop_S
  have hi1 : Inc (D.drop t.1.n).S := by rw [hS1]; exact hi.filter _
  have h641 : (D.drop t.1.n).T.length < 64 := Nat.lt_of_le_of_lt (List.length_filter_le _ _) h64
  have F1 : Frm σ σ1 D (D.drop t.1.n) := by
    refine ⟨fun y o q nf => by rw [← hσ1, Zf fun z => nf (.inr (.inl z))]; exact q, fun y q => ?_, ⟨rfl, rfl, rfl⟩, fun y q => ?_⟩
    · rcases q with q | q | q
      · exact .inl (.inl q)
      · exact .inl (.inr (.inl q))
      · obtain ⟨u, hu, rfl⟩ := List.mem_map.1 q
        exact .inl (.inr (.inr (List.mem_map.2 ⟨u, (List.mem_filter.1 hu).1, rfl⟩)))
    · rw [← hσ1] at q
      by_cases z : y = D.rd
      · rw [z, Zd] at q; cases q
      · rw [Zf z] at q; exact q
  refine Yl fun K1 k1 r1 => ?_
  dsimp only [Z5, Yj, Zk, Loc.set, String.reduceBEq, cond_true, cond_false, Yy]
  refine ⟨H1.instOf (by decide +kernel), x, D.drop t.1.n, rfl, H1, hi1, h641, by show 0 ≤ D.a; exact Zc7 ha8, by show D.a ≤ 1000; exact Zev ha8, by show 0 ≤ D.b; exact Zc7 hb8, by show D.b ≤ 1000; exact Zev hb8, fun m' hm' => k1 _ _ ?_⟩
  rw [hS1] at hm'
  have hm' : W7 (drp t.1.n D.S) D.a D.b m' := hm'
  obtain ⟨hle, hsame, hless⟩ := W.good.go hm'
  refine Yl fun K1 k1 r1 => ?_
  dsimp only [Z5, Zay, Yj, List.length_nil]
  refine ⟨Yh rfl, fun b hb => k1 _ _ ?_⟩
  have hb0 : σ b = none := F1.dom b hb
  have hdn : ∀ n ∈ (drp t.1.n D.S).map Rw.n, n ∈ D.S.map Rw.n := fun n hn => by
    obtain ⟨y, hy, rfl⟩ := List.mem_map.1 hn
    exact List.mem_map.2 ⟨y, (List.mem_filter.1 hy).1, rfl⟩
  have Wf : ∀ {σ' : AH} {D' : HD} {b : Addr}, Zu σ' CC x D' → σ' b = none → ¬ D'.foot b := fun {σ' D' b} H' hb q => by
    rcases q with q | q | q
    · have := H'.attrs; rw [← q, hb] at this; cases this
    · obtain ⟨_, this⟩ := H'.rows; rw [← q, hb] at this; cases this
    · obtain ⟨u, hu, rfl⟩ := List.mem_map.1 q
      have := H'.row u hu; rw [hb] at this; cases this
  refine Yl fun K1 k1 r1 => ?_
  dsimp only [Zan, Zkl, Zk, Xm, Wy, Loc.set, String.reduceBEq, cond_true, cond_false]
  by_cases hlt : m' < m0
  case neg =>
    have e : decide ((m' : Int) < (m0 : Int)) = false := by rw [decide_eq_false_iff_not]; exact Zzb hle hlt
    simp only [e]
    refine k1 _ _ ?_
    refine Yg fun K1 r1 => ?_
    dsimp only [Za8, Zk, Loc.set, String.reduceBEq, cond_true, cond_false]
    have hg := hsame (by exact Zza hle hlt)
    have hnone : ((drp t.1.n D.S).filter fun x => x.h == some (m' : Int)) = [] := by
      rw [List.filter_eq_nil_iff]
      intro y hy
      obtain ⟨h', e', _, hl'⟩ := hg.hues y hy
      rw [e']; simp; exact Zy9 hl'
    refine r1 _ _ _ (kret _ _ _ _ Sub.refl (h _ (D.drop t.1.n) m' b [] (H1.sub (Sub.refl.new hb)) (W.of_sk (by rw [hS1]; exact hg) ⟨rfl, rfl, rfl⟩ (by rw [hS1]; exact hdn)) (F1.setNew hb0) (by rw [hS1]) hm' (by rw [hS1]; exact .nil) (by rw [hnone]; rfl) hb0 (Wf H1 hb) Zd fun e he => absurd he (by simp)))
  case pos =>
    have e : decide ((m' : Int) < (m0 : Int)) = true := by rw [decide_eq_true_iff]; exact Zuz hlt
    simp only [e]
    have hpend := hless hlt
    have H2 := H1.sub (Sub.refl.new (o := .list []) hb)
    refine Zo fun K2 k2 => ?_
    dsimp only [Zgb, Zap, Zah, Ye, Yj, Zt, Zk, Loc.set, String.reduceBEq, cond_true, cond_false, Za5]
    simp only [H2.rowsA]
    refine Zb2 H2 hi1 h641 fun o ho => ?_
    simp only [Zd]
    have hob : o ≠ b := fun z => by rw [z, Zd] at ho; cases ho
    have ho1 : σ1 o = none := (Sub.refl.new hb).none ho
    refine ⟨nofun, Zaf (fun xs ℓ σ' => ∀ P0 : Prop, (∀ (rest : List Int) (Dc : HD) (log : List Zdo) (pre post : List Rw), (drp t.1.n D.S = pre ++ post) → (rest = post.map Rw.n) → (log.map Zdo.k = (pre.filter fun x => x.h == some (m' : Int)).map Rw.n) → ((∀ y ∈ Dc.S, ∀ x ∈ post, x.n = y.n → (y.h == some (m' : Int)) = (x.h == some (m' : Int)))) → (xs = rest.map V.int) → (Zu σ' CC x Dc) → (Frm σ1 σ' (D.drop t.1.n) Dc) → (Zqy Dc.S D.a D.b m' rest) → (Dc.S.map sk = (drp t.1.n D.S).map sk) → ((∀ k ∈ rest, k ∈ (drp t.1.n D.S).map Rw.n)) → (Zlk m' (drp t.1.n D.S) log Dc.S) → (σ' b = some (.list (log.map Zdo.v))) → (¬ Dc.foot b) → (σ' o = some (.list ((D.drop t.1.n).T.map fun t => V.int t.1.n))) → (¬ Dc.foot o) → ((∀ e ∈ log, σ' e.c = some (.list (e.nums.map V.int)) ∧ σ e.c = none ∧ ¬ Dc.foot e.c ∧ e.c ≠ b)) → (ℓ "self" = some (.ref x)) → (ℓ "many" = some (.int (m' : Nat))) → (ℓ "found" = some (.ref b)) → (log.length + rest.length ≤ 64) → P0) → P0) ?_ ?_
      (fun _ kI => kI ((drp t.1.n D.S).map Rw.n) (D.drop t.1.n) ([]) ([]) (drp t.1.n D.S) (rfl) (rfl) (rfl) ((fun y hy x hx e => by rw [hS1] at hy; rw [(hi.filter _).inj hx hy e])) (?_) (H2.sub (Sub.refl.new ho)) (⟨fun y p q _ => Zl (Zl q hb) ho, fun y q => .inl q, ⟨rfl, rfl, rfl⟩, fun y q => (Sub.refl.new hb).none ((Sub.refl.new ho).none q)⟩) (by rw [hS1]; exact hpend) (by rw [hS1]) (fun k hk => hk) (by rw [hS1]; exact .nil) (Zl Zd ho) (Wf H1 hb) (Zd) (Wf H1 ho1) (fun e he => absurd he (by simp)) (rfl) (rfl) (rfl) (?_))⟩
    · intro ℓ σ' hI0
      refine hI0 _ fun rest Dc log pre post p1 p2 p3 p4 h1 Hc Fc hP hsk hks hlog hb2 nfb ho2 nfo hlc e1 e2 e3 hll => ?_
      obtain rfl := Xb h1
      have hpo : post = [] := by cases post with | nil => rfl | cons _ _ => simp at p2
      subst hpo
      rw [List.append_nil] at p1
      subst p1
      refine ⟨ho2, k2 _ _ ?_⟩
      dsimp only [Zan]
      refine k1 _ _ ?_
      refine Yg fun K1 r1 => ?_
      dsimp only [Za8, Zk]
      simp only [e3]
      exact r1 _ _ _ (kret _ _ _ _ Sub.refl (h σ' Dc m' b log Hc (W.of_sk hP.done (Fc.sz) (by rw [Zul hsk]; exact hdn)) (F1.trans Fc) hsk hm' hlog p3 hb0 nfb hb2 fun e he => let ⟨a, b, c, _⟩ := hlc e he; ⟨a, b, c⟩))
    · intro v xs ℓ σ' K3 k3 r3 hI0
      refine hI0 _ fun rest Dc log pre post p1 p2 p3 p4 h1 Hc Fc hP hsk hks hlog hb2 nfb ho2 nfo hlc e1 e2 e3 hll => ?_
      obtain ⟨k, rest, rfl, rfl, rfl⟩ := Yp h1
      obtain ⟨x0, post, rfl, hx0, p2'⟩ : ∃ x0 post', post = x0 :: post' ∧ x0.n = k ∧ rest = post'.map Rw.n := by
        cases post with
        | nil => simp at p2
        | cons a l => simp only [List.map_cons, List.cons.injEq] at p2; exact ⟨a, l, rfl, p2.1.symm, p2.2⟩
      refine ⟨ho2, ?_⟩
      dsimp only [Xd]
      have hk := hks k (.head _)
      rw [← Zul hsk] at hk
      obtain ⟨y, hy, rfl⟩ := List.mem_map.1 hk
      obtain ⟨u, hu, rfl⟩ := Zpe hy
      have hic := hP.inc
      have hq0 := p4 u.1 hy x0 (.head _) hx0
      refine Zo fun K4 k4 => ?_
      dsimp only [Zan, Zkl, Zm, Zk, Xm, Wy, Yq, Loc.set, String.reduceBEq, cond_true, cond_false, Za5]
      simp only [e1, e2, Hc.rowsA]
      refine Hc.item hic hu (Hc.item2 hu (Zlb ?_))
      cases q : (u.1.h == some (m' : Int)) with
      | false =>
        simp only
        exact k4 _ _ (k3 _ _ (fun _ kI => kI (rest) (Dc) (log) (pre ++ [x0]) (post) (by simpa using p1) (p2') ((by rw [List.filter_append, List.map_append, ← p3, List.filter_cons_of_neg (by rw [← hq0, q]; simp)]; simp)) (fun y' hy' x hx e => p4 y' hy' x (.tail _ hx) e) (rfl) (Hc) (Fc) (hP.skip hy rfl (by simpa using q)) (hsk) (fun k' hk' => hks k' (.tail _ hk')) (hlog) (hb2) (nfb) (ho2) (nfo) (hlc) (e1) (e2) (e3) (by simp at hll; exact Zy8 hll)))
      | true =>
        simp only
        have hum : u.1.h = some (m' : Int) := by simpa using q
        refine Zo fun K5 k5 => ?_
        dsimp only [tDo, Xf, Zga, Wr, Yj, Zt, Zm, Zk, Yq, Loc.set, String.reduceBEq, cond_true, cond_false, Za5, Yy]
        simp only [e1, e2, e3, hb2, Hc.rowsA]
        refine ⟨trivial, Hc.instOf (by decide +kernel), Hc.item hic hu (Hc.item0 hu (Hc.item hic hu (Hc.item1 hu ?_)))⟩
        have hT : Dc.T.length < 64 := by
          have := congrArg List.length hsk
          simp [HD.S] at this
          rw [this]
          exact Nat.lt_of_le_of_lt (List.length_filter_le _ _) (by simpa [HD.S] using h64)
        have hm100 : m' ≤ 100 := by
          have := Zac hP.cnt; simp [HD.S] at this; exact Zy7 hT this
        refine ⟨x, Dc, u, m', rfl, hu, Hc, hic, hT, hm100, Wu hP.proper, hP.cnt.all hP.inr _ _, hP.cnt.all hP.inr _ _, fun σ3 D3 hue other nums c H3 F3 hto hc1 hc2 hc3 => ?_⟩
        have nfb3 : ¬ D3.foot b := fun z => by
          rcases F3.new b z with w | w
          · exact nfb w
          · rw [hb2] at w; cases w
        have nfo3 : ¬ D3.foot o := fun z => by
          rcases F3.new o z with w | w
          · exact nfo w
          · rw [ho2] at w; cases w
        have b3 : σ3 b = some (.list (log.map Zdo.v)) := F3.keep b _ hb2 nfb
        have o3 : σ3 o = some (.list ((D.drop t.1.n).T.map fun t => V.int t.1.n)) := F3.keep o _ ho2 nfo
        simp only [b3]
        have p4' : ∀ y ∈ D3.S, ∀ x ∈ post, x.n = y.n → (y.h == some (m' : Int)) = (x.h == some (m' : Int)) := fun y' hy' x hx e => by
          have hlt : x0.n < x.n := by
            have hinc : Inc (drp t.1.n D.S) := hi.filter _
            rw [p1] at hinc
            exact (List.pairwise_cons.1 (List.pairwise_append.1 hinc).2.1).1 x hx
          obtain ⟨y0, hy0, e0, e1⟩ := hto.tag hP.proper hic hy rfl rfl rfl y' hy' (by exact Zy6 hx0 e hlt)
          rw [e1]; exact p4 y0 hy0 x (.tail _ hx) (by rw [e0, e])
        have hcb : c ≠ b := fun z => by rw [z, hb2] at hc1; cases hc1
        refine ⟨by simp [Xv]; simp at hll; exact Zy5 hll, k5 _ _ (k4 _ _ (k3 _ _ (fun _ kI => kI (rest) (D3) (log ++ [⟨u.1.n, hue, other, nums, c⟩]) (pre ++ [x0]) (post) (by simpa using p1) (p2') ((by rw [List.filter_append, List.map_append, List.map_append, ← p3, List.filter_cons_of_pos (by rw [← hq0, q])]; simp [hx0])) (p4') (rfl) (H3.setList b3 fun z => nfb3 (.inr (.inr z))) ((Fc.trans F3).setNew (by exact hb)) (?_) (?_) (fun k' hk' => hks k' (.tail _ hk')) (?_) (?_) (nfb3) (?_) (nfo3) (fun e he => ?_) (e1) (e2) (e3) (by simp at hll ⊢; exact Zy4 hll))))⟩
        · refine hP.step (hto.hued (Wu hP.proper) (Zcx (fun _ => Wv) hic) (x := Wm u.1.n none u.1) (List.mem_map.2 ⟨u.1, hy, rfl⟩) Wv (Zai rfl) ?_ ?_)
          · unfold Wm; rw [if_pos rfl]
          · unfold Wm; rw [if_pos rfl]
        · have hh := hto.hued (Wu hP.proper) (Zcx (fun _ => Wv) hic) (x := Wm u.1.n none u.1) (List.mem_map.2 ⟨u.1, hy, rfl⟩) Wv (Zai rfl) (by unfold Wm; rw [if_pos rfl]) (by unfold Wm; rw [if_pos rfl])
          rw [hh.sk, Zjk fun _ => Zim]; exact hsk
        · exact .snoc hlog hy rfl hum hto
        · rw [Zd]; simp [Zdo.v]
        · rw [Zf hob]; exact o3
        · rcases List.mem_append.1 he with w | w
          · obtain ⟨a1, a2, a3, a4⟩ := hlc e w
            refine ⟨by rw [Zf a4]; exact F3.keep _ _ a1 a3, a2, fun z => ?_, a4⟩
            rcases F3.new _ z with v | v
            · exact a3 v
            · rw [a1] at v; cases v
          · rw [List.mem_singleton.1 w]
            exact ⟨by rw [Zf hcb]; exact hc3, F1.dom _ (Fc.dom _ hc1), hc2, hcb⟩
    · unfold HD.drop
      simp only [drp, HD.S, List.filter_map, List.map_map]
      rfl
    · simp only [List.length_nil, List.length_map]
      have := List.length_filter_le (fun x : Rw => x.n != t.1.n) D.S
      unfold drp
      simp [HD.S] at *; exact Zuy h64 this
end
section
open PySem PySem.W PyProof.Rows
variable {g : Gr} {P : Params}
theorem Zj5 (hK : (KK P).In g.b0) (N : NN g) (M_need_end : FnM g (KK P) CC "need_end" 3 (Zgd CC)) : Xu g 4 (.ref 153) (Zfe CC) := by
  refine Xu.mono (Z1 (r := 3) (ps := ["self", "side", "end"]) (hK 153 _ rfl) rfl (Zq (hK 152 _ rfl) rfl rfl) rfl (by intro vs h; obtain ⟨a0, a1, a2, rfl⟩ := Zpg h; rfl) rfl rfl rfl (by decide +kernel)
    (Zc (Yb (Xi (Yx (Y5 (Ym (Yk (k := .str) (at_ (i := 3) rfl) (N.n_isinstance) (at_ (i := 4) rfl) (N.n_str) (Zb 1 rfl rfl) rfl) (fun _ _ => rfl))) (Yx (Zv (Zb 1 rfl rfl) (Zx (Za (Z7 (at_ (i := 5) rfl) (N.n_LEFT) (fun _ => Y9.mpr ⟨Za4 (by decide), _, rfl⟩)) (Za (Z7 (at_ (i := 6) rfl) (N.n_RIGHT) (fun _ => Y9.mpr ⟨Za4 (by decide), _, rfl⟩)) Ze))) rfl) Xs))) (Zc Zcb
  Zh) Zh)
  (Zc (Yn (Zs hK hC M_need_end (Zb 0 rfl rfl) (Za (Zb 1 rfl rfl) (Za (Zb 2 rfl rfl) Ze)) rfl rfl rfl rfl) (fun _ => rfl))
  Zh))) ?_
  rintro xs σ Q E ⟨x, D, s, e, rfl, H, h0, h1, h⟩
  refine Yu rfl fun K KE kret kend _ => ?_
  dsimp only [Loc.setAll]
  refine Zo fun K1 k1 => ?_
  dsimp only [Zan, Zkl, Zqv, Zn3, Wc, Yj, Zt, Zm, Zk, Zax, Xr, Zco, Zoc, Wd, Xm, Wy, Loc.set, String.reduceBEq, cond_true, cond_false, List.length_cons, List.length_nil]
  simp only [Bool.not_true]
  refine ⟨Yh rfl, Zrs ?_⟩
  simp only [Bool.not_true]
  refine k1 _ _ ?_
  refine Zo fun K2 k2 => ?_
  dsimp only [tDo, Yj, Zt, Zk, Loc.set, String.reduceBEq, cond_true, cond_false, Yy]
  refine ⟨H.instOf (by decide +kernel), x, D, s, e, rfl, H, h0, h1, k2 _ _ ?_⟩
  dsimp only [Zan]
  exact kend _ _ _ Sub.refl h
theorem Zvn (hK : (KK P).In g.b0) (N : NN g) (M_need_place : FnM g (KK P) CC "need_place" 5 (Zfe CC)) (M_open_hues : FnM g (KK P) CC "open_hues" 5 (Zor CC)) (M_count : FnM g (KK P) CC "count" 5 (Zfv CC)) : Xu g 6 (.ref 262) (Zoz CC) := by
  refine Xu.mono (Z1 (r := 5) (ps := ["self", "side", "end"]) (hK 262 _ rfl) rfl (Zq (hK 261 _ rfl) rfl rfl) rfl (by intro vs h; obtain ⟨a0, a1, a2, rfl⟩ := Zpg h; rfl) rfl rfl rfl (by decide +kernel)
    (Zc (Yn (Zs hK hC M_need_place (Zb 0 rfl rfl) (Za (Zb 1 rfl rfl) (Za (Zb 2 rfl rfl) Ze)) rfl rfl rfl rfl) (fun _ => rfl))
  (Zc (Zj (Zs hK hC M_open_hues (Zb 0 rfl rfl) (Za (Zb 1 rfl rfl) (Za (Zb 2 rfl rfl) (Za (Zs hK hC M_count (Zb 0 rfl rfl) Ze rfl rfl rfl rfl) Ze))) rfl rfl rfl rfl))
  Zh))) ?_
  rintro xs σ Q E ⟨x, D, m, s, e, rfl, H, W, h64, h0, h1, hq⟩
  refine Yu rfl fun K KE kret kend _ => ?_
  dsimp only [Loc.setAll]
  have ha8 := W.a8
  have hb8 := W.b8
  have hm64 : m < 64 := Nat.lt_of_le_of_lt (Zac W.good.cnt) (by simpa [HD.S] using h64)
  refine Zo fun K1 k1 => ?_
  dsimp only [tDo, Yj, Zt, Zk, Loc.set, String.reduceBEq, cond_true, cond_false, Yy]
  refine ⟨H.instOf (by decide +kernel), x, D, s, e, rfl, H, h0, h1, k1 _ _ ?_⟩
  refine Yg fun K2 r2 => ?_
  dsimp only [Za8, Yj, Zt, Zk, Loc.set, String.reduceBEq, cond_true, cond_false, Yy]
  refine ⟨H.instOf (by decide +kernel), H.instOf (by decide +kernel), x, D, rfl, H, W.good.inc, h64, by exact Zc7 ha8, by exact Zev ha8, by exact Zc7 hb8, by exact Zev hb8, fun m' hm' => ?_⟩
  obtain rfl : m' = m := hm'.uniq W.good.cnt
  exact ⟨x, D, s, e, m', rfl, H, W.good.inc, h64, by exact Nat.le_of_lt (Nat.lt_of_lt_of_le hm64 (by decide)), fun b hb => r2 _ _ _ (kret _ _ _ _ Sub.refl (hq b hb))⟩
end
section
open PySem PySem.W PyProof.Rows
variable {g : Gr} {P : Params}
theorem Zpz (hK : (KK P).In g.b0) (N : NN g) : Xu g 2 (.ref 288) Zkt := by
  refine Xu.mono (Z1 (r := 1) (ps := ["_law_script", "_law_k"]) (hK 288 _ rfl) rfl (Zq (hK 287 _ rfl) rfl rfl) rfl (by intro vs h; obtain ⟨a0, a1, rfl⟩ := Zrn h; rfl) rfl rfl rfl (by decide +kernel)
    (Zc (Yb (Zv (Zb 1 rfl rfl) (Zp 2 rfl (Zy N.n_len Wb) (Za (Zb 0 rfl rfl) Ze) rfl) rfl) (Zc (Zj (Zi (Zb 0 rfl rfl) (Zb 1 rfl rfl) (fun _ _ => rfl)))
  Zh) Zh)
  (Zc (Zj Zg)
  Zh))) ?_
  rintro xs σ Q E ⟨ns, k, rfl, h⟩
  refine Yu rfl fun K KE kret _ _ => ?_
  dsimp only [Loc.setAll]
  refine Yl fun K1 k1 r1 => ?_
  dsimp only [Zan, Zkl, Ye, Zjf, Zjt, Yj, Zt, Zk, Xm, Wy, Loc.set, String.reduceBEq, cond_true, cond_false]
  simp only [List.length_map]
  by_cases hk : (k : Int) < (ns.length : Int)
  · simp only [decide_eq_true hk]
    refine Yg fun K2 r2 => ?_
    dsimp only [Za8, Zk, Yq, Loc.set, String.reduceBEq, cond_true, cond_false]
    simp only [Zbb, Zun (r := ns) (show k < ns.length by exact Z2f hk)]
    exact r2 _ _ _ (r1 _ _ _ (kret _ _ _ _ Sub.refl (h _)))
  · simp only [decide_eq_false hk]
    refine k1 _ _ ?_
    refine Yg fun K2 r2 => ?_
    dsimp only [Za8, Zm]
    exact r2 _ _ _ (kret _ _ _ _ Sub.refl (h _))
theorem Ztu (hK : (KK P).In g.b0) (N : NN g) : Xu g 2 (.ref 295) Zot := by
  refine Xu.mono (Z1 (r := 1) (ps := ["_law_cell", "_law_k"]) (hK 295 _ rfl) rfl (Zq (hK 294 _ rfl) rfl rfl) rfl (by intro vs h; obtain ⟨a0, a1, rfl⟩ := Zrn h; rfl) rfl rfl rfl (by decide +kernel)
    (Zc (Zj (Zr (Zr (Zr (Zr (Zr (Zb 0 rfl rfl) Zg) (Zr (Zr Zg (Zb 1 rfl rfl)) (Zb 1 rfl rfl))) (Zr Zg (Zb 1 rfl rfl))) Zg) Zg))
  Zh)) ?_
  rintro xs σ Q E ⟨c, k, rfl, h0, h1, h⟩
  refine Yu rfl fun K KE kret _ _ => ?_
  dsimp only [Loc.setAll]
  refine Yg fun K1 r1 => ?_
  dsimp only [Za8, Zm, Zk, Zc6, Zb7, Loc.set, String.reduceBEq, cond_true, cond_false]
  have hb : Builtin.Int.intBits k ≤ 64 := intBits_le_64 (by exact Zy3 h0 h1) (by exact Zy2 h0 h1)
  refine ⟨.of_right (by decide), .of_right hb, .of_right hb, .of_right hb, by decide, by decide, r1 _ _ _ (kret _ _ _ _ Sub.refl (h _ ?_))⟩
  exact Int.fdiv_nonneg (Int.fmod_nonneg_of_pos _ (by decide)) (by decide)
theorem Zns (hK : (KK P).In g.b0) (N : NN g) : Xu g 2 (.ref 366) Zir := by
  refine Xu.mono (Z1 (r := 1) (ps := ["_law_cell"]) (hK 366 _ rfl) rfl (Zq (hK 365 _ rfl) rfl rfl) rfl (by intro vs h; obtain ⟨a0, rfl⟩ := Zph h; rfl) rfl rfl rfl (by decide +kernel)
    (Zc (Z6 1 rfl rfl (Zw (Za (Zx (Za Zg (Za Zg (Za Zg Ze)))) (Za (Zx (Za Zg (Za Zg (Za Zg Ze)))) (Za (Zx (Za Zg (Za Zg (Za Zg Ze)))) (Za (Zx (Za Zg (Za Zg (Za Zg Ze)))) (Za (Zx (Za Zg (Za Zg (Za Zg Ze)))) (Za (Zx (Za Zg (Za Zg (Za Zg Ze)))) (Za (Zx (Za Zg (Za Zg (Za Zg Ze)))) (Za (Zx (Za Zg (Za Zg (Za Zg Ze)))) Ze))))))))) (fun _ => rfl))
  (Zc (Zj (Zi (Zr (Zb 1 rfl rfl) (Zw (Za (Zx (Za (Zr Zg (Zr (Zr (Zb 0 rfl rfl) Zg) Zg)) (Za (Zr Zg (Zr (Zr (Zb 0 rfl rfl) Zg) Zg)) (Za (Zr Zg (Zr (Zr (Zb 0 rfl rfl) Zg) Zg)) Ze)))) (Za (Zx (Za Zg (Za Zg (Za Zg Ze)))) Ze)))) (Zr (Zb 0 rfl rfl) Zg) (fun _ _ => rfl)))
  Zh))) ?_
  rintro xs σ Q E ⟨c, rfl, h⟩
  refine Yu rfl fun K KE kret _ _ => ?_
  dsimp only [Loc.setAll]
  refine Yl fun K1 k1 r1 => ?_
  dsimp only [Z5, Zay, Wc, Yj, Zt, Zm, List.length_cons, List.length_nil]
  have fits3 : Xv (0 + 1 + 1 + 1) := by simp [Xv]
  refine ⟨fits3, fits3, fits3, fits3, fits3, fits3, fits3, fits3, Yh rfl, fun a ha => k1 _ _ ?_⟩
  refine Yg fun K1 r1 => ?_
  dsimp only [Za8, Zay, Wc, Yj, Zt, Zm, Zk, Zc6, Zb7, Yq, Loc.set, String.reduceBEq, cond_true, cond_false, List.length_cons, List.length_nil]
  refine ⟨by decide, by decide, by decide, by decide, by decide, by decide, fits3, fits3, Yh rfl, fun b hb => ⟨_, _, Zl Zd hb, Zd, Yh rfl, fun d hd => ⟨by decide, ?_⟩⟩⟩
  have h10 := Int.fmod_nonneg_of_pos c (show (0 : Int) < 10 by decide)
  have h11 := Int.fmod_lt_of_pos c (show (0 : Int) < 10 by decide)
  have hq : ∀ z : Int, 1 ≤ 1 + z.fmod 8 ∧ 1 + z.fmod 8 ≤ 8 := fun z => by
    have a := Int.fmod_nonneg_of_pos z (show (0 : Int) < 8 by decide)
    have b := Int.fmod_lt_of_pos z (show (0 : Int) < 8 by decide)
    exact Zy1 a b
  obtain ⟨v, hv, hm⟩ := Zi7 (xs := [V.tup [V.int 8, V.int 8, V.int 2], V.tup [V.int 7, V.int 8, V.int 2], V.tup [V.int 6, V.int 6, V.int 3], V.tup [V.int 8, V.int 8, V.int 3], V.tup [V.int 4, V.int 4, V.int 3], V.tup [V.int 3, V.int 3, V.int 40], V.tup [V.int 2, V.int 5, V.int 40], V.tup [V.int 5, V.int 5, V.int 2]] ++
    [V.tup [V.int (1 + (c.fdiv 10).fmod 8), V.int (1 + (c.fdiv 80).fmod 8), V.int (2 + (c.fdiv 640).fmod 7)], V.tup [V.int 8, V.int 8, V.int 40]]) h10 (by simpa using h11)
  refine Za1 Zd hv (r1 _ _ _ (kret _ _ _ _ (((Sub.refl.new ha).new hb).new hd) ?_))
  have q1 := hq (c.fdiv 10)
  have q2 := hq (c.fdiv 80)
  simp only [List.cons_append, List.nil_append, List.mem_cons, List.not_mem_nil, or_false] at hm
  rcases hm with rfl | rfl | rfl | rfl | rfl | rfl | rfl | rfl | rfl | rfl <;> exact h _ _ _ (by omega) (by omega) (by omega) (by omega)
end
section
open PySem PySem.W PyProof.Rows
variable {g : Gr} {P : Params}
theorem Zpv (hK : (KK P).In g.b0) (N : NN g) : Xu g 2 (.ref 302) Yt := by
  refine Xu.mono (Z1 (r := 1) (ps := ["_law_found"]) (hK 302 _ rfl) rfl (Zq (hK 301 _ rfl) rfl rfl) rfl (by intro vs h; obtain ⟨a0, rfl⟩ := Zph h; rfl) rfl rfl rfl (by decide +kernel)
    (Zc (Zj (Wt (Zdq (Yk (k := .int) (at_ (i := 1) rfl) (N.n_isinstance) (at_ (i := 2) rfl) (N.n_int) (Zb 0 rfl rfl) rfl) (Zb4 (Zlr (Yk (k := .bool) (at_ (i := 1) rfl) (N.n_isinstance) (at_ (i := 3) rfl) (N.n_bool) (Zb 0 rfl rfl) rfl))))))
  Zh)) ?_
  rintro xs σ Q E ⟨i, rfl, h⟩
  refine Yu rfl fun K KE kret _ _ => ?_
  dsimp only [Loc.setAll]
  refine Yg fun K1 r1 => ?_
  dsimp only [Za8, Zqv, Zn3, Zk, Xr, Zwd, Zs3, Loc.set, String.reduceBEq, cond_true]
  exact r1 _ _ _ (kret _ _ _ _ Sub.refl h)
theorem Zr2 (hK : (KK P).In g.b0) (N : NN g) : Xu g 2 (.ref 309) Zff := by
  refine Xu.mono (Z1 (r := 1) (ps := ["_law_rows"]) (hK 309 _ rfl) rfl (Zq (hK 308 _ rfl) rfl rfl) rfl (by intro vs h; obtain ⟨a0, rfl⟩ := Zph h; rfl) rfl rfl rfl (by decide +kernel)
    (Zc (Z6 1 rfl rfl Zgo (fun _ => rfl))
  (Zc (Yz (Zd7 (Zb 0 rfl rfl) rfl rfl) (.name (at_ (i := 2) rfl) rfl) (Zc (Yz (Z3 (Zw (Za (Zx (Za Zg (Za (Zi (Zb 2 rfl rfl) Zg (fun _ _ => rfl)) Ze))) (Za (Zx (Za Zg (Za (Zi (Zb 2 rfl rfl) Zg (fun _ _ => rfl)) Ze))) Ze)))) (.name (at_ (i := 3) rfl) rfl) (Zc (Yw (Zb 1 rfl rfl) (Zb 3 rfl rfl) (Zr (Z1z (Zb 1 rfl rfl) (Za (Zb 3 rfl rfl) (Za Zg Ze)) rfl rfl rfl rfl) Zg) (fun _ => rfl))
  Zh) (fun _ _ => rfl))
  Zh) (fun _ _ => rfl))
  (Zc (Zj (Zp 4 rfl (Zy N.n_max Zlq) (Za (Zr (Zw (Za Zg Ze)) (Zgn (at_ (i := 5) rfl) (N.n_list) (Zb 1 rfl rfl) (fun _ => rfl) rfl)) Ze) rfl))
  Zh)))) ?_
  rintro xs σ Q E ⟨rd, kvs, L, tl, ep, rfl, hrd, hvals, h64, h⟩
  refine Yu rfl fun K KE kret _ _ => ?_
  dsimp only [Loc.setAll]
  refine Zo fun K1 k1 => ?_
  dsimp only [Z5, Zko]
  refine fun ob ep0 hob => k1 _ _ ?_
  refine Zo fun K1 k1 => ?_
  dsimp only [Zgb, Zk, Loc.set, String.reduceBEq, cond_true, cond_false, Zii]
  simp only [Zl hrd hob]
  refine ⟨nofun, ?_⟩
  rw [hvals]
  refine Zaf (fun xs ℓ σ' => ∀ P0 : Prop, (∀ (pre post : List Rw) (ep' : Nat), (L = pre ++ post) → (xs = post.map (Zqx tl)) → (Sub σ σ') → (σ' ob = some (.dictT ((Zb9 [] (Zaj pre)).map Zak) ep')) → (ℓ "_law_often" = some (.ref ob)) → P0) → P0) ?_ ?_
    (fun _ kI => kI ([]) (L) (ep0) (rfl) (rfl) (Sub.refl.new hob) (Zd) (rfl))
  · intro ℓ σ' hI0
    refine hI0 _ fun pre post ep' hS h1 h2 h3 e1 => ?_
    obtain rfl := Xb h1
    rw [List.append_nil] at hS
    subst hS
    refine ⟨h2 _ _ hrd, k1 _ _ ?_⟩
    change σ' ob = some (.dictT ((Zc4 L).map Zak) ep') at h3
    have hol : (Zc4 L).length ≤ 126 := by have := Ziy L; exact Zy0 h64 this
    have hv : ((Zc4 L).map Zak).map (·.2) = ((Zc4 L).map (·.2)).map V.int := by rw [List.map_map, List.map_map]; rfl
    refine Yg fun K2 r2 => ?_
    dsimp only [Za8, Ye, Zv5, Zay, Yj, Zt, Zm, Zk, Zc6, Zb7, List.length_cons, List.length_nil, Zgi]
    refine ⟨Yh rfl, fun zb hzb => ?_⟩
    simp only [e1, Zif, Zl h3 hzb, hv]
    refine fun vb hvb => ⟨_, _, Zl Zd hvb, Zd, by simp [Xv]; exact Zyz hol, fun mb hmb => ?_⟩
    have e0 : [V.int 0] ++ ((Zc4 L).map (·.2)).map V.int = ((0 : Int) :: (Zc4 L).map (·.2)).map V.int := rfl
    simp only [Za9, Zd, e0, Zcg]
    refine ⟨by simp, fun mm hm1 hm2 => ?_⟩
    have h0 : 0 ≤ mm := hm2 0 (.head _)
    have e2 : V.int mm = V.int ((mm.toNat : Nat) : Int) := by congr 1; exact Zv7 h0
    rw [e2]
    refine r2 _ _ _ (kret _ _ _ _ (((h2.new hzb).new hvb).new hmb) (h _ fun a b hr => ?_))
    obtain ⟨k, rfl, hk⟩ := Zo9 hr hm1 hm2
    exact hk
  · intro v xs ℓ σ' K2 k2 r2 hI0
    refine hI0 _ fun pre post ep' hS h1 h2 h3 e1 => ?_
    obtain ⟨x, post, rfl, rfl, rfl⟩ := Yp h1
    refine ⟨h2 _ _ hrd, ?_⟩
    dsimp only [Xd]
    have hlen : (Zaj pre).length ≤ 126 := by
      rw [Zey]
      have := congrArg List.length hS
      simp at this; exact Zyy h64 this
    have hfit : ∀ ks : List (List Int), ks.length ≤ 130 → Xv (((Zb9 [] ks).map Zak).length + 1) := fun ks hk => by
      have := Zf1 (ks := ks)
      unfold Xv; rw [List.length_map]; exact Zyx hk this
    refine Zo fun K3 k3 => ?_
    dsimp only [Zgb, Zap, Zah, Zay, Wc, Yj, Zt, Zm, Zk, Yq, Loc.set, String.reduceBEq, cond_true, List.length_cons, List.length_nil]
    have f2 : Xv (0 + 1 + 1) := by simp [Xv]
    refine Xp (xs := V.int x.l :: V.int x.r :: tl x) (Z8 (by decide) rfl) ⟨f2, Xp (xs := V.int x.l :: V.int x.r :: tl x) (Z8 (by decide) rfl) ⟨f2, f2, fun lb hlb => ?_⟩⟩
    simp only [Zd]
    refine ⟨nofun, ?_⟩
    have lbob : lb ≠ ob := fun z => by rw [z, h3] at hlb; cases hlb
    refine Zjq fun K4 k4 r4 => ⟨Zd, ?_⟩
    dsimp only [Xd]
    refine Zo fun K5 k5 => ?_
    dsimp only [Xf, Zga, Yj, Zt, Zm, Zk, Zc6, Zb7, Loc.set, String.reduceBEq, cond_true, cond_false, Wi]
    simp only [e1, Zl h3 hlb]
    refine ⟨trivial, Zlp (ks := Zab false x.l) (Zl h3 hlb) ?_⟩
    rw [Zj3]
    simp only
    refine Zio (ks := Zab false x.l) (Zl h3 hlb) (hfit _ (by exact Nat.le_trans hlen (by decide))) fun ep1 => k5 _ _ ?_
    dsimp only [Zan]
    refine k4 _ _ ?_
    rw [Zeu]
    have hb1 : (AH.set (σ'.set lb (.list [V.tup [V.int 0, V.int x.l], V.tup [V.int 1, V.int x.r]])) ob (.dictT ((Znw (Zb9 [] (Zaj pre)) (Zab false x.l)).map Zak) ep1)) ob = some (.dictT ((Znw (Zb9 [] (Zaj pre)) (Zab false x.l)).map Zak) ep1) := Zd
    have hl1 : (AH.set (σ'.set lb (.list [V.tup [V.int 0, V.int x.l], V.tup [V.int 1, V.int x.r]])) ob (.dictT ((Znw (Zb9 [] (Zaj pre)) (Zab false x.l)).map Zak) ep1)) lb = some (.list [V.tup [V.int 0, V.int x.l], V.tup [V.int 1, V.int x.r]]) := by rw [Zf lbob, Zd]
    have s1 : Sub σ (AH.set (σ'.set lb (.list [V.tup [V.int 0, V.int x.l], V.tup [V.int 1, V.int x.r]])) ob (.dictT ((Znw (Zb9 [] (Zaj pre)) (Zab false x.l)).map Zak) ep1)) := (h2.new hlb).upd hob
    change Zbh _ _ _ _ _ (AH.set (σ'.set lb (.list [V.tup [V.int 0, V.int x.l], V.tup [V.int 1, V.int x.r]])) ob (.dictT ((Znw (Zb9 [] (Zaj pre)) (Zab false x.l)).map Zak) ep1)) _ _
    generalize AH.set (σ'.set lb (.list [V.tup [V.int 0, V.int x.l], V.tup [V.int 1, V.int x.r]])) ob (.dictT ((Znw (Zb9 [] (Zaj pre)) (Zab false x.l)).map Zak) ep1) = σ1 at hb1 hl1 s1 ⊢
    rw [← Zh9] at hb1
    refine Zjq fun K4 k4 r4 => ⟨hl1, ?_⟩
    dsimp only [Xd]
    refine Zo fun K5 k5 => ?_
    dsimp only [Xf, Zga, Yj, Zt, Zm, Zk, Zc6, Zb7, Loc.set, String.reduceBEq, cond_true, cond_false, Wi]
    simp only [e1, hb1]
    refine ⟨trivial, Zlp (ks := Zab true x.r) hb1 ?_⟩
    rw [Zj3]
    simp only
    refine Zio (ks := Zab true x.r) hb1 (hfit _ (by simp; exact Nat.le_trans hlen (by decide))) fun ep2 => k5 _ _ ?_
    dsimp only [Zan]
    refine k4 _ _ ?_
    rw [Zeu]
    refine ⟨(Zf lbob).trans hl1, k3 _ _ ?_⟩
    dsimp only [Zan]
    refine k2 _ _ (fun _ kI => kI (pre ++ [x]) (post) (ep2) (by simpa using hS) (rfl) (s1.upd hob) (?_) (e1))
    rw [Zd]
    have : Zaj (pre ++ [x]) = Zaj pre ++ [Zab false x.l] ++ [Zab true x.r] := by unfold Zaj; rw [List.flatMap_append]; simp
    rw [this, Zh9 (k := Zab true x.r)]; rfl
theorem Zpw (hK : (KK P).In g.b0) (N : NN g) : Xu g 2 (.ref 316) Zjl := by
  refine Xu.mono (Z1 (r := 1) (ps := ["_law_rows"]) (hK 316 _ rfl) rfl (Zq (hK 315 _ rfl) rfl rfl) rfl (by intro vs h; obtain ⟨a0, rfl⟩ := Zph h; rfl) rfl rfl rfl (by decide +kernel)
    (Zc (Z6 1 rfl rfl Zgo (fun _ => rfl))
  (Zc (Yz (Zeo (Zb 0 rfl rfl)) (.name (at_ (i := 2) rfl) rfl) (Zc (Yw (Zb 1 rfl rfl) (Zx (Za Zg (Za (Zi (Zi (Zb 0 rfl rfl) (Zb 2 rfl rfl) (fun _ _ => rfl)) Zg (fun _ _ => rfl)) (Za (Zi (Zi (Zb 0 rfl rfl) (Zb 2 rfl rfl) (fun _ _ => rfl)) Zg (fun _ _ => rfl)) Ze)))) (Zb 2 rfl rfl) (fun _ => rfl))
  (Zc (Yw (Zb 1 rfl rfl) (Zx (Za Zg (Za (Zi (Zi (Zb 0 rfl rfl) (Zb 2 rfl rfl) (fun _ _ => rfl)) Zg (fun _ _ => rfl)) (Za (Zi (Zi (Zb 0 rfl rfl) (Zb 2 rfl rfl) (fun _ _ => rfl)) Zg (fun _ _ => rfl)) Ze)))) (Zb 2 rfl rfl) (fun _ => rfl))
  Zh)) (fun _ _ => rfl))
  (Zc (Zj (Zb 1 rfl rfl))
  Zh)))) ?_
  rintro xs σ Q E ⟨rd, L, ep, rfl, hrd, hnd, h64, h⟩
  refine Yu rfl fun K KE kret _ _ => ?_
  dsimp only [Loc.setAll]
  refine Zo fun K1 k1 => ?_
  dsimp only [Z5, Zko]
  refine fun ob ep0 hob => k1 _ _ ?_
  refine Zo fun K1 k1 => ?_
  dsimp only [Zgb, Zk, Loc.set, String.reduceBEq, cond_true, cond_false, Zmy]
  simp only [Zmy, Zk, Loc.set, String.reduceEq, reduceIte, Zl hrd hob]
  refine ⟨nofun, ?_⟩
  have hks : ((Yd L).map fun p => V.int p.1) = L.map fun x => V.int x.n := by unfold Yd; rw [List.map_map]; rfl
  rw [hks]
  refine Zaf (fun xs ℓ σ' => ∀ P0 : Prop, (∀ (pre post : List Rw) (ep' : Nat), (L = pre ++ post) → (xs = post.map (fun x => V.int x.n)) → (Sub σ σ') → (σ' ob = some (.dictT ((Zf9 pre).map Zak) ep')) → (ℓ "_law_found" = some (.ref ob)) → (ℓ "_law_rows" = some (.ref rd)) → P0) → P0) ?_ ?_
    (fun _ kI => kI ([]) (L) (ep0) (rfl) (rfl) (Sub.refl.new hob) (Zd) (rfl) (rfl))
  · intro ℓ σ' hI0
    refine hI0 _ fun pre post ep' hS h1 h2 h3 e1 e2 => ?_
    obtain rfl := Xb h1
    rw [List.append_nil] at hS
    subst hS
    refine ⟨h2 _ _ hrd, k1 _ _ ?_⟩
    refine Yg fun K2 r2 => ?_
    dsimp only [Za8, Zk]
    simp only [e1]
    exact r2 _ _ _ (kret _ _ _ _ (Zgk h2 h3) (h ob ep' hob))
  · intro v xs ℓ σ' K2 k2 r2 hI0
    refine hI0 _ fun pre post ep' hS h1 h2 h3 e1 e2 => ?_
    obtain ⟨x, post, rfl, rfl, rfl⟩ := Yp h1
    refine ⟨h2 _ _ hrd, ?_⟩
    dsimp only [Xd]
    have hx : x ∈ L := by rw [hS]; simp
    have hlk := Xn hnd hx
    have hpl : pre.length < 64 := by have := congrArg List.length hS; simp at this; exact Zyw h64 this
    have hfit : Xv (((Zf9 pre).map Zak).length + 2) := by
      have := Zk4 pre
      unfold Xv; rw [List.length_map]; exact Zyv hpl this
    have f3 : Xv (0 + 1 + 1 + 1) := by simp [Xv]
    refine Zo fun K3 k3 => ?_
    dsimp only [Wc, Yj, Zt, Zm, Zk, Yq, Loc.set, String.reduceBEq, cond_true, cond_false, List.length_cons, List.length_nil, Wi]
    simp only [e1, e2]
    refine Zg2 (h2 _ _ hrd) hlk (Xp (xs := [V.int x.l, V.int x.r, V.int (hu x)]) (Z8 (by decide) rfl) (Zg2 (h2 _ _ hrd) hlk (Xp (xs := [V.int x.l, V.int x.r, V.int (hu x)]) (Z8 (by decide) rfl) ⟨f3, ?_⟩)))
    refine Zio (ks := Zc9 false x.l (hu x)) h3 (hfit.le (by exact Zyu)) fun ep1 => k3 _ _ ?_
    rw [Zeu]
    have s1 : Sub σ (σ'.set ob (.dictT ((Zhg (Zf9 pre) (Zc9 false x.l (hu x)) x.n).map Zak) ep1)) := h2.upd hob
    have hb1 : (σ'.set ob (.dictT ((Zhg (Zf9 pre) (Zc9 false x.l (hu x)) x.n).map Zak) ep1)) ob = some (.dictT ((Zhg (Zf9 pre) (Zc9 false x.l (hu x)) x.n).map Zak) ep1) := Zd
    generalize σ'.set ob (.dictT ((Zhg (Zf9 pre) (Zc9 false x.l (hu x)) x.n).map Zak) ep1) = σ1 at s1 hb1 ⊢
    refine Zo fun K3 k3 => ?_
    dsimp only [Wc, Yj, Zt, Zm, Zk, Yq, Loc.set, String.reduceBEq, cond_true, cond_false, List.length_cons, List.length_nil, Wi]
    simp only [e1, e2]
    refine Zg2 (s1 _ _ hrd) hlk (Xp (xs := [V.int x.l, V.int x.r, V.int (hu x)]) (Z8 (by decide) rfl) (Zg2 (s1 _ _ hrd) hlk (Xp (xs := [V.int x.l, V.int x.r, V.int (hu x)]) (Z8 (by decide) rfl) ⟨f3, ?_⟩)))
    refine Zio (ks := Zc9 true x.r (hu x)) hb1 (hfit.le (by have := Zct (ps := Zf9 pre) (k := Zc9 false x.l (hu x)) (v := x.n); simp only [List.length_map]; exact Zyt this)) fun ep2 => k3 _ _ ?_
    rw [Zeu]
    dsimp only [Zan]
    refine k2 _ _ (fun _ kI => kI (pre ++ [x]) (post) (ep2) (by simpa using hS) (rfl) (s1.upd hob) (?_) (e1) (e2))
    rw [Zd, Zpn]; rfl
theorem Zpy (hK : (KK P).In g.b0) (N : NN g) (F_law_index : FnG g "_law_index" 2 Zjl) : Xu g 3 (.ref 321) Zgr := by
  refine Xu.mono (Z1 (r := 2) (ps := ["_law_rows", "_law_side", "_law_end", "_law_many"]) (hK 321 _ rfl) rfl (Zq (hK 320 _ rfl) rfl rfl) rfl (by intro vs h; obtain ⟨a0, a1, a2, a3, rfl⟩ := Zqw h; rfl) rfl rfl rfl (by decide +kernel)
    (Zc (Z6 4 rfl rfl (Zp 5 rfl F_law_index (Za (Zb 0 rfl rfl) Ze) rfl) (fun _ => rfl))
  (Zc (Zj (Y0 (by decide +kernel) (Yv (at_ (i := 6) rfl) (N.n_range) (Zb 3 rfl rfl) rfl) (.name (at_ (i := 1) rfl) rfl) (by decide +kernel) (W8 (Zv (Zx (Za (Zb 4 rfl rfl) (Za (Zb 2 rfl rfl) (Za (Zb 1 rfl rfl) Ze)))) (Zb 3 rfl rfl) rfl)) (Zb 1 rfl rfl) (fun _ _ => rfl)))
  Zh))) ?_
  rintro xs σ Q E ⟨rd, L, ep, s, e, m, rfl, hrd, ok, hm, h⟩
  refine Yu rfl fun K KE kret _ _ => ?_
  dsimp only [Loc.setAll]
  refine Yl fun K1 k1 r1 => ?_
  dsimp only [Z5, Ye, Yj, Zt, Zk, Loc.set, String.reduceBEq, cond_true, cond_false]
  refine ⟨rd, L, ep, rfl, hrd, ok.nd, ok.few, fun ob epo hob => k1 _ _ ?_⟩
  refine Yg fun K1 r1 => ?_
  dsimp only [Za8, Zae, Y6, Zav, Zk, Loc.set, String.reduceBEq, cond_true, cond_false]
  refine ⟨by exact Zys hm, by unfold Xv; exact Zyr hm, nofun, ?_⟩
  rw [Zat, show ((m : Int).toNat) = m by exact Zyq hm]
  refine Xc V.int (fun h => !(((Zf9 L).map Zak).any fun kv => kv.1 == Zc9 s e h)) V.int (Zcl m) (fun _ _ => trivial) (fun hue _ σ2 s2 => ⟨_, fun P h => h, fun Qb hQ => ?_, fun _ σ3 s3 Qv hQ => ?_⟩) fun σ2 s2 lb hlb => ?_
  · dsimp only [Wc, Yj, Zt, Zk, Xm, Wy, Loc.set, Loc.bare, String.reduceBEq, cond_true, cond_false, List.length_cons, List.length_nil]
    refine ⟨Yh rfl, Zpm (ks := Zc9 s e hue) (s2 _ _ Zd) (hQ _ Sub.refl)⟩
  · dsimp only [Zk, Loc.set, Loc.bare, String.reduceBEq, cond_true, cond_false]
    exact hQ _ Sub.refl
  · rw [Zjm ok]
    exact r1 _ _ _ (kret _ _ _ _ (Zd6 ((Sub.refl.new hob).trans s2)) (h lb (((Sub.refl.new hob).trans s2).none hlb)))
inductive Z2u (L : List Rw) (s : Bool) (e one other : Int) (σ : AH) (rd ob b : Addr) (epo : Nat) (n : Nat) (ℓ : Loc) (σ' : AH) : Prop
  | mk (l : List Rw) (h0 : Zbc L s e one other l) (h1 : n = L.length - l.length) (h2 : σ' = (σ.set ob (.dictT ((Zf9 L).map Zak) epo)).set b (.list (l.map fun x => V.int x.n))) (h3 : ℓ "_law_rows" = some (.ref rd)) (h4 : ℓ "_law_found" = some (.ref b)) (h5 : ℓ "_law_index_here" = some (.ref ob)) (h6 : ℓ "_law_one" = some (.int one)) (h7 : ℓ "_law_other" = some (.int other)) (h8 : ℓ "_law_side" = some (.int (sI (Xx s l.length)))) (h9 : ℓ "_law_end" = some (.int (Zkk s e l))) (h10 : ℓ "_law_wanted" = some (.int (Xj one other l.length))) : Z2u L s e one other σ rd ob b epo n ℓ σ'
theorem Zr3 (hK : (KK P).In g.b0) (N : NN g) (F_law_index : FnG g "_law_index" 2 Zjl) : Xu g 3 (.ref 328) Zit := by
  refine Xu.mono (Z1 (r := 2) (ps := ["_law_rows", "_law_side", "_law_end", "_law_one", "_law_other"]) (hK 328 _ rfl) rfl (Zq (hK 327 _ rfl) rfl rfl) rfl (by intro vs h; obtain ⟨a0, a1, a2, a3, a4, rfl⟩ := Zuc h; rfl) rfl rfl rfl (by decide +kernel)
    (Zc (Z6 5 rfl rfl (Zp 8 rfl F_law_index (Za (Zb 0 rfl rfl) Ze) rfl) (fun _ => rfl))
  (Zc (Z6 6 rfl rfl (Zw Ze) (fun _ => rfl))
  (Zc (Z6 7 rfl rfl (Zb 4 rfl rfl) (fun _ => rfl))
  (Zc (Zhp (Zv (Zx (Za (Zb 1 rfl rfl) (Za (Zb 2 rfl rfl) (Za (Zb 7 rfl rfl) Ze)))) (Zb 5 rfl rfl) rfl) (Zc (Yn (Za0 (Zb 6 rfl rfl) (Za (Zi (Zb 5 rfl rfl) (Zx (Za (Zb 1 rfl rfl) (Za (Zb 2 rfl rfl) (Za (Zb 7 rfl rfl) Ze)))) (fun _ _ => rfl)) Ze) rfl rfl rfl rfl) (fun _ => rfl))
  (Zc (Z6 1 rfl rfl (Zr Zg (Zb 1 rfl rfl)) (fun _ => rfl))
  (Zc (Z6 2 rfl rfl (Zi (Zi (Zb 0 rfl rfl) (Zi (Zb 6 rfl rfl) (Zik Zg) (fun _ _ => rfl)) (fun _ _ => rfl)) (Zb 1 rfl rfl) (fun _ _ => rfl)) (fun _ => rfl))
  (Zc (Z6 7 rfl rfl (Zr (Zr (Zb 3 rfl rfl) (Zb 4 rfl rfl)) (Zb 7 rfl rfl)) (fun _ => rfl))
  Zh)))))
  (Zc (Zj (Zb 6 rfl rfl))
  Zh)))))) ?_
  rintro xs σ Q E ⟨rd, L, ep, s, e, one, other, rfl, hrd, ok, hf, hne, h⟩
  refine Yu rfl fun K KE kret _ _ => ?_
  dsimp only [Loc.setAll]
  refine Zo fun K1 k1 => ?_
  dsimp only [Z5, Ye, Yj, Zt, Zk, Loc.set, String.reduceBEq, cond_true, cond_false]
  refine ⟨rd, L, ep, rfl, hrd, ok.nd, ok.few, fun ob epo hob => k1 _ _ ?_⟩
  refine Zo fun K1 k1 => ?_
  dsimp only [Z5, Zay, Yj, List.length_nil]
  refine ⟨Yh rfl, fun b hb => k1 _ _ ?_⟩
  have obb : ob ≠ b := fun z => by rw [z, Zd] at hb; cases hb
  have hb0 : σ b = none := (Sub.refl.new hob).none hb
  have sb : ∀ l, Sub σ ((σ.set ob (.dictT ((Zf9 L).map Zak) epo)).set b (.list l)) := fun l => (Sub.refl.new hob).new hb
  have hobb : ∀ l, ((σ.set ob (.dictT ((Zf9 L).map Zak) epo)).set b (.list l)) ob = some (.dictT ((Zf9 L).map Zak) epo) := fun l => by rw [Zf obb, Zd]
  refine Zo fun K1 k1 => ?_
  dsimp only [Z5, Zk, Loc.set, String.reduceBEq, cond_true, cond_false]
  refine k1 _ _ ?_
  refine Zo fun K1 k1 => ?_
  refine ⟨Z2u L s e one other σ rd ob b epo, ⟨_, [], .nil, rfl, rfl, rfl, rfl, rfl, rfl, rfl, rfl, rfl, rfl⟩, ?_⟩
  rintro n ℓ σ' ⟨l, hP, rfl, rfl, e1, e2, e3, e4, e5, e6, e7, e8⟩
  dsimp only [Wc, Yj, Zt, Zk, Xm, Wy, List.length_cons, List.length_nil]
  simp only [e3, e6, e7, e8]
  refine ⟨Yh rfl, Zpm (ks := Zc9 (Xx s l.length) (Zkk s e l) (Xj one other l.length)) (hobb _) ?_⟩
  rw [Zj0 ok]
  by_cases hfr : ∀ x ∈ L, x.e (Xx s l.length) = Zkk s e l → hu x ≠ Xj one other l.length
  · rw [decide_eq_true hfr]
    simp only [Bool.not_true]
    refine k1 _ _ ?_
    refine Yg fun K2 r2 => ?_
    dsimp only [Za8, Zk]
    simp only [e2]
    exact r2 _ _ _ (kret _ _ _ _ (Zd6 (Sub.refl.new hob)) (h b l hP ((Zl9 ok).2 hfr) hb0))
  · rw [decide_eq_false hfr]
    simp only [Bool.not_false]
    obtain ⟨x, hx, he, hh⟩ : ∃ x ∈ L, x.e (Xx s l.length) = Zkk s e l ∧ hu x = Xj one other l.length := Classical.byContradiction fun q => hfr fun x hx he hh => q ⟨x, hx, he, hh⟩
    have hP' : Zbc L s e one other (l ++ [x]) := hP.snoc hx (by rw [Zdk (ok.hd x hx), hh]) he
    have hl := ok.len hP' hne hf
    rw [List.length_append, List.length_singleton] at hl
    have hidx : ((Zf9 L).map Zak).lookup (Zc9 (Xx s l.length) (Zkk s e l) (Xj one other l.length)) = some (.int x.n) := by
      rw [Zfw, ← he, ← hh, Zjz ok hx]; rfl
    refine Zo fun K2 k2 => ?_
    dsimp only [tDo, Xf, Zga, Wr, Wc, Yj, Zt, Zk, Yq, List.length_cons, List.length_nil]
    simp only [e2, e3, e6, e7, e8, Zd]
    have hfew := ok.few
    refine ⟨trivial, Yh rfl, Z10 (ks := Zc9 (Xx s l.length) (Zkk s e l) (Xj one other l.length)) (hobb _) hidx ?_⟩
    refine ⟨by simp [Xv]; exact Zyp hl hfew, k2 _ _ ?_⟩
    rw [Zck]
    have hmap : ((l.map fun x => V.int x.n) ++ [V.int x.n]) = (l ++ [x]).map fun x => V.int x.n := by simp
    rw [hmap]
    refine Zo fun K2 k2 => ?_
    dsimp only [Z5, Zm, Zk, Zc6, Zb7]
    simp only [e6]
    rw [Zls]
    refine k2 _ _ ?_
    refine Zo fun K2 k2 => ?_
    dsimp only [Z5, Zm, Zk, Zv4, Yq, Loc.set, String.reduceBEq, cond_true, cond_false]
    simp only [e1, e2]
    refine Za1 Zd (by rw [List.map_append]; exact Zi8) (Zg2 (sb _ _ _ hrd) (Xn ok.nd hx) (Xp (Zo4 _) (k2 _ _ ?_)))
    refine Zo fun K2 k2 => ?_
    dsimp only [Z5, Zk, Zc6, Zb7, Loc.set, String.reduceBEq, cond_false]
    simp only [e4, e5, e8]
    refine k2 _ _ ?_
    dsimp only [Zan]
    refine ⟨L.length - (l ++ [x]).length, by rw [List.length_append, List.length_singleton]; exact Zu1 hl, l ++ [x], hP', rfl, rfl, e1, e2, e3, e4, e5, ?_, ?_, ?_⟩
    · simp only [List.length_append, List.length_singleton, Zbs]; rfl
    · simp only [Zje, Zbs]; rfl
    · simp only [List.length_append, List.length_singleton, Zcm]; rfl
end
section
open PySem PySem.W PyProof.Rows
variable {g : Gr} {P : Params}
theorem Zrx (hK : (KK P).In g.b0) (N : NN g) (F_law_free : FnG g "_law_free" 3 Zgr) (F_law_chain : FnG g "_law_chain" 3 Zit) : Xu g 4 (.ref 335) Zks := by
  refine Xu.mono (Z1 (r := 3) (ps := ["_law_rows", "_law_ends_here", "_law_many"]) (hK 335 _ rfl) rfl (Zq (hK 334 _ rfl) rfl rfl) rfl (by intro vs h; obtain ⟨a0, a1, a2, rfl⟩ := Zpg h; rfl) rfl rfl rfl (by decide +kernel)
    (Zc (Z6 3 rfl rfl (Zw Ze) (fun _ => rfl))
  (Zc (Yz (Yv (at_ (i := 7) rfl) (N.n_range) Zg rfl) (.name (at_ (i := 4) rfl) rfl) (Zc (Yz (Z3 (Zp 8 rfl F_law_free (Za (Zb 0 rfl rfl) (Za (Zb 4 rfl rfl) (Za (Zi (Zb 1 rfl rfl) (Zb 4 rfl rfl) (fun _ _ => rfl)) (Za (Zb 2 rfl rfl) Ze)))) rfl)) (.name (at_ (i := 5) rfl) rfl) (Zc (Yz (Z3 (Zp 8 rfl F_law_free (Za (Zb 0 rfl rfl) (Za (Zr Zg (Zb 4 rfl rfl)) (Za (Zi (Zb 1 rfl rfl) (Zr Zg (Zb 4 rfl rfl)) (fun _ _ => rfl)) (Za (Zb 2 rfl rfl) Ze)))) rfl)) (.name (at_ (i := 6) rfl) rfl) (Zc (Yn (Za0 (Zb 3 rfl rfl) (Za (Zp 9 rfl (Zy N.n_len Wb) (Za (Zp 10 rfl F_law_chain (Za (Zb 0 rfl rfl) (Za (Zr Zg (Zb 4 rfl rfl)) (Za (Zi (Zb 1 rfl rfl) (Zr Zg (Zb 4 rfl rfl)) (fun _ _ => rfl)) (Za (Zb 6 rfl rfl) (Za (Zb 5 rfl rfl) Ze))))) rfl) Ze) rfl) Ze) rfl rfl rfl rfl) (fun _ => rfl))
  Zh) (fun _ _ => rfl))
  Zh) (fun _ _ => rfl))
  Zh) (fun _ _ => rfl))
  (Zc (Zj (Zb 3 rfl rfl))
  Zh)))) ?_
  rintro xs σ Q E ⟨rd, L, ep, l, r, m, rfl, hrd, ok, hm, hnb, h⟩
  refine Yu rfl fun K KE kret _ _ => ?_
  dsimp only [Loc.setAll]
  refine Zo fun K1 k1 => ?_
  dsimp only [Z5, Zay, Yj, List.length_nil]
  refine ⟨Yh rfl, fun fb hfb => k1 _ _ ?_⟩
  refine Zo fun K1 k1 => ?_
  dsimp only [Zgb, Zae, Zm]
  refine ⟨by decide, Yh rfl, nofun, ?_⟩
  refine Ww (fun i ℓ σ' => ∀ P0 : Prop, (∀ ns : List Int, ((∀ n ∈ ns, ∃ s hue o ch, Zkd L l r m s hue o ch ∧ n = (ch.length : Int))) → ((∀ s, sI (!s) < (i : Int) → ∀ hue o ch, Zkd L l r m s hue o ch → (ch.length : Int) ∈ ns)) → (ns.length ≤ i * 10000) → (Sub σ σ') → (σ' fb = some (.list (ns.map V.int))) → (ℓ "_law_found" = some (.ref fb)) → (ℓ "_law_rows" = some (.ref rd)) → (ℓ "_law_ends_here" = some (.tup [.int l, .int r])) → (ℓ "_law_many" = some (.int m)) → P0) → P0) ?_ ?_
    (fun _ kI => kI ([]) (fun _ h => absurd h (by simp)) (fun s hs => by cases s <;> simp [sI] at hs) (by simp) (Sub.refl.new hfb) (Zd) (rfl) (rfl) (rfl) (rfl))
  · intro ℓ σ' hI0
    refine hI0 _ fun ns a1 a2 a3 s' a4 e1 e2 e3 e4 => ?_
    refine ⟨trivial, k1 _ _ ?_⟩
    refine Yg fun K2 r2 => ?_
    dsimp only [Za8, Zk]
    simp only [e1]
    refine r2 _ _ _ (kret _ _ _ _ (Zgk s' a4) (h fb ns a1 (fun s => a2 s ?_) hfb))
    cases s <;> simp [sI]
  · intro i ℓ σ' K2 hi k2 r2 hI0
    refine hI0 _ fun ns a1 a2 a3 s' a4 e1 e2 e3 e4 => ?_
    have hi2 : i < 2 := hi
    refine ⟨trivial, ?_⟩
    dsimp only [Xd]
    obtain ⟨s, hs⟩ := Zon hi2
    refine Zo fun K3 k3 => ?_
    dsimp only [Zgb, Zap, Zah, Ye, Yj, Zt, Zk, Yq, Loc.set, String.reduceBEq, cond_true, cond_false]
    simp only [e2, e3, e4, hs]
    refine Xp (Zal l r (!s)) ⟨rd, L, ep, !s, Zar l r (!s), m, rfl, s' _ _ hrd, ok, hm, fun hb hhb => ?_⟩
    simp only [Zd]
    have hbfb : hb ≠ fb := fun z => by rw [z, a4] at hhb; cases hhb
    have hl1 : (Z0 L (!s) (Zar l r (!s)) m).length ≤ 100 := Nat.le_trans Zb6 hm
    refine ⟨nofun, Zaf (fun xs ℓ' σ2 => ∀ P0 : Prop, (∀ (done rest : List Int) (ns : List Int), (Z0 L (!s) (Zar l r (!s)) m = done ++ rest) → (xs = rest.map V.int) → ((∀ n ∈ ns, ∃ s hue o ch, Zkd L l r m s hue o ch ∧ n = (ch.length : Int))) → ((∀ s', sI (!s') < (i : Int) → ∀ hue o ch, Zkd L l r m s' hue o ch → (ch.length : Int) ∈ ns)) → ((∀ hue ∈ done, ∀ o ch, Zkd L l r m s hue o ch → (ch.length : Int) ∈ ns)) → (ns.length ≤ i * 10000 + done.length * 100) → (Sub σ σ2) → (σ2 fb = some (.list (ns.map V.int))) → (σ2 hb = some (.list ((Z0 L (!s) (Zar l r (!s)) m).map V.int))) → (ℓ' "_law_found" = some (.ref fb)) → (ℓ' "_law_rows" = some (.ref rd)) → (ℓ' "_law_ends_here" = some (.tup [.int l, .int r])) → (ℓ' "_law_many" = some (.int m)) → (ℓ' "_law_side" = some (.int (sI (!s)))) → P0) → P0) ?_ ?_
      (fun _ kI => kI ([]) (_) (ns) (rfl) (rfl) (a1) (a2) (fun _ h => absurd h (by simp)) (by simpa using a3) (s'.new hhb) (Zl a4 hhb) (Zd) (e1) (e2) (e3) (e4) (rfl))⟩
    · intro ℓ' σ2 hI0
      refine hI0 _ fun done rest ns b1 b2 b3 b4 b5 b6 s2 b7 b8 f1 f2 f3 f4 f5 => ?_
      obtain rfl := Xb b2
      rw [List.append_nil] at b1
      refine ⟨b8, k3 _ _ ?_⟩
      dsimp only [Zan]
      refine k2 _ _ (fun _ kI => kI (ns) (b3) (fun t ht hue o ch w => ?_) (?_) (s2) (b7) (f1) (f2) (f3) (f4))
      · by_cases z : t = s
        · subst z; exact b5 hue (by rw [← b1]; exact w.1) o ch w
        · refine b4 t ?_ hue o ch w
          have : sI (!t) ≠ sI (!s) := fun q => z (by cases t <;> cases s <;> simp [sI] at q ⊢)
          exact Zyo hs ht this
      · have : done.length ≤ 100 := by rw [← b1]; exact hl1
        exact Zyn hs b6 this
    · intro v xs ℓ' σ2 K4 k4 r4 hI0
      refine hI0 _ fun done rest ns b1 b2 b3 b4 b5 b6 s2 b7 b8 f1 f2 f3 f4 f5 => ?_
      obtain ⟨hue, rest, rfl, rfl, rfl⟩ := Yp b2
      refine ⟨b8, ?_⟩
      dsimp only [Xd]
      have hhue : hue ∈ Z0 L (!s) (Zar l r (!s)) m := by rw [b1]; simp
      have hdl : done.length < 100 := by have := congrArg List.length b1; simp at this; exact Zux hl1 this
      refine Zo fun K5 k5 => ?_
      dsimp only [Zgb, Zap, Zah, Ye, Yj, Zt, Zm, Zk, Zc6, Zb7, Yq, Loc.set, String.reduceBEq, cond_false]
      simp only [f2, f3, f4, f5, Zls, Bool.not_not]
      refine Xp (Zal l r s) ⟨rd, L, ep, s, Zar l r s, m, rfl, s2 _ _ hrd, ok, hm, fun ob hob => ?_⟩
      simp only [Zd]
      have obfb : ob ≠ fb := fun z => by rw [z, b7] at hob; cases hob
      have obhb : ob ≠ hb := fun z => by rw [z, b8] at hob; cases hob
      have hl2 : (Z0 L s (Zar l r s) m).length ≤ 100 := Nat.le_trans Zb6 hm
      refine ⟨nofun, Zaf (fun xs ℓ2 σ3 => ∀ P0 : Prop, (∀ (done2 rest2 : List Int) (ns : List Int), (Z0 L s (Zar l r s) m = done2 ++ rest2) → (xs = rest2.map V.int) → ((∀ n ∈ ns, ∃ s hue o ch, Zkd L l r m s hue o ch ∧ n = (ch.length : Int))) → ((∀ s', sI (!s') < (i : Int) → ∀ hue o ch, Zkd L l r m s' hue o ch → (ch.length : Int) ∈ ns)) → ((∀ hue ∈ done, ∀ o ch, Zkd L l r m s hue o ch → (ch.length : Int) ∈ ns)) → ((∀ o ∈ done2, ∀ ch, Zkd L l r m s hue o ch → (ch.length : Int) ∈ ns)) → (ns.length ≤ i * 10000 + done.length * 100 + done2.length) → (Sub σ σ3) → (σ3 fb = some (.list (ns.map V.int))) → (σ3 hb = some (.list ((Z0 L (!s) (Zar l r (!s)) m).map V.int))) → (σ3 ob = some (.list ((Z0 L s (Zar l r s) m).map V.int))) → (ℓ2 "_law_found" = some (.ref fb)) → (ℓ2 "_law_rows" = some (.ref rd)) → (ℓ2 "_law_ends_here" = some (.tup [.int l, .int r])) → (ℓ2 "_law_many" = some (.int m)) → (ℓ2 "_law_side" = some (.int (sI (!s)))) → (ℓ2 "_law_hue" = some (.int hue)) → P0) → P0) ?_ ?_
        (fun _ kI => kI ([]) (_) (ns) (rfl) (rfl) (b3) (b4) (b5) (fun _ h => absurd h (by simp)) (by simpa using b6) (s2.new hob) (Zl b7 hob) (Zl b8 hob) (Zd) (f1) (f2) (f3) (f4) (f5) (rfl))⟩
      · intro ℓ2 σ3 hI0
        refine hI0 _ fun done2 rest2 ns c1 c2 c3 c4 c5 c6 c7 s3 c8 c9 c10 g1 g2 g3 g4 g5 g6 => ?_
        obtain rfl := Xb c2
        rw [List.append_nil] at c1
        refine ⟨c10, k5 _ _ ?_⟩
        dsimp only [Zan]
        refine k4 _ _ (fun _ kI => kI (done ++ [hue]) (rest) (ns) (by simpa using b1) (rfl) (c3) (c4) (fun h' hh' o ch w => ?_) (?_) (s3) (c8) (c9) (g1) (g2) (g3) (g4) (g5))
        · rcases List.mem_append.1 hh' with q | q
          · exact c5 h' q o ch w
          · rw [List.mem_singleton.1 q] at w
            exact c6 o (by rw [← c1]; exact w.2.1) ch w
        · have : done2.length ≤ 100 := by rw [← c1]; exact hl2
          simp only [List.length_append, List.length_singleton]; exact Zym hs c7 this
      · intro v xs ℓ2 σ3 K6 k6 r6 hI0
        refine hI0 _ fun done2 rest2 ns c1 c2 c3 c4 c5 c6 c7 s3 c8 c9 c10 g1 g2 g3 g4 g5 g6 => ?_
        obtain ⟨o, rest2, rfl, rfl, rfl⟩ := Yp c2
        refine ⟨c10, ?_⟩
        dsimp only [Xd]
        have ho : o ∈ Z0 L s (Zar l r s) m := by rw [c1]; simp
        have hne := Zgx hnb hhue ho
        have hdl2 : done2.length < 100 := by have := congrArg List.length c1; simp at this; exact Zux hl2 this
        refine Zo fun K7 k7 => ?_
        dsimp only [tDo, Xf, Zga, Wr, Ye, Zjf, Zjt, Yj, Zt, Zm, Zk, Zc6, Zb7, Yq, Loc.set, String.reduceBEq, cond_true, cond_false]
        simp only [g1, g2, g3, g5, g6, c8, Zls, Bool.not_not]
        refine ⟨trivial, Xp (Zal l r s) ⟨rd, L, ep, s, Zar l r s, o, hue, rfl, s3 _ _ hrd, ok, (Wg.1 ho).2, hne, fun cb ch hP hD hcb => ?_⟩⟩
        have cbfb : fb ≠ cb := fun z => by rw [← z, c8] at hcb; cases hcb
        simp only [Zd, Zf cbfb, c8, List.length_map]
        have W : Zkd L l r m s hue o ch := ⟨hhue, ho, hP, hD⟩
        refine ⟨by unfold Xv; exact Zyl hi2 hs hdl c7 hdl2, k7 _ _ ?_⟩
        dsimp only [Zan]
        refine k6 _ _ (fun _ kI => kI (done2 ++ [o]) (rest2) (ns ++ [(ch.length : Int)]) (by simpa using c1) (rfl) (fun n hn => ?_) (fun t ht h' o' ch' w => List.mem_append_left _ (c4 t ht h' o' ch' w)) (fun h' hh' o' ch' w => List.mem_append_left _ (c5 h' hh' o' ch' w)) (fun o' ho' ch' w => ?_) (by simp only [List.length_append, List.length_singleton]; exact Zyk hs c7) (((s3.new hcb).upd hfb)) (by rw [Zd, List.map_append]; rfl) (?_) (?_) (g1) (g2) (g3) (g4) (g5) (g6))
        · rcases List.mem_append.1 hn with q | q
          · exact c3 n q
          · rw [List.mem_singleton.1 q]; exact ⟨s, hue, o, ch, W, rfl⟩
        · rcases List.mem_append.1 ho' with q | q
          · exact List.mem_append_left _ (c6 o' q ch' w)
          · rw [List.mem_singleton.1 q] at w
            rw [ok.unique w.2.2.1 w.2.2.2 hP hD]; simp
        · rw [Zf hbfb]; exact Zl c9 hcb
        · rw [Zf obfb]; exact Zl c10 hcb
theorem Ztv (hK : (KK P).In g.b0) (N : NN g) (F_law_free : FnG g "_law_free" 4 Zgr) (F_law_chain : FnG g "_law_chain" 4 Zit) (F_law_sizes : FnG g "_law_sizes" 4 Zks) : Xu g 5 (.ref 342) Zov := by
  refine Xu.mono (Z1 (r := 4) (ps := ["_law_rows", "_law_ends_here", "_law_many", "_law_hue", "_law_other", "_law_numbers"]) (hK 342 _ rfl) rfl (Zq (hK 341 _ rfl) rfl rfl) rfl (by intro vs h; obtain ⟨a0, a1, a2, a3, a4, a5, rfl⟩ := Z2q h; rfl) rfl rfl rfl (by decide +kernel)
    (Zc (Yz (Yv (at_ (i := 8) rfl) (N.n_range) Zg rfl) (.name (at_ (i := 6) rfl) rfl) (Zc (Z6 7 rfl rfl (Zr Zg (Zb 6 rfl rfl)) (fun _ => rfl))
  (Zc (Yb (Zv (Zb 3 rfl rfl) (Zp 9 rfl F_law_free (Za (Zb 0 rfl rfl) (Za (Zb 6 rfl rfl) (Za (Zi (Zb 1 rfl rfl) (Zb 6 rfl rfl) (fun _ _ => rfl)) (Za (Zb 2 rfl rfl) Ze)))) rfl) rfl) (Zc (Yb (Zv (Zb 4 rfl rfl) (Zp 9 rfl F_law_free (Za (Zb 0 rfl rfl) (Za (Zb 7 rfl rfl) (Za (Zi (Zb 1 rfl rfl) (Zb 7 rfl rfl) (fun _ _ => rfl)) (Za (Zb 2 rfl rfl) Ze)))) rfl) rfl) (Zc (Yb (Zv (Zb 5 rfl rfl) (Zp 10 rfl F_law_chain (Za (Zb 0 rfl rfl) (Za (Zb 7 rfl rfl) (Za (Zi (Zb 1 rfl rfl) (Zb 7 rfl rfl) (fun _ _ => rfl)) (Za (Zb 4 rfl rfl) (Za (Zb 3 rfl rfl) Ze))))) rfl) rfl) (Zc (Zj (Zcr (Zp 11 rfl (Zy N.n_len Wb) (Za (Zb 5 rfl rfl) Ze) rfl) (Zp 12 rfl (Zy N.n_min Zq4) (Za (Zp 13 rfl F_law_sizes (Za (Zb 0 rfl rfl) (Za (Zb 1 rfl rfl) (Za (Zb 2 rfl rfl) Ze))) rfl) Ze) rfl) rfl))
  Zh) Zh)
  Zh) Zh)
  Zh) Zh)
  Zh)) (fun _ _ => rfl))
  (Zc (Zj We)
  Zh))) ?_
  rintro xs σ Q E ⟨rd, nb, L, ep, l, r, m, s, hue, o, ch, rfl, hrd, ok, hm, hnbl, ⟨hnb, W, hmin⟩, hq⟩
  refine Yu rfl fun K KE kret _ _ => ?_
  dsimp only [Loc.setAll]
  have hmapn : (ch.map fun x => V.int x.n) = (ch.map Rw.n).map V.int := by rw [List.map_map]; rfl
  rw [hmapn] at hnbl
  refine Yg fun K1 r1 => ?_
  dsimp only [Zgb, Zae, Zm]
  refine ⟨by decide, Yh rfl, nofun, ?_⟩
  refine Ww (fun i ℓ σ' => ∀ P0 : Prop, (((i : Int) ≤ sI (!s)) → (Sub σ σ') → (ℓ "_law_rows" = some (.ref rd)) → (ℓ "_law_ends_here" = some (.tup [.int l, .int r])) → (ℓ "_law_many" = some (.int m)) → (ℓ "_law_hue" = some (.int hue)) → (ℓ "_law_other" = some (.int o)) → (ℓ "_law_numbers" = some (.ref nb)) → P0) → P0) ?_ ?_
    (fun _ kI => kI (by cases s <;> simp [sI]) (Sub.refl) (rfl) (rfl) (rfl) (rfl) (rfl) (rfl))
  · intro ℓ σ' hI0
    refine hI0 _ fun h1 _ _ _ _ _ _ _ => ?_
    exfalso
    cases s <;> simp [sI] at h1
  · intro i ℓ σ' K2 hi k2 r2 hI0
    refine hI0 _ fun h1 s' e1 e2 e3 e4 e5 e6 => ?_
    have hi2 : i < 2 := hi
    refine ⟨trivial, ?_⟩
    dsimp only [Xd]
    obtain ⟨t, ht⟩ := Zon hi2
    refine Yl fun K3 k3 r3 => ?_
    dsimp only [Z5, Zm, Zk, Zc6, Zb7, Loc.set, String.reduceBEq, cond_true]
    simp only [ht, Zls, Bool.not_not]
    refine k3 _ _ ?_
    refine Yl fun K3 k3 r3 => ?_
    refine Xw fun KB kt kf => ?_
    dsimp only [Ye, Yj, Zt, Zk, Xm, Wy, Yq, Loc.set, String.reduceBEq, cond_true, cond_false]
    simp only [e1, e2, e3, e4]
    refine Xp (Zal l r (!t)) ⟨rd, L, ep, !t, Zar l r (!t), m, rfl, s' _ _ hrd, ok, hm, fun fb hfb => Zdx Zd ?_⟩
    by_cases z : t = s
    · subst z
      rw [decide_eq_true W.1]
      refine kt _ ?_
      have s1 := s'.new (o := .list ((Z0 L (!t) (Zar l r (!t)) m).map V.int)) hfb
      generalize σ'.set fb (.list ((Z0 L (!t) (Zar l r (!t)) m).map V.int)) = σ1 at s1 ⊢
      refine Yg fun K4 r4 => ?_
      refine Xw fun KB kt kf => ?_
      dsimp only [Ye, Yj, Zt, Zk, Xm, Wy, Yq, Loc.set, String.reduceBEq, cond_true, cond_false]
      simp only [e1, e2, e3, e5]
      refine Xp (Zal l r t) ⟨rd, L, ep, t, Zar l r t, m, rfl, s1 _ _ hrd, ok, hm, fun fb2 hfb2 => Zdx Zd ?_⟩
      rw [decide_eq_true W.2.1]
      refine kt _ ?_
      have s2 := s1.new (o := .list ((Z0 L t (Zar l r t) m).map V.int)) hfb2
      generalize σ1.set fb2 (.list ((Z0 L t (Zar l r t) m).map V.int)) = σ2 at s2 ⊢
      refine Yg fun K5 r5 => ?_
      refine Xw fun KB kt kf => ?_
      dsimp only [Ye, Yj, Zt, Zk, Xm, Wy, Yq, Loc.set, String.reduceBEq, cond_true, cond_false]
      simp only [e1, e2, e4, e5, e6]
      refine Xp (Zal l r t) ⟨rd, L, ep, t, Zar l r t, o, hue, rfl, s2 _ _ hrd, ok, (Wg.1 W.2.1).2, Zgx hnb W.1 W.2.1, fun cb ch' hP hD hcb => ?_⟩
      have hch := ok.unique hP hD W.2.2.1 W.2.2.2
      subst hch
      rw [hmapn]
      refine Zdy (ns := ch'.map Rw.n) (ms := ch'.map Rw.n) (Zl (s2 _ _ hnbl) hcb) Zd ?_
      simp only [BEq.rfl]
      refine kt _ ?_
      have s3 := s2.new (o := .list ((ch'.map Rw.n).map V.int)) hcb
      generalize σ2.set cb (.list ((ch'.map Rw.n).map V.int)) = σ3 at s3 ⊢
      refine Yg fun K6 r6 => ?_
      dsimp only [Za8, Ye, Zjf, Zjt, Zwf, Yj, Zt, Zk, Zsf, Wy, Loc.set, String.reduceBEq, cond_false]
      simp only [e1, e2, e3, e6, s3 _ _ hnbl, List.length_map]
      refine ⟨rd, L, ep, l, r, m, rfl, s3 _ _ hrd, ok, hm, hnb, fun sb ns n1 n2 hsb => ?_⟩
      simp only [Za9, Zd, Zcg]
      have hin := n2 _ _ _ _ W
      refine ⟨(fun q => by rw [q] at hin; cases hin), fun mm hm1 hm2 => Zaq ?_⟩
      have hle := hm2 _ hin
      obtain ⟨s'', hue', o', ch'', w', e⟩ := n1 mm hm1
      have hge := hmin _ _ _ _ w'
      have : ((ch'.length : Int) == mm) = true := by rw [beq_iff_eq]; exact Zyj hle e hge
      rw [this]
      exact r6 _ _ _ (r5 _ _ _ (r4 _ _ _ (r3 _ _ _ (r2 _ _ _ (r1 _ _ _ (kret _ _ _ _ (s3.new hsb) hq))))))
    · have hts : s = !t := by cases s <;> cases t <;> simp at z ⊢
      subst hts
      have := Znk hnb (s := !t) (by exact W.1)
      rw [decide_eq_false this]
      refine kf _ ?_
      dsimp only [Zan]
      refine k3 _ _ ?_
      dsimp only [Zan]
      refine k2 _ _ (fun _ kI => kI (?_) (s'.new hfb) (e1) (e2) (e3) (e4) (e5) (e6))
      have h3 : (i : Int) ≤ sI (!(!t)) := h1
      have h2 : (i : Int) = sI (!t) := ht
      cases t <;> simp [sI] at h2 h3 ⊢ <;> omega
end
section
open PySem PySem.W PyProof.Rows
variable {g : Gr} {P : Params}
theorem Z14 (hK : (KK P).In g.b0) (N : NN g) (F_law_whole : FnG g "_law_whole" 5 Yt) (F_law_free : FnG g "_law_free" 5 Zgr) (F_law_is_way : FnG g "_law_is_way" 5 Zov) : Xu g 6 (.ref 347) Zt6 := by
  refine Xu.mono (Z1 (r := 5) (ps := ["_law_rows", "_law_told_here", "_law_number", "_law_ends_here", "_law_many"]) (hK 347 _ rfl) rfl (Zq (hK 346 _ rfl) rfl rfl) rfl (by intro vs h; obtain ⟨a0, a1, a2, a3, a4, rfl⟩ := Zuc h; rfl) rfl rfl rfl (by decide +kernel)
    (Zc (Yb (Xi (Yx (Y5 (Ym (Yk (k := .tuple) (at_ (i := 12) rfl) (N.n_isinstance) (at_ (i := 13) rfl) (N.n_tuple) (Zb 1 rfl rfl) rfl) (fun _ _ => rfl))) (Yx (Zv (Zp 14 rfl (Zy N.n_len Wb) (Za (Zb 1 rfl rfl) Ze) rfl) Zg rfl) (Yx (Zv (Zi (Zb 1 rfl rfl) Zg (fun _ _ => rfl)) (Zb 2 rfl rfl) rfl) (Yx (Y5 (Ym (Yk (k := .list) (at_ (i := 12) rfl) (N.n_isinstance) (at_ (i := 15) rfl) (N.n_list) (Zi (Zb 1 rfl rfl) Zg (fun _ _ => rfl)) rfl) (fun _ _ => rfl))) Xs))))) (Zc (Zj Y7)
  Zh) Zh)
  (Zc (Yb (Y5 (Ym (Zp 16 rfl (Zy N.n_all Zcp) (Za (Y0 (by decide +kernel) (Z3 (Zr (Zw (Za (Zi (Zb 1 rfl rfl) Zg (fun _ _ => rfl)) (Za (Zi (Zb 1 rfl rfl) Zg (fun _ _ => rfl)) Ze))) (Zi (Zb 1 rfl rfl) Zg (fun _ _ => rfl)))) (.name (at_ (i := 1) rfl) rfl) (by decide +kernel) Wa (Zp 2 rfl F_law_whole (Za (Zb 1 rfl rfl) Ze) rfl) (fun _ _ => rfl)) Ze) rfl) (fun _ _ => rfl))) (Zc (Zj Y7)
  Zh) Zh)
  (Zc (Zdc (.cons (at_ (i := 6) rfl) rfl (.cons (at_ (i := 7) rfl) rfl (.cons (at_ (i := 8) rfl) rfl .nil))) (Zcd (Zb 1 rfl rfl) (Zcc Zg) Zen) (fun _ => rfl) (fun _ => rfl))
  (Zc (Z6 9 rfl rfl (Zp 17 rfl F_law_free (Za (Zb 0 rfl rfl) (Za Zg (Za (Zi (Zb 3 rfl rfl) Zg (fun _ _ => rfl)) (Za (Zb 4 rfl rfl) Ze)))) rfl) (fun _ => rfl))
  (Zc (Yo (at_ (i := 10) rfl) rfl (by decide +kernel) (Z3 (Zp 17 rfl F_law_free (Za (Zb 0 rfl rfl) (Za Zg (Za (Zi (Zb 3 rfl rfl) Zg (fun _ _ => rfl)) (Za (Zb 4 rfl rfl) Ze)))) rfl)) (.name (at_ (i := 1) rfl) rfl) (by decide +kernel) (W8 (Zv (Zb 1 rfl rfl) (Zb 2 rfl rfl) rfl)) (Zb 1 rfl rfl) (fun _ _ => rfl))
  (Zc (Yb (Zv (Zb 10 rfl rfl) (Zw Ze) rfl) (Zc (Yb (Xi (Yx (Zv (Zb 6 rfl rfl) (Zb 10 rfl rfl) rfl) (Yx (Zv (Zb 7 rfl rfl) Y7 rfl) (Yx (Zv (Zb 8 rfl rfl) (Zw Ze) rfl) Xs)))) (Zc (Zj Y7)
  Zh) Zh)
  Zh) (Zc (Yb (Y5 (Ym (Zp 18 rfl F_law_whole (Za (Zb 7 rfl rfl) Ze) rfl) (fun _ _ => rfl))) (Zc (Zj Y7)
  Zh) (Zc (Yb (Y5 (Ym (Zp 19 rfl F_law_is_way (Za (Zb 0 rfl rfl) (Za (Zb 3 rfl rfl) (Za (Zb 4 rfl rfl) (Za (Zb 6 rfl rfl) (Za (Zb 7 rfl rfl) (Za (Zb 8 rfl rfl) Ze)))))) rfl) (fun _ _ => rfl))) (Zc (Zj Y7)
  Zh) Zh)
  Zh))
  Zh))
  (Zc (Z6 11 rfl rfl (Zp 20 rfl (Zdl N.n_dict Zfd) (Za (Zb 0 rfl rfl) Ze) rfl) (fun _ => rfl))
  (Zc (Yz (Z3 (Zb 8 rfl rfl)) (.name (at_ (i := 5) rfl) rfl) (Zc (Yw (Zb 11 rfl rfl) (Zb 5 rfl rfl) (Zr (Zcd (Zi (Zb 0 rfl rfl) (Zb 5 rfl rfl) (fun _ _ => rfl)) Zen (Zcc Zg)) (Zx (Za (Zr (Zr (Zb 6 rfl rfl) (Zb 7 rfl rfl)) (Zi (Zi (Zb 0 rfl rfl) (Zb 5 rfl rfl) (fun _ _ => rfl)) Zg (fun _ _ => rfl))) Ze))) (fun _ => rfl))
  Zh) (fun _ _ => rfl))
  (Zc (Yw (Zb 11 rfl rfl) (Zb 2 rfl rfl) (Zx (Za (Zi (Zb 3 rfl rfl) Zg (fun _ _ => rfl)) (Za (Zi (Zb 3 rfl rfl) Zg (fun _ _ => rfl)) (Za (Zb 6 rfl rfl) Ze)))) (fun _ => rfl))
  (Zc (Zj (Zb 11 rfl rfl))
  Zh))))))))))) ?_
  rintro xs σ Q E ⟨rd, c, L, ep, k, l, r, m, hue, other, nums, rfl, hrd, ok, hk, hm, hc, hT, h⟩
  refine Yu rfl fun K KE kret _ _ => ?_
  simp only [Loc.setAll, Zmx]
  obtain ⟨nN, nL, nF, nO⟩ := hT.nums ok
  have hfew := ok.few
  have at0 : atV [V.int k, V.int hue, Ztg other, V.ref c] 0 = some (.int k) := Z8 (by decide) rfl
  have at1 : atV [V.int k, V.int hue, Ztg other, V.ref c] 1 = some (.int hue) := Z8 (by decide) rfl
  have at3 : atV [V.int k, V.int hue, Ztg other, V.ref c] 3 = some (.ref c) := Z8 (by decide) rfl
  refine Zo fun K1 k1 => ?_
  refine Xw fun KB kt kf => ?_
  dsimp only [Ye, Zjf, Zjt, Zqv, Zn3, Yj, Zt, Zm, Zk, Zax, Xr, Zco, Zoc, Wd, Xm, Wy, Yq, Loc.set, String.reduceBEq, cond_true, cond_false, List.length_cons, List.length_nil]
  simp only [Bool.not_true]
  refine Zaq ?_
  rw [show (((0 + 1 + 1 + 1 + 1 : Nat) : Int) == 4) = true from rfl]
  simp only [Bool.not_true]
  refine Xp at0 (Zaq ?_)
  simp only [BEq.rfl, Bool.not_true]
  refine Xp at3 ?_
  simp only [hc, Bool.not_true]
  refine kf _ ?_
  dsimp only [Zan]
  refine k1 _ _ ?_
  refine Zo fun K1 k1 => ?_
  refine Xw fun KB kt kf => ?_
  dsimp only [Zap, Zah, Ye, Y6, Zav, Zay, Yj, Zt, Zm, Zk, Zax, Xr, Zco, Zc6, Zb7, Yq, Loc.set, String.reduceBEq, cond_true, cond_false, List.length_cons, List.length_nil]
  refine Xp at0 (Xp at1 ⟨Yh rfl, fun lb hlb => Xp at3 ⟨_, _, Zd, Zl hc hlb, by simp [Xv]; exact Zyi nF hfew, fun sb hsb => ?_⟩⟩)
  have hl : [V.int k, V.int hue] ++ nums.map V.int = (k :: hue :: nums).map V.int := rfl
  rw [hl]
  simp only [Zd]
  refine ⟨nofun, Wl V.int (fun _ => V.bool true) (k :: hue :: nums) (fun σ2 s2 => s2 _ _ Zd) (fun n _ => ⟨_, fun _ _ P h => h, fun σ2 s2 Qv hQ => ?_⟩) fun σ2 s2 ab hab => ?_⟩
  · dsimp only [Ye, Yj, Zt, Zk, Loc.set, Loc.bare, String.reduceBEq, cond_true, cond_false, Yt]
    exact ⟨n, rfl, hQ _ Sub.refl⟩
  have hbs : ((k :: hue :: nums).map fun _ => V.bool true) = ((k :: hue :: nums).map fun _ => true).map V.bool := by rw [List.map_map]; rfl
  rw [hbs]
  refine ⟨ab, _, rfl, Zd, ?_⟩
  have hall : (((k :: hue :: nums).map fun _ => true).all id) = true := by rw [List.all_eq_true]; intro z hz; obtain ⟨_, _, rfl⟩ := List.mem_map.1 hz; rfl
  rw [hall]
  simp only [Bool.not_true]
  refine kf _ ?_
  have s3 : Sub σ (σ2.set ab (.list (((k :: hue :: nums).map fun _ => true).map V.bool))) := (((Sub.refl.new hlb).new hsb).trans s2).new hab
  generalize σ2.set ab (.list (((k :: hue :: nums).map fun _ => true).map V.bool)) = σ3 at s3 ⊢
  dsimp only [Zan]
  refine k1 _ _ ?_
  refine Zo fun K1 k1 => ?_
  dsimp only [Zgc, Zm, Zk, Zhn, Zgp, Zf2, Loc.set, Xd, String.reduceBEq, cond_true, cond_false, List.length_cons, List.length_nil]
  refine ⟨by simp [Zbe], trivial, ?_⟩
  simp only [Zce, Zfn, Zf5, loN]
  refine ⟨rfl, k1 _ _ ?_⟩
  refine Zo fun K1 k1 => ?_
  dsimp only [Z5, Ye, Yj, Zt, Zm, Zk, Yq]
  refine Xp (Zal l r true) ⟨rd, L, ep, true, Zar l r true, m, rfl, s3 _ _ hrd, ok, hm, fun rb hrb => k1 _ _ ?_⟩
  have s4 := s3.new (o := .list ((Z0 L true r m).map V.int)) hrb
  have hrb4 : (σ3.set rb (.list ((Z0 L true r m).map V.int))) rb = some (.list ((Z0 L true r m).map V.int)) := Zd
  change Zuh _ _ _ (σ3.set rb (.list ((Z0 L true r m).map V.int))) _ _
  generalize σ3.set rb (.list ((Z0 L true r m).map V.int)) = σ4 at s4 hrb4 ⊢
  refine Zo fun K1 k1 => ?_
  dsimp only [Xh, Zap, Zah, Ye, Zav, Yj, Zt, Zm, Zk, Yq, Loc.set, String.reduceBEq, cond_false]
  refine Xp (Zal l r false) ⟨rd, L, ep, false, Zar l r false, m, rfl, s4 _ _ hrd, ok, hm, fun lb hlb => ?_⟩
  simp only [Zd]
  refine ⟨nofun, Xc V.int (fun h => decide (h ∈ Z0 L true r m)) V.int (Z0 L false l m) (fun σ5 s5 => s5 _ _ Zd) (fun h _ σ5 s5 => ⟨_, fun P h => h, fun Qb hQ => ?_, fun _ σ6 s6 Qv hQ => ?_⟩) fun σ5 s5 bb hbb => k1 _ _ ?_⟩
  · dsimp only [Zk, Xm, Wy, Loc.set, Loc.bare, String.reduceBEq, cond_true, cond_false]
    exact Zdx (s5 _ _ (Zl hrb4 hlb)) (hQ _ Sub.refl)
  · dsimp only [Zk, Loc.set, Loc.bare, String.reduceBEq, cond_true, cond_false]
    exact hQ _ Sub.refl
  generalize hB : (Z0 L false l m).filter (fun h => decide (h ∈ Z0 L true r m)) = B
  have s6 := ((s4.new (o := .list ((Z0 L false l m).map V.int)) hlb).trans s5).new (o := .list (B.map V.int)) hbb
  have hbb6 : (σ5.set bb (.list (B.map V.int))) bb = some (.list (B.map V.int)) := Zd
  generalize σ5.set bb (.list (B.map V.int)) = σ6 at s6 hbb6 ⊢
  have hBmem : ∀ h, h ∈ B ↔ h ∈ Z0 L false l m ∧ h ∈ Z0 L true r m := fun h => by rw [← hB, List.mem_filter]; simp
  refine Zo fun K1 k1 => ?_
  have fin : ∀ (ℓ7 : Loc) (σ7 : AH), Sub σ σ7 → ℓ7 "_law_rows" = some (.ref rd) → ℓ7 "_law_number" = some (.int k) → ℓ7 "_law_ends_here" = some (.tup [.int l, .int r]) → ℓ7 "_law_hue" = some (.int hue) → ℓ7 "_law_other" = some (Ztg other) → ℓ7 "_law_numbers" = some (.ref c) → K1 .next ℓ7 σ7 := by
    intro ℓ7 σ7 s7 e1 e2 e3 e4 e5 e6
    refine k1 _ _ ?_
    refine Zo fun K2 k2 => ?_
    dsimp only [Z5, Ye, Yj, Zt, Zk]
    simp only [e1]
    refine ⟨rd, _, ep, rfl, s7 _ _ hrd, fun fb epf hfb => k2 _ _ ?_⟩
    have hfb0 : σ fb = none := s7.none hfb
    have fbc : c ≠ fb := fun z => by rw [← z, hc] at hfb0; cases hfb0
    have fbrd : rd ≠ fb := fun z => by rw [← z, hrd] at hfb0; cases hfb0
    refine Zo fun K2 k2 => ?_
    dsimp only [Zgb, Zap, Zah, Zk, Loc.set, String.reduceBEq, cond_false]
    simp only [e6, Zl (s7 _ _ hc) hfb]
    refine ⟨nofun, Zaf (fun xs ℓ8 σ8 => ∀ P0 : Prop, (∀ (done rest : List Int) (ep' : Nat), (nums = done ++ rest) → (xs = rest.map V.int) → (Sub σ σ8) → (σ8 fb = some (.dictI (Yd (L.map (Xz done hue (other.getD 0)))) ep')) → (ℓ8 "_law_rows" = some (.ref rd)) → (ℓ8 "_law_number" = some (.int k)) → (ℓ8 "_law_ends_here" = some (.tup [.int l, .int r])) → (ℓ8 "_law_hue" = some (.int hue)) → (ℓ8 "_law_other" = some (Ztg other)) → (ℓ8 "_law_fresh" = some (.ref fb)) → P0) → P0) ?_ ?_
      (fun _ kI => kI ([]) (nums) (epf) (rfl) (rfl) (s7.new hfb) (by rw [Zd, Zpt]) (e1) (e2) (e3) (e4) (e5) (rfl))⟩
    · intro ℓ8 σ8 hI0
      refine hI0 _ fun done rest ep' g1 g2 s8 g3 f1 f2 f3 f4 f5 f6 => ?_
      obtain rfl := Xb g2
      rw [List.append_nil] at g1
      subst g1
      refine ⟨s8 _ _ hc, k2 _ _ ?_⟩
      refine Yl fun K3 k3 r3 => ?_
      dsimp only [Wc, Yj, Zt, Zm, Zk, Yq, List.length_cons, List.length_nil, Wi]
      simp only [f2, f3, f4, f6]
      refine Xp (Zal l r false) (Xp (Zal l r true) ⟨Yh rfl, ?_⟩)
      simp only [Wj, g3]
      refine ⟨k, rfl, by simp [Xv, Wk]; exact Nat.le_of_lt (Nat.lt_of_lt_of_le hfew (by decide)), fun ep2 => k3 _ _ ?_⟩
      refine Yg fun K3 r3 => ?_
      dsimp only [Za8, Zk]
      simp only [f6]
      have := Zm5 (M := L.map (Xz nums hue (other.getD 0))) (k := k) (l := l) (r := r) (hue := hue) fun x hx => by
        obtain ⟨y, hy, rfl⟩ := List.mem_map.1 hx
        rw [Zag]; exact hk y hy
      refine r3 _ _ _ (kret _ _ _ _ (Zgk (s8.upd hfb0) Zd) ?_)
      show Q (.ref fb) (σ.set fb (.dictI (Zfb (Yd (L.map (Xz nums hue (other.getD 0)))) k (.tup [.int l, .int r, .int hue])) ep2))
      rw [this]
      exact h fb ep2 hfb0
    · intro v xs ℓ8 σ8 K3 k3 r3 hI0
      refine hI0 _ fun done rest ep' g1 g2 s8 g3 f1 f2 f3 f4 f5 f6 => ?_
      obtain ⟨n, rest, rfl, rfl, rfl⟩ := Yp g2
      refine ⟨s8 _ _ hc, ?_⟩
      dsimp only [Xd]
      have hn : n ∈ nums := by rw [g1]; simp
      obtain ⟨o, ho⟩ := nO fun z => by rw [z] at hn; cases hn
      have hnd : n ∉ done := fun z => by
        rw [g1, List.nodup_append] at nN
        exact nN.2.2 n z n (.head _) rfl
      obtain ⟨x, hx, rfl⟩ := nL n hn
      have hlk := Xn ok.nd hx
      have f5' : ℓ8 "_law_other" = some (.int o) := by rw [f5, ho]; rfl
      refine Zo fun K4 k4 => ?_
      dsimp only [Wc, Yj, Zt, Zm, Zk, Zc6, Zb7, Yq, Zhn, Zgp, Zf2, Loc.set, String.reduceBEq, cond_true, cond_false, List.length_cons, List.length_nil, Wi]
      simp only [f1, f4, f5', f6]
      refine Zg2 (s8 _ _ hrd) hlk ?_
      dsimp only [Zn2]
      refine ⟨trivial, by simp [Zbe], Zg2 (s8 _ _ hrd) hlk (Xp (xs := [V.int x.l, V.int x.r, V.int (hu x)]) (Z8 (by decide) rfl) ?_)⟩
      simp only
      refine ⟨Yh rfl, by simp [Xv, Zfn, Zf5, loN], ?_⟩
      simp only [Wj, g3]
      refine ⟨x.n, rfl, by simp [Xv, Wk]; exact Nat.le_of_lt (Nat.lt_of_lt_of_le hfew (by decide)), fun ep2 => k4 _ _ ?_⟩
      dsimp only [Zan]
      refine k3 _ _ (fun _ kI => kI (done ++ [x.n]) (rest) (ep2) (by simpa using g1) (rfl) (s8.upd hfb0) (?_) (f1) (f2) (f3) (f4) (f5) (f6))
      rw [Zd, ← Zku ok hx hnd, ho]; rfl
  refine Xw fun KB kt kf => ?_
  dsimp only [Zay, Yj, Zk, Xm, Wy, Loc.set, String.reduceBEq, cond_true, cond_false, List.length_nil]
  refine ⟨Yh rfl, fun zb hzb => Zdy (ns := B) (ms := []) (Zl hbb6 hzb) Zd ?_⟩
  have s7 := s6.new (o := .list []) hzb
  have hbb7 := Zl (p := .list []) hbb6 hzb
  generalize σ6.set zb (.list []) = σ7 at s7 hbb7 ⊢
  rcases hT with ⟨rfl, rfl, h1, h2⟩ | ⟨o, s, ch, rfl, rfl, hL⟩
  · have hin : hue ∈ B := (hBmem hue).2 ⟨h1, h2⟩
    have hne : (B == []) = false := by cases B with | nil => cases hin | cons _ _ => rfl
    rw [hne]
    simp only [Bool.not_false]
    refine kt _ ?_
    refine Zo fun K2 k2 => ?_
    refine Xw fun KB kt kf => ?_
    dsimp only [Zay, Yj, Zm, Zk, Zoc, Wd, Xm, Wy, Loc.set, String.reduceBEq, cond_true, cond_false, List.length_nil]
    refine Zdx hbb7 ?_
    rw [decide_eq_true hin]
    simp only [Bool.not_true, Ztg, Zdj]
    refine ⟨Yh rfl, fun yb hyb => Zp1 (Zl (s7 _ _ hc) hyb) Zd ?_⟩
    simp only [Bool.not_true]
    refine kf _ ?_
    dsimp only [Zan]
    refine k2 _ _ ?_
    dsimp only [Zan]
    exact fin _ _ (s7.new hyb) rfl rfl rfl rfl rfl rfl
  · have hBn : B = [] := by
      cases B with
      | nil => rfl
      | cons z zs =>
        have := (hBmem z).1 (.head _)
        exact absurd this.2 (hL.1 z this.1)
    subst hBn
    simp only [BEq.rfl, Bool.not_true]
    refine kf _ ?_
    refine Zo fun K2 k2 => ?_
    refine Xw fun KB kt kf => ?_
    dsimp only [Ye, Yj, Zt, Zk, Zax, Xr, Zco, Loc.set, String.reduceBEq, cond_false, Yt]
    refine ⟨o, rfl, ?_⟩
    simp only [Bool.not_true]
    refine kf _ ?_
    refine Zo fun K3 k3 => ?_
    refine Xw fun KB kt kf => ?_
    dsimp only [Ye, Yj, Zt, Zk, Zax, Xr, Zco, Loc.set, String.reduceBEq, cond_false]
    have hmapn : (ch.map Rw.n).map V.int = ch.map fun x => V.int x.n := by rw [List.map_map]; rfl
    rw [hmapn] at hc
    refine ⟨rd, c, L, ep, l, r, m, s, hue, o, ch, rfl, s7 _ _ hrd, ok, hm, s7 _ _ hc, hL, ?_⟩
    simp only [Bool.not_true]
    refine kf _ ?_
    dsimp only [Zan]
    refine k3 _ _ ?_
    dsimp only [Zan]
    refine k2 _ _ ?_
    dsimp only [Zan]
    exact fin _ _ s7 rfl rfl rfl rfl rfl rfl
theorem Zty (hK : (KK P).In g.b0) (N : NN g) (F_law_count : FnG g "_law_count" 6 Zff) (F_law_put : FnG g "_law_put" 6 Zt6) : Xu g 7 (.ref 354) Zo2 := by
  refine Xu.mono (Z1 (r := 6) (ps := ["_law_rows", "_law_told_here", "_law_number", "_law_ends_here"]) (hK 354 _ rfl) rfl (Zq (hK 353 _ rfl) rfl rfl) rfl (by intro vs h; obtain ⟨a0, a1, a2, a3, rfl⟩ := Zqw h; rfl) rfl rfl rfl (by decide +kernel)
    (Zc (Z6 4 rfl rfl (Zp 5 rfl (Zdl N.n_dict Zfd) (Za (Zb 0 rfl rfl) Ze) rfl) (fun _ => rfl))
  (Zc (Yw (Zb 4 rfl rfl) (Zb 2 rfl rfl) (Zb 3 rfl rfl) (fun _ => rfl))
  (Zc (Zj (Zp 6 rfl F_law_put (Za (Zb 0 rfl rfl) (Za (Zb 1 rfl rfl) (Za (Zb 2 rfl rfl) (Za (Zb 3 rfl rfl) (Za (Zp 7 rfl F_law_count (Za (Zb 4 rfl rfl) Ze) rfl) Ze))))) rfl))
  Zh)))) ?_
  rintro xs σ Q E ⟨rd, c, L, ep, k, l, r, a, b, m, hue, other, nums, rfl, hrd, ok, h60, hk, hin, hcnt, hc, hT, h⟩
  refine Yu rfl fun K KE kret _ _ => ?_
  dsimp only [Loc.setAll]
  refine Yl fun K1 k1 r1 => ?_
  dsimp only [Z5, Ye, Yj, Zt, Zk, Loc.set, String.reduceBEq, cond_true, cond_false]
  refine ⟨rd, _, ep, rfl, hrd, fun mb epm hmb => k1 _ _ ?_⟩
  refine Yl fun K1 k1 r1 => ?_
  dsimp only [Zk, Loc.set, String.reduceBEq, cond_true, cond_false, Wi]
  simp only [Wj, Zd]
  refine ⟨k, rfl, by simp [Xv, Wk]; exact Nat.le_of_lt (Nat.lt_of_lt_of_le h60 (by decide)), fun ep2 => k1 _ _ ?_⟩
  rw [Zck]
  refine Yg fun K1 r1 => ?_
  dsimp only [Za8, Ye, Yj, Zt, Zk, Loc.set, String.reduceBEq, cond_true, cond_false]
  refine ⟨mb, _, L ++ [⟨k, l, r, none⟩], Zrj k, ep2, rfl, Zd, Zpc hk, by simp; exact Zyh h60, fun m' hm' => ?_⟩
  obtain rfl : m' = m := (hm' a b hin).uniq hcnt
  have hm100 : m' ≤ 100 := by have := Zac hcnt; simp at this; exact Zyg h60 this
  refine ⟨rd, c, L, ep, k, l, r, m', hue, other, nums, rfl, Zl hrd hmb, ok, hk, hm100, Zl hc hmb, hT, fun bb ep3 hbb => r1 _ _ _ (kret _ _ _ _ (Zd6 (Sub.refl.new hmb)) (h bb ep3 ((Sub.refl.new hmb).none hbb)))⟩
end
section
open PySem PySem.W PyProof.Rows
variable {g : Gr} {P : Params}
theorem Zvo (hK : (KK P).In g.b0) (N : NN g) : Xu g 3 (.ref 371) Zo0 := by
  refine Xu.mono (Z1 (r := 2) (ps := ["_law_cell", "_law_sizes_here", "_law_rows"]) (hK 371 _ rfl) rfl (Zq (hK 370 _ rfl) rfl rfl) rfl (by intro vs h; obtain ⟨a0, a1, a2, rfl⟩ := Zpg h; rfl) rfl rfl rfl (by decide +kernel)
    (Zc (Z6 3 rfl rfl (Zw Ze) (fun _ => rfl))
  (Zc (Yz (Yv (at_ (i := 8) rfl) (N.n_range) Zg rfl) (.name (at_ (i := 4) rfl) rfl) (Zc (Yo (at_ (i := 5) rfl) rfl (by decide +kernel) (Zd7 (Zb 2 rfl rfl) rfl rfl) (.name (at_ (i := 1) rfl) rfl) (by decide +kernel) Wa (Zi (Zb 1 rfl rfl) (Zb 2 rfl rfl) (fun _ _ => rfl)) (fun _ _ => rfl))
  (Zc (Z6 6 rfl rfl (Zhf (at_ (i := 9) rfl) (N.n_list) (at_ (i := 8) rfl) (N.n_range) (Zi (Zb 1 rfl rfl) (Zb 4 rfl rfl) (fun _ _ => rfl)) rfl) (fun _ => rfl))
  (Zc (Z6 7 rfl rfl (Wt (Zoh (Y0 (by decide +kernel) (Z3 (Zb 6 rfl rfl)) (.name (at_ (i := 1) rfl) rfl) (by decide +kernel) (W8 (Zv (Zsh (Zb 3 rfl rfl) (Za (Zb 1 rfl rfl) Ze) rfl rfl rfl rfl) (Zi (Zb 2 rfl rfl) Zg (fun _ _ => rfl)) rfl)) (Zb 1 rfl rfl) (fun _ _ => rfl)) (Zb4 (Zb 6 rfl rfl)))) (fun _ => rfl))
  (Zc (Yn (Za0 (Zb 3 rfl rfl) (Za (Zi (Zb 7 rfl rfl) (Zr (Zr (Zb 0 rfl rfl) (Zi (Zw (Za Zg (Za Zg Ze))) (Zb 4 rfl rfl) (fun _ _ => rfl))) (Zp 10 rfl (Zy N.n_len Wb) (Za (Zb 7 rfl rfl) Ze) rfl)) (fun _ _ => rfl)) Ze) rfl rfl rfl rfl) (fun _ => rfl))
  Zh)))) (fun _ _ => rfl))
  (Zc (Zj (Zx (Za (Zi (Zb 3 rfl rfl) Zg (fun _ _ => rfl)) (Za (Zi (Zb 3 rfl rfl) Zg (fun _ _ => rfl)) Ze))))
  Zh)))) ?_
  rintro xs σ Q E ⟨c, a, b, k, ed, kvs, L, tl, ep, rfl, hed, hvals, ha1, ha2, hb1, hb2, h⟩
  refine Yu rfl fun K KE kret _ _ => ?_
  dsimp only [Loc.setAll]
  refine Zo fun K1 k1 => ?_
  dsimp only [Z5, Zay, Yj, List.length_nil]
  refine ⟨Yh rfl, fun f hf => k1 _ _ ?_⟩
  refine Zo fun K1 k1 => ?_
  dsimp only [Zgb, Zae, Zm]
  refine ⟨by decide, Yh rfl, nofun, ?_⟩
  have hsz : ∀ i : Nat, i < 2 → ∃ n : Int, atV [V.int a, V.int b, V.int k] (i : Int) = some (.int n) ∧ n = (if i = 0 then a else b) ∧ 1 ≤ n ∧ n ≤ 8 := fun i hi => by
    rcases (show i = 0 ∨ i = 1 by exact Zre hi) with rfl | rfl
    · exact ⟨a, Zdm rfl, rfl, ha1, ha2⟩
    · exact ⟨b, Zdm rfl, rfl, hb1, hb2⟩
  refine Ww (fun i ℓ σ' => ∀ P0 : Prop, (∀ fs : List Int, (fs.length = i) → ((∀ (j : Nat) v, fs[j]? = some v → 0 ≤ v ∧ v < if j = 0 then a else b)) → (Sub σ σ') → (σ' f = some (.list (fs.map V.int))) → (ℓ "_law_found" = some (.ref f)) → (ℓ "_law_cell" = some (.int c)) → (ℓ "_law_sizes_here" = some (.tup [.int a, .int b, .int k])) → (ℓ "_law_rows" = some (.ref ed)) → P0) → P0) ?_ ?_
    (fun _ kI => kI ([]) (rfl) (fun j v e => absurd e (by simp)) (Sub.refl.new hf) (Zd) (rfl) (rfl) (rfl) (rfl))
  · intro ℓ σ' hI0
    refine hI0 _ fun fs h1 h2 h3 h4 e1 e2 e3 e4 => ?_
    refine ⟨trivial, k1 _ _ ?_⟩
    obtain ⟨l, r, rfl⟩ : ∃ l r, fs = [l, r] := by
      match fs, h1 with
      | [l, r], _ => exact ⟨l, r, rfl⟩
    have hl := h2 0 l rfl
    have hr := h2 1 r rfl
    refine Yg fun K2 r2 => ?_
    dsimp only [Za8, Wc, Yj, Zt, Zm, Zk, Yq, List.length_cons, List.length_nil]
    simp only [e1]
    exact Za1 h4 (Z8 (by decide) rfl) (Za1 h4 (Z8 (by decide) rfl) ⟨Yh rfl, r2 _ _ _ (kret _ _ _ _ h3 (h l r hl.1 (by simpa using hl.2) hr.1 (by simpa using hr.2)))⟩)
  · intro i ℓ σ' K2 hi k2 r2 hI0
    refine hI0 _ fun fs h1 h2 h3 h4 e1 e2 e3 e4 => ?_
    have hi2 : i < 2 := hi
    refine ⟨trivial, ?_⟩
    dsimp only [Xd]
    obtain ⟨n, hn1, hn2, hn3, hn4⟩ := hsz i hi2
    refine Zo fun K3 k3 => ?_
    dsimp only [Xh, Zav, Zk, Loc.set, String.reduceBEq, cond_false, Zii]
    simp only [e4, h3 _ _ hed]
    refine ⟨nofun, ?_⟩
    rw [hvals]
    refine Wl (Zqx tl) (fun p => V.int (if i = 0 then p.l else p.r)) L (fun σ2 s2 => s2 _ _ (h3 _ _ hed)) (fun p _ => ⟨_, fun _ _ P h => h, fun σ2 s2 Qv hQ => ?_⟩) fun σ2 s2 tk htk => ?_
    · dsimp only [Zk, Yq, Loc.set, Loc.bare, String.reduceBEq, cond_true, cond_false]
      refine Xp (xs := V.int p.l :: V.int p.r :: tl p) (x := V.int (if i = 0 then p.l else p.r)) ?_ (hQ _ Sub.refl)
      rcases (show i = 0 ∨ i = 1 by exact Zuw h1 hi2) with rfl | rfl
      · exact Zdm rfl
      · exact Zdm rfl
    have hmap : (L.map fun p => V.int (if i = 0 then p.l else p.r)) = (L.map fun p => if i = 0 then p.l else p.r).map V.int := by rw [List.map_map]; rfl
    rw [hmap]
    generalize htn : (L.map fun p => if i = 0 then p.l else p.r) = tn
    refine k3 _ _ ?_
    have s3 : Sub σ' (σ2.set tk (.list (tn.map V.int))) := s2.new htk
    have ht3 : (σ2.set tk (.list (tn.map V.int))) tk = some (.list (tn.map V.int)) := Zd
    generalize σ2.set tk (.list (tn.map V.int)) = σ3 at s3 ht3
    refine Zo fun K3 k3 => ?_
    dsimp only [Z5, Zk, Yq, Loc.set, String.reduceBEq, cond_true, cond_false, Zho]
    simp only [e3]
    refine Xp hn1 ⟨by exact Zyf hn2 hn3 hn4, by unfold Xv; exact Zye hn2 hn3 hn4, fun ev hev => k3 _ _ ?_⟩
    rw [Zat]
    have s4 : Sub σ' (σ3.set ev (.list ((Zcl n.toNat).map V.int))) := s3.new hev
    have ht4 : (σ3.set ev (.list ((Zcl n.toNat).map V.int))) tk = some (.list (tn.map V.int)) := Zl ht3 hev
    have hev4 : (σ3.set ev (.list ((Zcl n.toNat).map V.int))) ev = some (.list ((Zcl n.toNat).map V.int)) := Zd
    generalize σ3.set ev (.list ((Zcl n.toNat).map V.int)) = σ4 at s4 ht4 hev4
    refine Zo fun K3 k3 => ?_
    dsimp only [Z5, Zap, Zah, Y6, Zav, Zk, Xr, tOr, Loc.set, String.reduceBEq, cond_true, cond_false]
    simp only [hev4]
    refine ⟨nofun, Xc V.int (fun e => decide (((tn.count e : Nat) : Int) < k)) V.int (Zcl n.toNat) (fun σ5 s5 => s5 _ _ hev4) (fun e _ σ5 s5 => ⟨_, fun P h => h, fun Qb hQ => ?_, fun _ σ6 s6 Qv hQ => ?_⟩) fun σ5 s5 so hso => ?_⟩
    · dsimp only [Xf, Zga, Zjg, Yj, Zt, Zm, Zk, Xm, Wy, Yq, Loc.set, Loc.bare, String.reduceBEq, cond_true, cond_false]
      simp only [s5 _ _ ht4, Za9, Zcg, e3]
      exact ⟨trivial, Xp (Z8 (by decide) rfl) (hQ _ Sub.refl)⟩
    · dsimp only [Zk, Loc.set, Loc.bare, String.reduceBEq, cond_true, cond_false]
      exact hQ _ Sub.refl
    have fin : ∀ (so : Addr) (Z : List Int) (σ6 : AH) (ℓ6 : Loc), Sub σ4 σ6 → σ6 so = some (.list (Z.map V.int)) → Z ≠ [] → (∀ e ∈ Z, 0 ≤ e ∧ e < n) → ℓ6 "_law_some" = some (.ref so) → (∀ z, z ≠ "_law_some" → ℓ6 z = (((ℓ.set "_law_side" (V.int (i : Int))).set "_law_taken" (V.ref tk)).set "_law_every" (V.ref ev)) z) → K3 .next ℓ6 σ6 := by
      intro so Z σ6 ℓ6 s6 hso6 hL hLn l1 l2
      refine k3 _ _ ?_
      have g1 : ℓ6 "_law_found" = some (.ref f) := by rw [l2 _ (by decide)]; simp [Loc.set, e1]
      have g2 : ℓ6 "_law_cell" = some (.int c) := by rw [l2 _ (by decide)]; simp [Loc.set, e2]
      have g3 : ℓ6 "_law_sizes_here" = some (.tup [.int a, .int b, .int k]) := by rw [l2 _ (by decide)]; simp [Loc.set, e3]
      have g4 : ℓ6 "_law_rows" = some (.ref ed) := by rw [l2 _ (by decide)]; simp [Loc.set, e4]
      have g5 : ℓ6 "_law_side" = some (.int (i : Int)) := by rw [l2 _ (by decide)]; simp [Loc.set]
      have f6 : σ6 f = some (.list (fs.map V.int)) := s6 _ _ (s4 _ _ h4)
      have hpos : (0 : Int) < (Z.length : Int) := by have := List.length_pos_iff.mpr hL; exact Zyd this
      refine Zo fun K4 k4 => ?_
      dsimp only [tDo, Xf, Zga, Wr, Ye, Zjf, Zjt, Zay, Yj, Zt, Zm, Zk, Zc6, Zb7, Yq, List.length_cons, List.length_nil]
      simp only [g1, g2, g5, l1, f6]
      refine ⟨trivial, Yh rfl, fun d hd => ?_⟩
      obtain ⟨q, hq1, hq2⟩ : ∃ q : Int, atV [V.int 1, V.int 40] (i : Int) = some (.int q) ∧ q ≠ 0 := by
        rcases (show i = 0 ∨ i = 1 by exact Zuw h1 hi2) with rfl | rfl
        · exact ⟨1, Zdm rfl, by decide⟩
        · exact ⟨40, Zdm rfl, by decide⟩
      refine Za1 Zd hq1 ⟨hq2, ?_⟩
      simp only [Zl hso6 hd, List.length_map]
      refine ⟨by exact Zyc hpos, ?_⟩
      obtain ⟨v, hv, hm⟩ := Zi7 (xs := Z.map V.int) (Int.fmod_nonneg_of_pos (c.fdiv q) hpos) (by rw [List.length_map]; exact Int.fmod_lt_of_pos (c.fdiv q) hpos)
      obtain ⟨e, he, rfl⟩ := List.mem_map.1 hm
      refine Za1 (Zl hso6 hd) hv ?_
      simp only [Zl f6 hd]
      refine ⟨by simp [Xv]; exact Zyb h1 hi2, k4 _ _ (k2 _ _ (fun _ kI => kI (fs ++ [e]) (by simp [h1]) (fun j v hj => ?_) (((h3.trans (s4.trans s6)).new hd).upd (by exact hf)) (by rw [Zd]; simp) (g1) (g2) (g3) (g4)))⟩
      rcases Nat.lt_trichotomy j fs.length with w | w | w
      · rw [List.getElem?_append_left w] at hj; exact h2 j v hj
      · subst w
        simp at hj; subst hj
        rw [h1, ← hn2]; exact hLn e he
      · rw [List.getElem?_append_right (by exact Z2b w), List.getElem?_eq_none (by simp; exact Zva w)] at hj; cases hj
    simp only [Zd, List.isEmpty_map]
    generalize hL : (Zcl n.toNat).filter (fun e => decide (((tn.count e : Nat) : Int) < k)) = Z at hso ⊢
    have hLn : ∀ e ∈ Z, 0 ≤ e ∧ e < n := fun e he => by
      rw [← hL] at he
      have := Zdt.1 (List.mem_filter.1 he).1
      exact Zuv hn2 hn3 hn4 this
    cases Z with
    | nil =>
      simp only [List.isEmpty_nil, Bool.not_true]
      refine fin ev (Zcl n.toNat) _ _ (s5.new hso) (Zl (s5 _ _ hev4) hso) (fun z => ?_) (fun e he => by have := Zdt.1 he; exact Zuv hn2 hn3 hn4 this) rfl (fun z hz => Zie hz)
      have := congrArg List.length z
      rw [Zbt] at this; simp at this; exact Zya hn2 hn3 hn4 this
    | cons e Z =>
      simp only [List.isEmpty_cons, Bool.not_false]
      exact fin so (e :: Z) _ _ (s5.new hso) Zd (by simp) hLn rfl (fun z hz => Zie hz)
theorem Zvq (hK : (KK P).In g.b0) (N : NN g) (F_law_ends : FnG g "_law_ends" 3 Zo0) : Xu g 4 (.ref 378) Zo1 := by
  refine Xu.mono (Z1 (r := 3) (ps := ["_law_cell", "_law_sizes_here", "_law_rows", "_law_most"]) (hK 378 _ rfl) rfl (Zq (hK 377 _ rfl) rfl rfl) rfl (by intro vs h; obtain ⟨a0, a1, a2, a3, rfl⟩ := Zqw h; rfl) rfl rfl rfl (by decide +kernel)
    (Zc (Yb (Xi (Yx (Xi (Zeq (Zv (Zr (Zb 0 rfl rfl) Zg) Zg rfl) (Zeq (Zji (Zb 2 rfl rfl)) Zep))) (Yx (Zv (Zp 4 rfl (Zy N.n_len Wb) (Za (Zb 2 rfl rfl) Ze) rfl) (Zb 3 rfl rfl) rfl) Xs))) (Zc (Zj (Zx (Za (Zdr (Za4 (by decide))) (Za (Zi (Zp 5 rfl (Zy N.n_sorted Ws) (Za (Zb 2 rfl rfl) Ze) rfl) (Zr (Zr (Zb 0 rfl rfl) Zg) (Zp 4 rfl (Zy N.n_len Wb) (Za (Zb 2 rfl rfl) Ze) rfl)) (fun _ _ => rfl)) Ze))))
  Zh) Zh)
  (Zc (Zj (Zr (Zx (Za (Zdr (Za4 (by decide))) Ze)) (Zp 6 rfl F_law_ends (Za (Zr (Zb 0 rfl rfl) Zg) (Za (Zb 1 rfl rfl) (Za (Zb 2 rfl rfl) Ze))) rfl)))
  Zh))) ?_
  rintro xs σ Q E ⟨c, a, b, k, mx, ed, kvs, L, tl, ep, rfl, hed, hvals, ha1, ha2, hb1, hb2, hlen, hmx, hgo, hcome⟩
  refine Yu rfl fun K KE kret _ _ => ?_
  dsimp only [Loc.setAll]
  refine Yl fun K1 k1 r1 => ?_
  refine Xw fun KB kt kf => ?_
  have yes : ∀ σ', Sub σ σ' → kvs ≠ [] → KB true σ' := by
    intro σ' s' hne
    refine kt _ ?_
    refine Yg fun K2 r2 => ?_
    dsimp only [Za8, Ye, Zjf, Zjt, Wc, Yj, Zt, Zm, Zk, Zc6, Zb7, Yq, Loc.set, String.reduceBEq, cond_true, cond_false, List.length_cons, List.length_nil]
    simp only [Zcn, Zdv, s' _ _ hed]
    refine ⟨by simp; exact Zx9 hlen hmx, fun ks d hp _ hd => ?_⟩
    have hkl : ks.length = kvs.length := by have := hp.length_eq; simpa using this
    have hpos : (0 : Int) < (kvs.length : Int) := by have := List.length_pos_iff.mpr hne; exact Zx8 hkl this
    refine ⟨by decide, ?_⟩
    simp only [Zl (s' _ _ hed) hd]
    refine ⟨by exact Zx7 hkl hpos, ?_⟩
    obtain ⟨v, hv, hm⟩ := Zi7 (xs := ks.map V.int) (Int.fmod_nonneg_of_pos (c.fdiv 16) hpos) (by rw [List.length_map, hkl]; exact Int.fmod_lt_of_pos (c.fdiv 16) hpos)
    obtain ⟨n, hn, rfl⟩ := List.mem_map.1 hm
    refine Za1 Zd hv ⟨Yh rfl, r2 _ _ _ (r1 _ _ _ (kret _ _ _ _ (s'.new hd) (hgo n (hp.mem_iff.1 hn))))⟩
  have no : ∀ σ', Sub σ σ' → (kvs.length : Int) < mx → KB false σ' := by
    intro σ' s' hlt
    refine kf _ ?_
    dsimp only [Zan]
    refine k1 _ _ ?_
    refine Yg fun K2 r2 => ?_
    dsimp only [Za8, Ye, Wc, Yj, Zt, Zm, Zk, Zc6, Zb7, Loc.set, String.reduceBEq, cond_true, cond_false, List.length_cons, List.length_nil]
    refine ⟨Yh rfl, by decide, _, a, b, k, ed, kvs, L, tl, ep, rfl, s' _ _ hed, hvals, ha1, ha2, hb1, hb2, fun l r hl1 hl2 hr1 hr2 => ⟨Yh rfl, r2 _ _ _ (kret _ _ _ _ s' (hcome hlt l r hl1 hl2 hr1 hr2))⟩⟩
  have last : ∀ σ', Sub σ σ' → KB (decide ((kvs.length : Int) = mx)) σ' := by
    intro σ' s'
    by_cases hz : (kvs.length : Int) = mx
    · rw [decide_eq_true hz]; exact yes σ' s' (fun z => by rw [z] at hz; simp at hz; exact Zx6 hmx hz)
    · rw [decide_eq_false hz]; exact no σ' s' (by exact Zx5 hlen hz)
  have last' : ∀ σ', Sub σ σ' → (match ((kvs.length : Int) == mx) with | true => KB true σ' | false => KB false σ') := by
    intro σ' s'
    have := last σ' s'
    have e : ((kvs.length : Int) == mx) = decide ((kvs.length : Int) = mx) := by rw [Bool.eq_iff_iff]; simp
    rw [e]
    generalize decide ((kvs.length : Int) = mx) = z at this
    cases z <;> exact this
  dsimp only [Ye, Zjf, Zjt, Yj, Zt, Zm, Zk, Zs2, Zoc, Wd, Xm, Wy, Zc6, Zb7, Loc.set, String.reduceBEq, cond_true, cond_false, Zlo]
  refine ⟨by decide, ?_⟩
  cases decide (Int.fmod c 16 < 5) with
  | false =>
    simp only [hed, eqD]
    exact last' σ Sub.refl
  | true =>
    simp only
    refine ⟨ed, _, ep, rfl, hed, fun d ep' hd => ?_⟩
    cases hk : kvs with
    | nil =>
      subst hk
      simp only [List.isEmpty_nil, Bool.not_true]
      have s1 : Sub σ (σ.set d (.dictI [] ep')) := Sub.refl.new hd
      simp only [s1 _ _ hed, eqD]
      exact last' _ s1
    | cons p kvs' =>
      simp only [List.isEmpty_cons, Bool.not_false]
      exact yes _ (Sub.refl.new hd) (by rw [hk]; simp)
end
section
open PySem PySem.W PyProof.Rows
variable {g : Gr} {P : Params}
theorem Zvm (hK : (KK P).In g.b0) (N : NN g) (F_law_count : FnG g "_law_count" 6 Zff) (F_law_put : ∀ H, FnG (g.wh H) "_law_put" 6 Zt6) : Xu g 7 (.ref 359) Ztb := by
  refine Xu.mono (Z1 (r := 6) (ps := ["_law_rows", "_law_told_here", "_law_number"]) (hK 359 _ rfl) rfl (Zq (hK 358 _ rfl) rfl rfl) rfl (by intro vs h; obtain ⟨a0, a1, a2, rfl⟩ := Zpg h; rfl) rfl rfl rfl (by decide +kernel)
    (Zc (Z6 0 rfl rfl (Zp 8 rfl (Zdl N.n_dict Zfd) (Za (Zb 0 rfl rfl) Ze) rfl) (fun _ => rfl))
  (Zc (Yn (Z1y (Zb 0 rfl rfl) (Za (Zb 2 rfl rfl) Ze) rfl rfl rfl rfl) (fun _ => rfl))
  (Zc (Z6 3 rfl rfl (Zp 9 rfl F_law_count (Za (Zb 0 rfl rfl) Ze) rfl) (fun _ => rfl))
  (Zc (Yb (Y5 (Ym (Yk (k := .list) (at_ (i := 10) rfl) (N.n_isinstance) (at_ (i := 11) rfl) (N.n_list) (Zb 1 rfl rfl) rfl) (fun _ _ => rfl))) (Zc (Zj Y7)
  Zh) Zh)
  (Zc (Yo (at_ (i := 5) rfl) rfl (by decide +kernel) (Z3 (Zp 12 rfl (Zy N.n_sorted Ws) (Za (Zb 0 rfl rfl) Ze) rfl)) (.name (at_ (i := 1) rfl) rfl) (by decide +kernel) (W8 (Zv (Zi (Zi (Zb 3 rfl rfl) (Zb 1 rfl rfl) (fun _ _ => rfl)) Zg (fun _ _ => rfl)) (Zb 2 rfl rfl) rfl)) (Zb 1 rfl rfl) (fun _ _ => rfl))
  (Zc (Yb (Zv (Zp 13 rfl (Zy N.n_len Wb) (Za (Zb 1 rfl rfl) Ze) rfl) (Zp 13 rfl (Zy N.n_len Wb) (Za (Zb 5 rfl rfl) Ze) rfl) rfl) (Zc (Zj Y7)
  Zh) Zh)
  (Zc (Zkp (at_ (i := 14) rfl) (N.n_zip) (Zb 5 rfl rfl) (Zb 1 rfl rfl) rfl rfl (.tup (.cons (at_ (i := 4) rfl) rfl (.cons (at_ (i := 6) rfl) rfl .nil))) rfl (fun H => (Zc (Z6 7 rfl rfl (Zcd (Z1y (Zb 0 rfl rfl) (Za (Zb 4 rfl rfl) Ze) rfl rfl rfl rfl) Zen (Zcc Zg)) (fun _ => rfl))
  (Zc (Z6 0 rfl rfl (Zp 15 rfl (F_law_put H) (Za (Zb 0 rfl rfl) (Za (Zb 6 rfl rfl) (Za (Zb 4 rfl rfl) (Za (Zb 7 rfl rfl) (Za (Zb 3 rfl rfl) Ze))))) rfl) (fun _ => rfl))
  (Zc (Yb (Zv (Zb 0 rfl rfl) Y7 rfl) (Zc (Zj Y7)
  Zh) Zh)
  Zh)))) (fun _ _ => rfl))
  (Zc (Zj (Zb 0 rfl rfl))
  Zh))))))))) ?_
  rintro xs σ Q E ⟨rd, tb, L, S0, S', ep, k, a, b, m, log, rfl, hrd, hnd, h60, ⟨x0, hx0, rfl⟩, hp, st0, hin, hcnt, hhm, hrun, hkeys, htb, hlc, h⟩
  refine Yu rfl fun K KE kret _ _ => ?_
  dsimp only [Loc.setAll]
  have hnd0 : ((drp x0.n L).map Rw.n).Nodup := (hp.map Rw.n).nodup_iff.1 (Zg4 st0.inc)
  have hlen0 : S0.length < 60 := by rw [hp.length_eq]; exact Nat.lt_of_le_of_lt (List.length_filter_le _ _) h60
  have hdl : (drp x0.n L).length = S0.length := hp.length_eq.symm
  have hm60 : m < 60 := by have := Zac hcnt; exact Zx4 hlen0 hdl this
  refine Zo fun K1 k1 => ?_
  dsimp only [Z5, Ye, Yj, Zt, Zk, Loc.set, String.reduceBEq, cond_true, cond_false]
  refine ⟨rd, _, ep, rfl, hrd, fun rb ep1 hrb => k1 _ _ ?_⟩
  refine Zo fun K1 k1 => ?_
  dsimp only [tDo, Xf, Zga, Yj, Zt, Zk, Loc.set, String.reduceBEq, cond_true, cond_false]
  simp only [Zd, Zt5]
  refine ⟨trivial, _, Xn hnd hx0, fun ep2 => k1 _ _ ?_⟩
  rw [Zgs, Zck]
  have s1 : Sub σ (σ.set rb (.dictI (Yd (drp x0.n L)) ep2)) := Sub.refl.new hrb
  have hrb1 : (σ.set rb (.dictI (Yd (drp x0.n L)) ep2)) rb = some (.dictI (Yd (drp x0.n L)) ep2) := Zd
  generalize σ.set rb (.dictI (Yd (drp x0.n L)) ep2) = σ1 at s1 hrb1 ⊢
  refine Zo fun K1 k1 => ?_
  dsimp only [Z5, Ye, Yj, Zt, Zk, Loc.set, String.reduceBEq, cond_true, cond_false]
  refine ⟨rb, _, drp x0.n L, _, ep2, rfl, hrb1, Zdd _, by exact Zuu hlen0 hdl, fun m' hm' => k1 _ _ ?_⟩
  obtain rfl : m' = m := ((Zfj hp.symm).2 (hm' a b fun y hy => hin y (hp.mem_iff.2 hy)) |> fun q => q.uniq hcnt)
  refine Zo fun K1 k1 => ?_
  refine Xw fun KB kt kf => ?_
  dsimp only [Zqv, Zn3, Zk, Zax, Xr, Zco, Loc.set, String.reduceBEq, cond_true, cond_false]
  simp only [s1 _ _ htb, Bool.not_true]
  refine kf _ ?_
  dsimp only [Zan]
  refine k1 _ _ ?_
  refine Zo fun K1 k1 => ?_
  dsimp only [Xh, Zap, Zah, Ye, Zav, Yj, Zt, Zk, Loc.set, String.reduceBEq, cond_true, cond_false]
  refine Zfu hrb1 (ms := S0.map Rw.n) (by rw [Zcs]; exact (hp.map Rw.n).symm) (Zgw st0.inc) (by rw [Wk]; exact Zuu hlen0 hdl) fun sb hsb => ?_
  have hmapn : (S0.map Rw.n).map V.int = S0.map fun x => V.int x.n := by rw [List.map_map]; rfl
  rw [hmapn]
  simp only [Zd]
  refine ⟨nofun, Xc (fun x : Rw => V.int x.n) (fun x => decide ((m' : Int) ≤ hu x)) (fun x => V.int x.n) S0 (fun σ2 s2 => s2 _ _ Zd) (fun y hy σ2 s2 => ⟨_, fun P h => h, fun Qb hQ => ?_, fun _ σ3 s3 Qv hQ => ?_⟩) fun σ2 s2 db hdb => k1 _ _ ?_⟩
  · dsimp only [Zm, Zk, Xm, Wy, Yq, Loc.set, Loc.bare, String.reduceBEq, cond_true, cond_false]
    exact Zg2 (s2 _ _ (Zl hrb1 hsb)) (Xn hnd0 (hp.mem_iff.1 hy)) (Xp (xs := [V.int y.l, V.int y.r, V.int (hu y)]) (Z8 (by decide) rfl) (hQ _ Sub.refl))
  · dsimp only [Zk, Loc.set, Loc.bare, String.reduceBEq, cond_true, cond_false]
    exact hQ _ Sub.refl
  have hdue : ((S0.filter fun x => decide ((m' : Int) ≤ hu x)).map fun x => V.int x.n) = (log.map Zdo.k).map V.int := by
    rw [hkeys, List.map_map]
    congr 1
    refine List.filter_congr fun y hy => ?_
    have h1 := hhm y hy
    rw [Zdk (st0.hd y hy), Bool.eq_iff_iff]
    simp; exact Zx3 h1
  rw [hdue]
  have s3 := ((s1.new (o := .list (S0.map fun x => V.int x.n)) hsb).trans s2).new (o := .list ((log.map Zdo.k).map V.int)) hdb
  have hrb3 := Zl (p := .list ((log.map Zdo.k).map V.int)) (s2 _ _ (Zl (p := .list (S0.map fun x => V.int x.n)) hrb1 hsb)) hdb
  have hdb3 : (σ2.set db (.list ((log.map Zdo.k).map V.int))) db = some (.list ((log.map Zdo.k).map V.int)) := Zd
  have hdb0 : σ db = none := ((s1.new (o := .list (S0.map fun x => V.int x.n)) hsb).trans s2).none hdb
  generalize σ2.set db (.list ((log.map Zdo.k).map V.int)) = σ3 at s3 hrb3 hdb3 ⊢
  refine Zo fun K1 k1 => ?_
  refine Xw fun KB kt kf => ?_
  dsimp only [Ye, Zjf, Zjt, Yj, Zt, Zk, Xm, Wy, Loc.set, String.reduceBEq, cond_true, cond_false]
  simp only [s3 _ _ htb, hdb3, List.length_map]
  refine Zaq ?_
  simp only [BEq.rfl, Bool.not_true]
  refine kf _ ?_
  dsimp only [Zan]
  refine k1 _ _ ?_
  refine Yl fun K1 k1 r1 => ?_
  dsimp only [Zk, Loc.set, String.reduceBEq, cond_true, cond_false, Zoe]
  refine ⟨db, tb, _, _, rfl, rfl, hdb3, s3 _ _ htb, ?_⟩
  rw [Zs1]
  refine Zaf (fun xs ℓ σ' => ∀ P0 : Prop, (∀ (rest : List Zdo) (S1 L1 : List Rw) (rb : Addr) (ep : Nat), (xs = rest.map (fun e => V.tup [.int e.k, e.v])) → ((∀ e ∈ rest, e ∈ log)) → (Zhl m' S1 rest S') → (StS S1) → (S1.length = S0.length) → (S1.Perm L1) → (Sub σ σ') → (σ' db = some (.list ((log.map Zdo.k).map V.int))) → (rb ≠ db) → (σ rb = none) → (σ' rb = some (.dictI (Yd L1) ep)) → (ℓ "_law_rows" = some (.ref rb)) → (ℓ "_law_many" = some (.int m')) → P0) → P0) ?_ ?_
    (fun _ kI => kI (log) (S0) (drp x0.n L) (rb) (ep2) (rfl) (fun _ h => h) (hrun) (st0) (rfl) (hp) (s3) (hdb3) ((fun z => by rw [z, hdb3] at hrb3; cases hrb3)) (hrb) (hrb3) (rfl) (rfl))
  · intro ℓ σ' hI0
    refine hI0 _ fun rest S1 L1 rb ep h1 h2 h3 h4 h5 h6 s' h7 h8 h9 h10 e1 e2 => ?_
    obtain rfl := Xb h1
    cases h3
    refine ⟨⟨h7, s' _ _ htb⟩, k1 _ _ ?_⟩
    refine Yg fun K2 r2 => ?_
    dsimp only [Za8, Zk]
    simp only [e1]
    exact r2 _ _ _ (kret _ _ _ _ (Zgk s' h10) (h rb ep L1 h6 h9))
  · intro v xs ℓ σ' K2 k2 r2 hI0
    refine hI0 _ fun rest S1 L1 rb ep h1 h2 h3 h4 h5 h6 s' h7 h8 h9 h10 e1 e2 => ?_
    obtain ⟨e, rest, rfl, rfl, rfl⟩ := Yp h1
    refine ⟨⟨h7, s' _ _ htb⟩, ?_⟩
    simp only [Xd, Zce]
    refine ⟨rfl, ?_⟩
    obtain ⟨S2, t, ht, hk, hH, hrun2⟩ : ∃ S2 t, t ∈ S1 ∧ t.n = e.k ∧ Zbf (S1.map (Wm e.k none)) e.k t.l t.r m' e.hue e.other e.nums S2 ∧ Zhl m' S2 rest S' := by
      cases h3 with
      | cons p q w x y => exact ⟨_, _, p, q, x, y⟩
    have htL := h6.mem_iff.1 ht
    have hn1 : (L1.map Rw.n).Nodup := (h6.map Rw.n).nodup_iff.1 (Zg4 h4.inc)
    have hl1 : L1.length < 60 := by rw [← h6.length_eq, h5]; exact hlen0
    have hd1 : (drp e.k L1).length < 60 := Nat.lt_of_le_of_lt (List.length_filter_le _ _) hl1
    have hpt := Zo8 h6 hn1 htL
    rw [hk] at hpt
    have hne : ∀ x ∈ drp e.k L1, x.n ≠ e.k := fun x hx => by have := (List.mem_filter.1 hx).2; simpa using this
    obtain ⟨hT, hpn⟩ := hH.toL hpt hne
    obtain ⟨st2, hl2⟩ := h4.next ht hk hH
    have okD : OkL (drp e.k L1) := by
      refine Zlx (S := drp e.k S1) (h6.filter _) (h4.inc.filter _) (h4.pr.filter _) (fun x hx => h4.hd x (List.mem_filter.1 hx).1) (by exact Nat.lt_of_lt_of_le hd1 (by decide))
    refine Zo fun K3 k3 => ?_
    dsimp only [Z5, Xf, Zga, Yj, Zt, Zm, Zk, Zhn, Zgp, Zf2, Loc.setAll, Loc.set, String.reduceBEq, cond_true, cond_false]
    simp only [e1, h10, Zt5]
    refine ⟨trivial, Zn2 t, by rw [← hk]; exact Xn hn1 htL, fun ep1 => ?_⟩
    dsimp only [Zn2]
    refine ⟨trivial, by simp [Zbe], k3 _ _ ?_⟩
    rw [Zgs]
    have s4 : Sub σ (σ'.set rb (.dictI (Yd (drp e.k L1)) ep1)) := s'.upd h9
    have hdb4 : (σ'.set rb (.dictI (Yd (drp e.k L1)) ep1)) db = some (.list ((log.map Zdo.k).map V.int)) := by rw [Zf (Ne.symm h8)]; exact h7
    have hrb4 : (σ'.set rb (.dictI (Yd (drp e.k L1)) ep1)) rb = some (.dictI (Yd (drp e.k L1)) ep1) := Zd
    generalize σ'.set rb (.dictI (Yd (drp e.k L1)) ep1) = σ4 at s4 hdb4 hrb4 ⊢
    refine Zo fun K3 k3 => ?_
    dsimp only [Z5, Ye, Yj, Zt, Zk, Loc.set, String.reduceBEq, cond_true, cond_false]
    simp only [e1, e2, Zdo.v]
    refine ⟨rb, e.c, drp e.k L1, ep1, e.k, t.l, t.r, m', e.hue, e.other, e.nums, rfl, hrb4, okD, hne, by exact Nat.le_of_lt (Nat.lt_of_lt_of_le hm60 (by decide)), s4 _ _ (hlc e (h2 e (.head _))), hT, fun nb ep2 hnb => k3 _ _ ?_⟩
    refine Zo fun K3 k3 => ?_
    refine Xw fun KB kt kf => ?_
    dsimp only [Zm, Zk, Xm, Wy, Loc.set, String.reduceBEq, cond_true, cond_false]
    dsimp only [Zdj]
    refine kf _ ?_
    dsimp only [Zan]
    refine k3 _ _ ?_
    dsimp only [Zan]
    exact k2 _ _ (fun _ kI => kI (rest) (S2) (_) (nb) (ep2) (rfl) (fun y hy => h2 y (.tail _ hy)) (hrun2) (st2) (hl2.trans h5) (hpn) (s4.new hnb) (Zl hdb4 hnb) ((fun z => by rw [z, hdb4] at hnb; cases hnb)) (s4.none hnb) (Zd) (rfl) (e2))
end
section
open PySem PySem.W PyProof.Rows
variable {g : Gr} {P : Params}
theorem Zvj (hK : (KK P).In g.b0) (N : NN g) (F_law_whole : FnG g "_law_whole" 3 Yt) : Xu g 4 (.ref 383) Zou := by
  refine Xu.mono (Z1 (r := 3) (ps := ["_law_found", "_law_due", "_law_held", "_law_way"]) (hK 383 _ rfl) rfl (Zq (hK 382 _ rfl) rfl rfl) rfl (by intro vs h; obtain ⟨a0, a1, a2, a3, rfl⟩ := Zqw h; rfl) rfl rfl rfl (by decide +kernel)
    (Zc (Yb (Xi (Yx (Y5 (Ym (Yk (k := .list) (at_ (i := 4) rfl) (N.n_isinstance) (at_ (i := 5) rfl) (N.n_list) (Zb 0 rfl rfl) rfl) (fun _ _ => rfl))) (Yx (Zv (Zb 0 rfl rfl) (Zb 1 rfl rfl) rfl) (Yx (Y5 (Ym (Zp 6 rfl (Zy N.n_all Zcp) (Za (Y0 (by decide +kernel) (Z3 (Zb 0 rfl rfl)) (.name (at_ (i := 1) rfl) rfl) (by decide +kernel) Wa (Zp 2 rfl F_law_whole (Za (Zb 1 rfl rfl) Ze) rfl) (fun _ _ => rfl)) Ze) rfl) (fun _ _ => rfl))) Xs)))) (Zc (Zj We)
  Zh) Zh)
  (Zc (Yn (Za0 (Zb 2 rfl rfl) (Za (Zx (Za (Zb 0 rfl rfl) (Za (Zp 5 rfl (Zdl N.n_list Zgm) (Za (Zb 0 rfl rfl) Ze) rfl) Ze))) Ze) rfl rfl rfl rfl) (fun _ => rfl))
  (Zc (Yb (Zv (Zr (Zb 3 rfl rfl) Zg) Zg rfl) (Zc (Yn (Za0 (Zb 0 rfl rfl) (Za (Zb 3 rfl rfl) Ze) rfl rfl rfl rfl) (fun _ => rfl))
  (Zc (Yn (Za0 (Zi (Zi (Zb 2 rfl rfl) (Zik Zg) (fun _ _ => rfl)) Zg (fun _ _ => rfl)) (Za (Zb 3 rfl rfl) Ze) rfl rfl rfl rfl) (fun _ => rfl))
  Zh)) Zh)
  (Zc (Zj We)
  Zh))))) ?_
  rintro xs σ Q E ⟨fb, db, hb, way, ns, hs, rfl, hfb, hdb, hhb, hnl, hhl, hne, hq⟩
  refine Yu rfl fun K KE kret _ _ => ?_
  dsimp only [Loc.setAll]
  refine Zo fun K1 k1 => ?_
  refine Xw fun KB kt kf => ?_
  dsimp only [Zap, Zah, Ye, Zqv, Zn3, Y6, Zav, Yj, Zt, Zk, Zax, Xr, Zco, Zoc, Wd, Xm, Wy, Loc.set, String.reduceBEq, cond_true, cond_false]
  simp only [hfb, Bool.not_true]
  refine Zdy hfb hdb ?_
  rw [beq_self_eq_true]
  simp only [Bool.not_true]
  refine ⟨nofun, Zfp V.int (fun _ => V.bool true) hfb ns (fun i _ => ⟨_, fun P h => h, fun Qv h => ?_⟩) fun d hd => ?_⟩
  · dsimp only [Ye, Yj, Zt, Zk, Loc.set, Loc.bare, String.reduceBEq, cond_true, cond_false, Yt]
    exact ⟨i, rfl, h⟩
  refine ⟨d, ns.map fun _ => true, rfl, by rw [Zd, List.map_map]; rfl, ?_⟩
  rw [show (ns.map fun _ => true).all id = true from by rw [List.all_map]; simp]
  simp only [Bool.not_true]
  refine kf _ ?_
  dsimp only [Zan]
  refine k1 _ _ ?_
  have s1 : Sub σ (σ.set d (.list (ns.map fun _ => V.bool true))) := Sub.refl.new hd
  generalize σ.set d (.list (ns.map fun _ => V.bool true)) = σ1 at s1 ⊢
  have hfb1 := s1 _ _ hfb
  have hhb1 := s1 _ _ hhb
  refine Zo fun K5 k5 => ?_
  dsimp only [tDo, Xf, Zga, Wr, Ye, Zgj, Wc, Yj, Zt, Zk, Loc.set, String.reduceBEq, cond_true, cond_false, List.length_cons, List.length_nil]
  simp only [hhb1, Zce, hfb1]
  refine ⟨trivial, fun c hc => ⟨Yh rfl, ?_⟩⟩
  have s2 : Sub σ (σ1.set c (.list (ns.map V.int))) := s1.new hc
  have hc2 : (σ1.set c (.list (ns.map V.int))) c = some (.list (ns.map V.int)) := Zd
  have c0 : σ c = none := s1.none hc
  generalize σ1.set c (.list (ns.map V.int)) = σ2 at s2 hc2 ⊢
  have hhb2 := s2 _ _ hhb
  have hfb2 := s2 _ _ hfb
  simp only [hhb2]
  refine ⟨by simp [Xv]; exact Nat.le_trans hhl (by decide), k5 _ _ ?_⟩
  have ch : c ≠ hb := fun z => by rw [z, hhb] at c0; cases c0
  have cf : c ≠ fb := fun z => by rw [z, hfb] at c0; cases c0
  have hq7 : (hs.map Zaa ++ [V.tup [V.ref fb, V.ref c]]) = (hs ++ [(fb, c)]).map Zaa := by simp [Zaa]
  rw [hq7]
  have kp3 : ∀ y o, σ2 y = some o → y ≠ hb → (σ2.set hb (.list ((hs ++ [(fb, c)]).map Zaa))) y = some o := fun y o q z => by rw [Zf z]; exact q
  have hhb3 : (σ2.set hb (.list ((hs ++ [(fb, c)]).map Zaa))) hb = some (.list ((hs ++ [(fb, c)]).map Zaa)) := Zd
  generalize σ2.set hb (.list ((hs ++ [(fb, c)]).map Zaa)) = σ3 at kp3 hhb3 ⊢
  have hfb3 := kp3 _ _ hfb2 hne
  have hc3 := kp3 _ _ hc2 ch
  refine Zo fun K7 k7 => ?_
  have last : ∀ (ℓ7 : Loc) (σ7 : AH) (ns : List Int), (∀ y o, σ3 y = some o → y ≠ fb → y ≠ c → σ7 y = some o) → σ7 fb = some (.list (ns.map V.int)) → σ7 c = some (.list (ns.map V.int)) → K7 .next ℓ7 σ7 := by
    intro ℓ7 σ7 ns kp7 hb7 hc7
    refine k7 _ _ ?_
    refine Yg fun K8 r8 => ?_
    dsimp only [Za8, Zm]
    exact r8 _ _ _ (kret _ _ _ _ Sub.refl (hq σ7 ns c (fun y o q z1 z2 => kp7 _ _ (kp3 _ _ (s2 _ _ q) z1) z2 fun z => by rw [z, c0] at q; cases q) (kp7 _ _ hhb3 (Ne.symm hne) (Ne.symm ch)) c0 hb7 hc7))
  refine Xw fun KB kt kf => ?_
  dsimp only [Zm, Zk, Xm, Wy, Zc6, Zb7, Loc.set, String.reduceBEq, cond_true, cond_false]
  refine ⟨by decide, Zaq ?_⟩
  cases (way.fmod 3 == 1) with
  | false =>
    refine kf _ ?_
    dsimp only [Zan]
    exact last _ _ _ (fun y o q _ _ => q) hfb3 hc3
  | true =>
    refine kt _ ?_
    have hnm : ns.map V.int ++ [V.int way] = (ns ++ [way]).map V.int := by simp
    refine Zo fun K8 k8 => ?_
    dsimp only [tDo, Xf, Zga, Wr, Yj, Zt, Zk, Loc.set, String.reduceBEq, cond_true, cond_false]
    simp only [hfb3]
    refine ⟨trivial, by simp [Xv]; exact Nat.le_trans hnl (by decide), k8 _ _ ?_⟩
    rw [hnm]
    have hhb8 : (σ3.set fb (.list ((ns ++ [way]).map V.int))) hb = some (.list ((hs ++ [(fb, c)]).map Zaa)) := by rw [Zf (Ne.symm hne)]; exact hhb3
    have hc8 : (σ3.set fb (.list ((ns ++ [way]).map V.int))) c = some (.list (ns.map V.int)) := by rw [Zf cf]; exact hc3
    refine Zo fun K8 k8 => ?_
    dsimp only [tDo, Xf, Zga, Wr, Yj, Zt, Zm, Zk, Zv4, Yq, Loc.set, String.reduceBEq, cond_true, cond_false]
    refine Za1 (x := Zaa (fb, c)) hhb8 (by rw [List.map_append]; exact Zi8) (Xp (xs := [V.ref fb, V.ref c]) (Z8 (by decide) rfl) ?_)
    simp only [hc8]
    refine ⟨trivial, by simp [Xv]; exact Nat.le_trans hnl (by decide), k8 _ _ ?_⟩
    rw [hnm]
    dsimp only [Zan]
    exact last _ _ (ns ++ [way]) (fun y o q z1 z2 => by rw [Zf z2, Zf z1]; exact q) (by rw [Zf (Ne.symm cf), Zd]) Zd
theorem Ztw (hK : (KK P).In g.b0) (N : NN g) (F_law_count : FnG g "_law_count" 3 Zff) : Xu g 4 (.ref 388) Zoy := by
  refine Xu.mono (Z1 (r := 3) (ps := ["_law_rows", "_law_side"]) (hK 388 _ rfl) rfl (Zq (hK 387 _ rfl) rfl rfl) rfl (by intro vs h; obtain ⟨a0, a1, rfl⟩ := Zrn h; rfl) rfl rfl rfl (by decide +kernel)
    (Zc (Z6 2 rfl rfl (Zp 4 rfl F_law_count (Za (Zb 0 rfl rfl) Ze) rfl) (fun _ => rfl))
  (Zc (Yo (at_ (i := 3) rfl) rfl (by decide +kernel) (Zd7 (Zb 0 rfl rfl) rfl rfl) (.name (at_ (i := 1) rfl) rfl) (by decide +kernel) Wa (Zi (Zb 1 rfl rfl) (Zb 2 rfl rfl) (fun _ _ => rfl)) (fun _ _ => rfl))
  (Zc (Zj (Y0 (by decide +kernel) (Yv (at_ (i := 5) rfl) (N.n_range) Zg rfl) (.name (at_ (i := 1) rfl) rfl) (by decide +kernel) (W8 (Xi (Zeq (Zv (Zb 1 rfl rfl) (Zb 2 rfl rfl) rfl) (Zeq (Zv (Zsh (Zb 2 rfl rfl) (Za (Zb 1 rfl rfl) Ze) rfl rfl rfl rfl) (Zb 3 rfl rfl) rfl) Zep)))) (Zb 1 rfl rfl) (fun _ _ => rfl)))
  Zh)))) ?_
  rintro xs σ Q E ⟨rd, L, ep, s, a, b, m, rfl, hrd, hl, hr, hc, ha, hb, hq⟩
  refine Yu rfl fun K KE kret _ _ => ?_
  dsimp only [Loc.setAll]
  refine Zo fun K1 k1 => ?_
  dsimp only [Z5, Ye, Yj, Zt, Zk, Loc.set, String.reduceBEq, cond_true, cond_false]
  refine ⟨rd, _, L, _, ep, rfl, hrd, Zdd L, hl, fun m2 hm2 => ?_⟩
  obtain rfl : m2 = m := W7.uniq (hm2 a b hr) hc
  refine k1 _ _ ?_
  refine Zo fun K1 k1 => ?_
  dsimp only [Xh, Zav, Zk, Loc.set, String.reduceBEq, cond_true, cond_false, Zii]
  simp only [hrd]
  refine ⟨nofun, ?_⟩
  rw [Zdd]
  refine Wl (Zqx fun x => [V.int (hu x)]) (fun p => V.int (p.e s)) L (fun σ2 s2 => s2 _ _ hrd) (fun p _ => ⟨_, fun _ _ P h => h, fun σ2 s2 Qv hQ => ?_⟩) fun σ2 s2 tk htk => ?_
  · dsimp only [Zk, Yq, Loc.set, Loc.bare, String.reduceBEq, cond_true, cond_false]
    exact Xp (xs := [V.int p.l, V.int p.r, V.int (hu p)]) (x := V.int (p.e s)) (by cases s <;> exact Z8 (by decide) rfl) (hQ _ Sub.refl)
  have hmap : (L.map fun p => V.int (p.e s)) = (L.map fun p => p.e s).map V.int := by rw [List.map_map]; rfl
  rw [hmap]
  refine k1 _ _ ?_
  have s3 : Sub σ (σ2.set tk (.list ((L.map fun p => p.e s).map V.int))) := s2.new htk
  have htk3 : (σ2.set tk (.list ((L.map fun p => p.e s).map V.int))) tk = some (.list ((L.map fun p => p.e s).map V.int)) := Zd
  generalize σ2.set tk (.list ((L.map fun p => p.e s).map V.int)) = σ3 at s3 htk3 ⊢
  refine Yg fun K1 r1 => ?_
  dsimp only [Za8, Zae, Y6, Zav, Zm]
  refine ⟨by decide, Yh rfl, nofun, ?_⟩
  rw [Zat]
  refine Xc V.int (fun e => decide (e ∈ L.map fun p => p.e s) && (((L.map fun p => p.e s).count e : Int) == (m2 : Int))) V.int (Zcl 8) (fun _ _ => trivial) (fun e _ σ4 s4 => ⟨_, fun P h => h, fun Qb hQ => ?_, fun _ σ5 s5 Qv hQ => ?_⟩) fun σ4 s4 d' hd' => ?_
  · dsimp only [Xf, Zga, Zjg, Yj, Zt, Zk, Zs2, Wd, Xm, Wy, Loc.set, Loc.bare, String.reduceBEq, cond_true, cond_false]
    refine Zdx (s4 _ _ htk3) ?_
    cases hd : decide (e ∈ L.map fun p => p.e s) with
    | false => rw [hd] at hQ; exact hQ _ Sub.refl
    | true =>
      rw [hd, Bool.true_and] at hQ
      simp only [s4 _ _ htk3, Za9, Zcg]
      refine ⟨trivial, Zaq ?_⟩
      cases hz : (((L.map fun p => p.e s).count e : Int) == (m2 : Int)) with
      | false => rw [hz] at hQ; exact hQ _ Sub.refl
      | true => rw [hz] at hQ; exact hQ _ Sub.refl
  · dsimp only [Zk, Loc.set, Loc.bare, String.reduceBEq, cond_true, cond_false]
    exact hQ _ Sub.refl
  · have s5 := s3.trans s4
    rw [Zts hr hc ha hb s]
    exact r1 _ _ _ (kret _ _ _ _ (Zd6 s5) (hq d' (s5.none hd')))
end
section
open PySem PySem.W PyProof.Rows
variable {g : Gr} {P : Params}
theorem Zvi {r bd bd' : Nat} {T : TF} {ok : Int → Prop} (hbd : 70 ≤ bd) (hT : ∀ w, ok w → Int.fmod w 3 = 2 → 1 + bd' ≤ bd ∧ ∀ xs σ Q E, Zm4 CC (fun w => w = 0) bd' xs σ Q E → T xs σ Q E) (hK : (KK P).In g.b0) (N : NN g) (F_law_count : FnG g "_law_count" r Zff) (F_law_whole : FnG g "_law_whole" r Yt) (F_law_list : FnG g "_law_list" r Zou) (F_law_free : FnG g "_law_free" r Zgr) (F_law_fullest : FnG g "_law_fullest" r Zoy) (F_law_told : FnG g "_law_told" r T)
    (M_count : FnM g (KK P) CC "count" r (Zfv CC)) (M_pairs : FnM g (KK P) CC "pairs" r (Zop CC)) (M_hue_of : FnM g (KK P) CC "hue_of" r (Zox CC)) (M_of_hue : FnM g (KK P) CC "of_hue" r (Zos CC)) (M_free : FnM g (KK P) CC "free" r (Zoz CC)) (M_fullest : FnM g (KK P) CC "fullest" r (Zis CC)) : Xu g (r + 1) (.ref 393) (Zm4 CC ok bd) := by
  refine Xu.mono (Z1 (r := r) (ps := ["_law_hall", "_law_sizes_here", "_law_rows", "_law_held", "_law_ask", "_law_way"]) (hK 393 _ rfl) rfl (Zq (hK 392 _ rfl) rfl rfl) rfl (by intro vs h; obtain ⟨a0, a1, a2, a3, a4, a5, rfl⟩ := Z2q h; rfl) rfl rfl rfl (by decide +kernel)
    (Zc (Z6 6 rfl rfl (Zp 11 rfl F_law_count (Za (Zb 2 rfl rfl) Ze) rfl) (fun _ => rfl))
  (Zc (Yb (Zv (Zb 4 rfl rfl) Zg rfl) (Zc (Zj (Wt (Zdq (Zp 12 rfl F_law_whole (Za (Zs hK hC M_count (Zb 0 rfl rfl) Ze rfl rfl rfl rfl) Ze) rfl) (Zb4 (Zcr (Zs hK hC M_count (Zb 0 rfl rfl) Ze rfl rfl rfl rfl) (Zb 6 rfl rfl) rfl)))))
  Zh) Zh)
  (Zc (Yb (Zv (Zb 4 rfl rfl) Zg rfl) (Zc (Z6 7 rfl rfl (Zs hK hC M_pairs (Zb 0 rfl rfl) Ze rfl rfl rfl rfl) (fun _ => rfl))
  (Zc (Yb (Xi (Yx (Y5 (Ym (Yk (k := .list) (at_ (i := 13) rfl) (N.n_isinstance) (at_ (i := 14) rfl) (N.n_list) (Zb 7 rfl rfl) rfl) (fun _ _ => rfl))) (Yx (Zv (Zb 7 rfl rfl) (Y0 (by decide +kernel) (Z3 (Zp 15 rfl (Zy N.n_sorted Ws) (Za (Zb 2 rfl rfl) Ze) rfl)) (.name (at_ (i := 1) rfl) rfl) (by decide +kernel) Wa (Zr (Zx (Za (Zb 1 rfl rfl) Ze)) (Zi (Zb 2 rfl rfl) (Zb 1 rfl rfl) (fun _ _ => rfl))) (fun _ _ => rfl)) rfl) Xs))) (Zc (Zj We)
  Zh) Zh)
  (Zc (Yb (Y5 (Ym (Zp 16 rfl (Zy N.n_all Zcp) (Za (Y0 (by decide +kernel) (Z3 (Zb 7 rfl rfl)) (.name (at_ (i := 1) rfl) rfl) (by decide +kernel) Wa (Wt (Zdq (Yk (k := .tuple) (at_ (i := 2) rfl) (N.n_isinstance) (at_ (i := 3) rfl) (N.n_tuple) (Zb 1 rfl rfl) rfl) (Zb4 (Zp 4 rfl (Zy N.n_all Zcp) (Za (Y0 (by decide +kernel) (Z3 (Zb 1 rfl rfl)) (.name (at_ (i := 1) rfl) rfl) (by decide +kernel) Wa (Zp 2 rfl F_law_whole (Za (Zb 1 rfl rfl) Ze) rfl) (fun _ _ => rfl)) Ze) rfl)))) (fun _ _ => rfl)) Ze) rfl) (fun _ _ => rfl))) (Zc (Zj We)
  Zh) Zh)
  (Zc (Yn (Za0 (Zb 3 rfl rfl) (Za (Zx (Za (Zb 7 rfl rfl) (Za (Zp 14 rfl (Zdl N.n_list Zgm) (Za (Zb 7 rfl rfl) Ze) rfl) Ze))) Ze) rfl rfl rfl rfl) (fun _ => rfl))
  (Zc (Yb (Zv (Zr (Zb 5 rfl rfl) Zg) Zg rfl) (Zc (Yn (Za0 (Zb 7 rfl rfl) (Za Y7 Ze) rfl rfl rfl rfl) (fun _ => rfl))
  (Zc (Yn (Za0 (Zi (Zi (Zb 3 rfl rfl) (Zik Zg) (fun _ _ => rfl)) Zg (fun _ _ => rfl)) (Za Y7 Ze) rfl rfl rfl rfl) (fun _ => rfl))
  Zh)) Zh)
  (Zc (Zj (Wt (Zoh (Zcr (Zr (Zb 5 rfl rfl) Zg) Zg rfl) (Zb4 (Zp 17 rfl F_law_told (Za (Zb 0 rfl rfl) (Za (Zb 1 rfl rfl) (Za (Zb 2 rfl rfl) (Za (Zb 3 rfl rfl) (Za Zg (Za Zg Ze)))))) rfl)))))
  Zh)))))) Zh)
  (Zc (Yb (Zv (Zb 4 rfl rfl) Zg rfl) (Zc (Yo (at_ (i := 7) rfl) rfl (by decide +kernel) (Zeo (Zb 2 rfl rfl)) (.name (at_ (i := 1) rfl) rfl) (by decide +kernel) Wa (Zs hK hC M_hue_of (Zb 2 rfl rfl) (Za (Zb 1 rfl rfl) Ze) rfl rfl rfl rfl) (fun _ _ => rfl))
  (Zc (Zj (Wt (Zdq (Zcr (Zb 7 rfl rfl) (Y0 (by decide +kernel) (Zeo (Zb 2 rfl rfl)) (.name (at_ (i := 1) rfl) rfl) (by decide +kernel) Wa (Zi (Zi (Zb 2 rfl rfl) (Zb 1 rfl rfl) (fun _ _ => rfl)) Zg (fun _ _ => rfl)) (fun _ _ => rfl)) rfl) (Zb4 (Zp 16 rfl (Zy N.n_all Zcp) (Za (Y0 (by decide +kernel) (Z3 (Zb 7 rfl rfl)) (.name (at_ (i := 1) rfl) rfl) (by decide +kernel) Wa (Zp 2 rfl F_law_whole (Za (Zb 1 rfl rfl) Ze) rfl) (fun _ _ => rfl)) Ze) rfl)))))
  Zh)) Zh)
  (Zc (Yb (Zv (Zb 4 rfl rfl) Zg rfl) (Zc (Yz (Yv (at_ (i := 18) rfl) (N.n_range) (Zb 6 rfl rfl) rfl) (.name (at_ (i := 8) rfl) rfl) (Zc (Yb (Y5 (Ym (Zp 19 rfl F_law_list (Za (Zs hK hC M_of_hue (Zb 0 rfl rfl) (Za (Zb 8 rfl rfl) Ze) rfl rfl rfl rfl) (Za (Zp 15 rfl (Zy N.n_sorted Ws) (Za (Y0 (by decide +kernel) (Zeo (Zb 2 rfl rfl)) (.name (at_ (i := 1) rfl) rfl) (by decide +kernel) (W8 (Zv (Zi (Zi (Zb 3 rfl rfl) (Zb 1 rfl rfl) (fun _ _ => rfl)) Zg (fun _ _ => rfl)) (Zb 2 rfl rfl) rfl)) (Zb 1 rfl rfl) (fun _ _ => rfl)) Ze) rfl) (Za (Zb 3 rfl rfl) (Za (Zr (Zb 5 rfl rfl) (Zb 8 rfl rfl)) Ze)))) rfl) (fun _ _ => rfl))) (Zc (Zj We)
  Zh) Zh)
  Zh) (fun _ _ => rfl))
  (Zc (Zj We)
  Zh)) Zh)
  (Zc (Yb (Zv (Zb 4 rfl rfl) Zg rfl) (Zc (Yz (Yv (at_ (i := 18) rfl) (N.n_range) Zg rfl) (.name (at_ (i := 9) rfl) rfl) (Zc (Yz (Yv (at_ (i := 18) rfl) (N.n_range) (Zi (Zb 1 rfl rfl) (Zb 9 rfl rfl) (fun _ _ => rfl)) rfl) (.name (at_ (i := 10) rfl) rfl) (Zc (Z6 7 rfl rfl (Zs hK hC M_free (Zb 0 rfl rfl) (Za (Zi (Zw (Za (Zdr (Za4 (by decide))) (Za (Zdr (Za4 (by decide))) Ze))) (Zb 9 rfl rfl) (fun _ _ => rfl)) (Za (Zb 10 rfl rfl) Ze)) rfl rfl rfl rfl) (fun _ => rfl))
  (Zc (Yb (Y5 (Ym (Zp 19 rfl F_law_list (Za (Zb 7 rfl rfl) (Za (Zp 20 rfl F_law_free (Za (Zb 2 rfl rfl) (Za (Zb 9 rfl rfl) (Za (Zb 10 rfl rfl) (Za (Zb 6 rfl rfl) Ze)))) rfl) (Za (Zb 3 rfl rfl) (Za (Zr (Zb 5 rfl rfl) (Zb 10 rfl rfl)) Ze)))) rfl) (fun _ _ => rfl))) (Zc (Zj We)
  Zh) Zh)
  Zh)) (fun _ _ => rfl))
  Zh) (fun _ _ => rfl))
  (Zc (Zj We)
  Zh)) Zh)
  (Zc (Z6 7 rfl rfl (Zs hK hC M_fullest (Zb 0 rfl rfl) Ze rfl rfl rfl rfl) (fun _ => rfl))
  (Zc (Yb (Xi (Yx (Y5 (Ym (Yk (k := .tuple) (at_ (i := 13) rfl) (N.n_isinstance) (at_ (i := 21) rfl) (N.n_tuple) (Zb 7 rfl rfl) rfl) (fun _ _ => rfl))) (Yx (Zv (Zp 22 rfl (Zy N.n_len Wb) (Za (Zb 7 rfl rfl) Ze) rfl) Zg rfl) Xs))) (Zc (Zj We)
  Zh) Zh)
  (Zc (Zj (Zp 16 rfl (Zy N.n_all Zcp) (Za (Y0 (by decide +kernel) (Yv (at_ (i := 18) rfl) (N.n_range) Zg rfl) (.name (at_ (i := 1) rfl) rfl) (by decide +kernel) Wa (Zp 2 rfl F_law_list (Za (Zi (Zb 4 rfl rfl) (Zb 1 rfl rfl) (fun _ _ => rfl)) (Za (Zp 3 rfl F_law_fullest (Za (Zb 6 rfl rfl) (Za (Zb 1 rfl rfl) Ze)) rfl) (Za (Zb 5 rfl rfl) (Za (Zr (Zb 7 rfl rfl) (Zb 1 rfl rfl)) Ze)))) rfl) (fun _ _ => rfl)) Ze) rfl))
  Zh)))))))))) ?_
  rintro xs σ Q E ⟨x, rd, hb, D, m, L, ep, kk, ask, way, hs, rfl, H, W, h64, hrd, hp, hhb, hsl, nfh, hok, hq⟩
  refine Yu rfl fun K KE kret _ _ => ?_
  dsimp only [Loc.setAll]
  have hi := W.good.inc
  have okl := W.okL hp h64
  have ha8 := W.a8
  have hb8 := W.b8
  have hLl : L.length = D.T.length := by rw [← hp.length_eq]; simp [HD.S]
  have hm64 : m < 64 := Nat.lt_of_le_of_lt (Zac W.good.cnt) (by simpa [HD.S] using h64)
  have hcl : W7 L D.a D.b m := (Zfj hp.symm).1 W.good.cnt
  have hrl : InR L D.a D.b := fun y hy => W.good.inr y (hp.mem_iff.2 hy)
  have hlen : (Yd L).length = D.T.length := by rw [Wk, hLl]
  have hkeys : ((Yd L).map (·.1)).Perm (D.S.map Rw.n) := by rw [Zcs]; exact (hp.map Rw.n).symm
  refine Zo fun K1 k1 => ?_
  dsimp only [Z5, Ye, Yj, Zt, Zk, Loc.set, String.reduceBEq, cond_true, cond_false]
  refine ⟨rd, _, L, _, ep, rfl, hrd, Zdd L, by exact Zti h64 hLl hlen, fun m2 hm2 => ?_⟩
  obtain rfl : m2 = m := W7.uniq (hm2 D.a D.b hrl) hcl
  refine k1 _ _ ?_
  refine Yl fun K1 k1 r1 => ?_
  refine Xw fun KB kt kf => ?_
  dsimp only [Zm, Zk, Xm, Wy, Loc.set, String.reduceBEq, cond_true, cond_false]
  refine Zaq ?_
  cases (ask == 0) with
  | true =>
    refine kt _ ?_
    refine Yg fun K2 r2 => ?_
    dsimp only [Za8, Ye, Yj, Zt, Zk, Xr, Zsf, Wy, Zs3, Loc.set, String.reduceBEq, cond_true, cond_false, Yy, Yt]
    refine ⟨H.instOf (by decide +kernel), x, D, rfl, H, hi, h64, by exact Zc7 ha8, by exact Zev ha8, by exact Zc7 hb8, by exact Zev hb8, fun m1 hm1 => ⟨_, rfl, ?_⟩⟩
    refine ⟨H.instOf (by decide +kernel), x, D, rfl, H, hi, h64, by exact Zc7 ha8, by exact Zev ha8, by exact Zc7 hb8, by exact Zev hb8, fun m1 hm1 => Zaq ?_⟩
    obtain rfl : m1 = m2 := hm1.uniq W.good.cnt
    rw [beq_self_eq_true]
    exact r2 _ _ _ (r1 _ _ _ (kret _ _ _ _ Sub.refl (hq σ hs (.refl hhb))))
  | false =>
  refine kf _ ?_
  dsimp only [Zan]
  refine k1 _ _ ?_
  refine Yl fun K1 k1 r1 => ?_
  refine Xw fun KB kt kf => ?_
  dsimp only [Zm, Zk, Xm, Wy, Loc.set, String.reduceBEq, cond_true, cond_false]
  refine Zaq ?_
  cases (ask == 1) with
  | true =>
    refine kt _ ?_
    refine Zo fun K2 k2 => ?_
    dsimp only [Z5, Yj, Zk, Loc.set, String.reduceBEq, cond_true, cond_false, Yy]
    refine ⟨H.instOf (by decide +kernel), x, D, rfl, H, hi, h64, fun pb hpb => k2 _ _ ?_⟩
    rw [Znf, show (D.T.map (·.1)).map Zuo = (D.S.map Zf7).map Zet from Zte W.hued]
    have s1 : Sub σ (σ.set pb (.list ((D.S.map Zf7).map Zet))) := Sub.refl.new hpb
    have hpb1 : (σ.set pb (.list ((D.S.map Zf7).map Zet))) pb = some (.list ((D.S.map Zf7).map Zet)) := Zd
    generalize σ.set pb (.list ((D.S.map Zf7).map Zet)) = σ1 at s1 hpb1 ⊢
    refine Zo fun K2 k2 => ?_
    refine Xw fun KB kt kf => ?_
    dsimp only [Zap, Zah, Ye, Zqv, Zn3, Y6, Zav, Yj, Zt, Zk, Zax, Xr, Zco, Zoc, Wd, Xm, Wy, Loc.set, String.reduceBEq, cond_true, cond_false]
    simp only [hpb1, Bool.not_true]
    refine Zfu (s1 _ _ hrd) hkeys (Zgw hi) (by exact Zx2 h64 hLl hlen) fun sb hsb => ?_
    have hmapn : (D.S.map Rw.n).map V.int = D.S.map fun x => V.int x.n := by rw [List.map_map]; rfl
    rw [hmapn]
    simp only [Zd]
    refine ⟨nofun, Wl (fun x : Rw => V.int x.n) (fun x => Zet (Zf7 x)) D.S (fun σ' s' => s' _ _ Zd) (fun y hy => ⟨_, fun _ _ P h => h, fun σ2 s2 Qv hQ => ?_⟩) fun σ2 s2 db hdb => ?_⟩
    · dsimp only [Wc, Yj, Zt, Zk, Zc6, Zb7, Yq, Loc.set, Loc.bare, String.reduceBEq, cond_true, cond_false, List.length_cons, List.length_nil]
      refine ⟨Yh rfl, Zg2 (s2 _ _ (Zl (s1 _ _ hrd) hsb)) (Xn okl.nd (hp.mem_iff.1 hy)) ?_⟩
      dsimp only [Zn2]
      exact ⟨Yh rfl, hQ _ Sub.refl⟩
    have hmap : (D.S.map fun x => Zet (Zf7 x)) = (D.S.map Zf7).map Zet := by rw [List.map_map]; rfl
    rw [hmap]
    have s3 : Sub σ1 (σ2.set db (.list ((D.S.map Zf7).map Zet))) := ((Sub.refl.new hsb).trans s2).new hdb
    refine Zr4 (s3 _ _ hpb1) Zd ?_
    rw [beq_self_eq_true]
    generalize σ2.set db (.list ((D.S.map Zf7).map Zet)) = σ3 at s3 ⊢
    refine kf _ ?_
    dsimp only [Zan]
    refine k2 _ _ ?_
    refine Zo fun K2 k2 => ?_
    refine Xw fun KB kt kf => ?_
    dsimp only [Zap, Zah, Ye, Y6, Zav, Yj, Zt, Zk, Zax, Xr, Zco, Loc.set, String.reduceBEq, cond_true, cond_false]
    simp only [s3 _ _ hpb1]
    refine ⟨nofun, Wl Zet (fun _ => V.bool true) (D.S.map Zf7) (fun σ' s' => s' _ _ (s3 _ _ hpb1)) (fun y hy => ⟨_, fun _ _ P h => h, fun σ4 s4 Qv hQ => ?_⟩) fun σ4 s4 ab hab => ?_⟩
    · dsimp only [Zap, Zah, Ye, Zqv, Zn3, Y6, Zav, Yj, Zt, Zk, Xr, Zs3, Loc.set, Loc.bare, String.reduceBEq, cond_true, cond_false]
      dsimp only [Zet]
      refine ⟨nofun, Zfp V.int (fun _ => V.bool true) trivial y (fun i _ => ⟨_, fun P h => h, fun Qv h => ?_⟩) fun d hd => ?_⟩
      · dsimp only [Ye, Yj, Zt, Zk, Loc.set, Loc.bare, String.reduceBEq, cond_true, cond_false, Yt]
        exact ⟨i, rfl, h⟩
      refine ⟨d, y.map fun _ => true, rfl, by rw [Zd, List.map_map]; rfl, ?_⟩
      rw [Zgg]
      exact hQ _ (Sub.refl.new hd)
    refine ⟨ab, (D.S.map Zf7).map fun _ => true, rfl, by rw [Zd, List.map_map (g := V.bool)]; rfl, ?_⟩
    rw [Zgg]
    have s5 : Sub σ1 (σ4.set ab (.list ((D.S.map Zf7).map fun _ => V.bool true))) := (s3.trans s4).new hab
    generalize σ4.set ab (.list ((D.S.map Zf7).map fun _ => V.bool true)) = σ5 at s5 ⊢
    refine kf _ ?_
    dsimp only [Zan]
    refine k2 _ _ ?_
    have hpb5 := s5 _ _ hpb1
    have s05 := s1.trans s5
    refine Zo fun K5 k5 => ?_
    dsimp only [tDo, Xf, Zga, Wr, Ye, Zgj, Wc, Yj, Zt, Zk, Loc.set, String.reduceBEq, cond_true, cond_false, List.length_cons, List.length_nil]
    simp only [s05 _ _ hhb, Zce, hpb5]
    refine ⟨trivial, fun c hc => ⟨Yh rfl, ?_⟩⟩
    have s6 : Sub σ (σ5.set c (.list ((D.S.map Zf7).map Zet))) := s05.new hc
    have hpb6 := Zl (p := .list ((D.S.map Zf7).map Zet)) hpb5 hc
    have hc6 : (σ5.set c (.list ((D.S.map Zf7).map Zet))) c = some (.list ((D.S.map Zf7).map Zet)) := Zd
    have c0 : σ c = none := s05.none hc
    have pc : pb ≠ c := fun z => by rw [z, hc] at hpb5; cases hpb5
    generalize σ5.set c (.list ((D.S.map Zf7).map Zet)) = σ6 at s6 hpb6 hc6 ⊢
    simp only [s6 _ _ hhb]
    refine ⟨by simp [Xv]; exact Zx1 hbd hsl, k5 _ _ ?_⟩
    have ch : c ≠ hb := fun z => by rw [z, hhb] at c0; cases c0
    have ph : pb ≠ hb := fun z => by rw [z, hhb] at hpb; cases hpb
    have hq7 : (hs.map Zaa ++ [V.tup [V.ref pb, V.ref c]]) = (hs ++ [(pb, c)]).map Zaa := by simp [Zaa]
    rw [hq7]
    have kp7 : ∀ y o, σ6 y = some o → y ≠ hb → (σ6.set hb (.list ((hs ++ [(pb, c)]).map Zaa))) y = some o := fun y o q z => by rw [Zf z]; exact q
    have hhb7 : (σ6.set hb (.list ((hs ++ [(pb, c)]).map Zaa))) hb = some (.list ((hs ++ [(pb, c)]).map Zaa)) := Zd
    generalize σ6.set hb (.list ((hs ++ [(pb, c)]).map Zaa)) = σ7 at kp7 hhb7 ⊢
    have hpb7 := kp7 _ _ hpb6 ph
    have hc7 := kp7 _ _ hc6 ch
    refine Zo fun K7 k7 => ?_
    have last : ∀ (ℓ8 : Loc) (σ8 : AH) (l : List V) (ds : List PyData), Zsy l ds → (∀ y o, σ7 y = some o → y ≠ pb → y ≠ c → σ8 y = some o) → σ8 pb = some (.list l) → σ8 c = some (.list l) → ℓ8 "_law_hall" = some (.ref x) → ℓ8 "_law_sizes_here" = some (.tup [.int D.a, .int D.b, .int kk]) → ℓ8 "_law_rows" = some (.ref rd) → ℓ8 "_law_held" = some (.ref hb) → ℓ8 "_law_way" = some (.int way) → K7 .next ℓ8 σ8 := by
      intro ℓ8 σ8 l ds F kp8 hb8' hc8 e1 e2 e3 e4 e5
      have G : Zd3 σ σ8 hb hs (hs ++ [(pb, c)]) (0 + 1) := .one Sub.refl hhb hpb (fun y o q z1 z2 => kp8 _ _ (kp7 _ _ (s6 _ _ q) z1) z2 fun z => by rw [z, c0] at q; cases q) (kp8 _ _ hhb7 (Ne.symm ph) (Ne.symm ch)) c0 F hb8' hc8
      refine k7 _ _ ?_
      refine Yg fun K8 r8 => ?_
      dsimp only [Za8, Ye, Yj, Zt, Zm, Zk, Xr, Zsf, Wy, Zc6, Zb7, tOr]
      simp only [e1, e2, e3, e4, e5]
      refine ⟨by decide, ?_⟩
      cases hw : decide (way.fmod 3 < 2) with
      | true => exact r8 _ _ _ (r1 _ _ _ (kret _ _ _ _ Sub.refl (hq _ _ (G.trans (.refl G.has) (k := 0) (by exact Zx0 hbd)))))
      | false =>
        have w1 := Int.fmod_lt_of_pos way (show (0 : Int) < 3 by decide)
        have w2 := of_decide_eq_false hw
        obtain ⟨t1, t2⟩ := hT way hok (by exact Zxz w1 w2)
        have rdhb : rd ≠ hb := fun z => by rw [z, hhb] at hrd; cases hrd
        exact t2 _ _ _ _ ⟨x, rd, hb, D, m2, L, ep, kk, 1, 0, hs ++ [(pb, c)], rfl, H.kept G.keep hhb nfh, W, h64, G.keep _ _ hrd rdhb, hp, G.has, by simp; exact Zxy hsl t1, nfh, rfl, fun σ9 hs9 G9 => r8 _ _ _ (r1 _ _ _ (kret _ _ _ _ Sub.refl (hq _ _ (G.trans G9 (by exact Zxx t1)))))⟩
    refine Xw fun KB kt kf => ?_
    dsimp only [Zm, Zk, Xm, Wy, Zc6, Zb7, Loc.set, String.reduceBEq, cond_true, cond_false]
    refine ⟨by decide, ?_⟩
    cases decide (0 < way.fmod 3) with
    | false =>
      refine kf _ ?_
      dsimp only [Zan]
      exact last _ _ _ _ (Zpu _) (fun y o q _ _ => q) hpb7 hc7 rfl rfl rfl rfl rfl
    | true =>
      refine kt _ ?_
      refine Zo fun K8 k8 => ?_
      dsimp only [tDo, Xf, Zga, Wr, Yj, Zt, Zm, Zk, Loc.set, String.reduceBEq, cond_true, cond_false]
      simp only [hpb7]
      have hSl : D.S.length = D.T.length := by simp [HD.S]
      refine ⟨trivial, by simp [Xv]; exact Zut h64 hLl hlen hSl, k8 _ _ ?_⟩
      have hhb8 : (σ7.set pb (.list ((D.S.map Zf7).map Zet ++ [V.none]))) hb = some (.list ((hs ++ [(pb, c)]).map Zaa)) := by rw [Zf (Ne.symm ph)]; exact hhb7
      have hc8 : (σ7.set pb (.list ((D.S.map Zf7).map Zet ++ [V.none]))) c = some (.list ((D.S.map Zf7).map Zet)) := by rw [Zf (Ne.symm pc)]; exact hc7
      refine Zo fun K8 k8 => ?_
      dsimp only [tDo, Xf, Zga, Wr, Yj, Zt, Zm, Zk, Zv4, Yq, Loc.set, String.reduceBEq, cond_true, cond_false]
      refine Za1 (x := Zaa (pb, c)) hhb8 (by rw [List.map_append]; exact Zi8) (Xp (xs := [V.ref pb, V.ref c]) (Z8 (by decide) rfl) ?_)
      simp only [hc8]
      refine ⟨trivial, by simp [Xv]; exact Zut h64 hLl hlen hSl, k8 _ _ ?_⟩
      dsimp only [Zan]
      exact last _ _ _ _ (Zh3 _) (fun y o q z1 z2 => by rw [Zf z2, Zf z1]; exact q) (by rw [Zf pc, Zd]) Zd rfl rfl rfl rfl rfl
  | false =>
  refine kf _ ?_
  dsimp only [Zan]
  refine k1 _ _ ?_
  refine Yl fun K1 k1 r1 => ?_
  refine Xw fun KB kt kf => ?_
  dsimp only [Zm, Zk, Xm, Wy, Loc.set, String.reduceBEq, cond_true, cond_false]
  refine Zaq ?_
  have hks : ((Yd L).map fun p => V.int p.1) = L.map fun x => V.int x.n := by unfold Yd; rw [List.map_map]; rfl
  have hmu : (L.map fun x => V.int (hu x)) = (L.map hu).map V.int := by rw [List.map_map]; rfl
  cases (ask == 2) with
  | true =>
    refine kt _ ?_
    refine Zo fun K2 k2 => ?_
    dsimp only [Xh, Zav, Zk, Loc.set, String.reduceBEq, cond_true, cond_false, Zmy]
    simp only [hrd]
    refine ⟨nofun, ?_⟩
    rw [hks]
    refine Wl (fun x : Rw => V.int x.n) (fun x => V.int (hu x)) L (fun σ7 s7 => s7 _ _ hrd) (fun y hy => ⟨_, fun _ _ P h => h, fun σ7 s7 Qv hQ => ?_⟩) fun σ7 s7 ab hab => k2 _ _ ?_
    · have H7 := H.sub s7
      have hyS := hp.mem_iff.2 hy
      obtain ⟨t, ht, rfl⟩ := Zpe hyS
      dsimp only [Yj, Zt, Zk, Loc.set, Loc.bare, String.reduceBEq, cond_true, cond_false, Yy]
      refine ⟨H7.instOf (by decide +kernel), x, D, t, rfl, ht, H7, hi, ?_⟩
      rw [Zdk (W.hued t.1 hyS)]
      exact hQ _ Sub.refl
    rw [hmu]
    have s8 : Sub σ (σ7.set ab (.list ((L.map hu).map V.int))) := s7.new hab
    have hab8 : (σ7.set ab (.list ((L.map hu).map V.int))) ab = some (.list ((L.map hu).map V.int)) := Zd
    generalize σ7.set ab (.list ((L.map hu).map V.int)) = σ8 at s8 hab8 ⊢
    refine Yg fun K2 r2 => ?_
    dsimp only [Za8, Zap, Zah, Ye, Y6, Zav, Yj, Zt, Zk, Xr, Zsf, Wy, Zs3, Loc.set, String.reduceBEq, cond_true, cond_false, Zmy]
    simp only [s8 _ _ hrd]
    refine ⟨nofun, ?_⟩
    rw [hks]
    refine Wl (fun x : Rw => V.int x.n) (fun x => V.int (hu x)) L (fun σ9 s9 => s9 _ _ (s8 _ _ hrd)) (fun y hy => ⟨_, fun _ _ P h => h, fun σ9 s9 Qv hQ => ?_⟩) fun σ9 s9 cb hcb => ?_
    · dsimp only [Zm, Zk, Yq, Loc.set, Loc.bare, String.reduceBEq, cond_true, cond_false]
      refine Zg2 (s9 _ _ (s8 _ _ hrd)) (Xn okl.nd hy) ?_
      dsimp only [Zn2]
      exact Xp (xs := [V.int y.l, V.int y.r, V.int (hu y)]) (Z8 (by decide) rfl) (hQ _ Sub.refl)
    rw [hmu]
    have hab9 := Zl (p := .list ((L.map hu).map V.int)) (s9 _ _ hab8) hcb
    refine Zdy hab9 Zd ?_
    rw [beq_self_eq_true]
    have s10 := (s8.trans s9).new (o := .list ((L.map hu).map V.int)) hcb
    generalize σ9.set cb (.list ((L.map hu).map V.int)) = σ10 at s10 hab9 ⊢
    simp only [hab9]
    refine ⟨nofun, Zfp V.int (fun _ => V.bool true) hab9 (L.map hu) (fun i _ => ⟨_, fun P h => h, fun Qv h => ?_⟩) fun d hd => ?_⟩
    · dsimp only [Ye, Yj, Zt, Zk, Loc.set, Loc.bare, String.reduceBEq, cond_true, cond_false, Yt]
      exact ⟨i, rfl, h⟩
    refine ⟨d, (L.map hu).map fun _ => true, rfl, by rw [Zd, List.map_map (g := V.bool)]; rfl, ?_⟩
    rw [Zgg]
    exact r2 _ _ _ (r1 _ _ _ (kret _ _ _ _ (s10.new hd) (hq σ hs (.refl hhb))))
  | false =>
  refine kf _ ?_
  dsimp only [Zan]
  refine k1 _ _ ?_
  refine Yl fun K1 k1 r1 => ?_
  refine Xw fun KB kt kf => ?_
  dsimp only [Zm, Zk, Xm, Wy, Loc.set, String.reduceBEq, cond_true, cond_false]
  refine Zaq ?_
  have rdhb : rd ≠ hb := fun z => by rw [z, hhb] at hrd; cases hrd
  cases (ask == 3) with
  | true =>
    refine kt _ ?_
    refine Yl fun K2 k2 r2 => ?_
    dsimp only [Zgb, Zae, Zk, Loc.set, String.reduceBEq, cond_true, cond_false]
    refine ⟨by exact Zxw hm64, by simp [Xv]; exact Nat.le_of_lt (Nat.lt_of_lt_of_le hm64 (by decide)), nofun, ?_⟩
    refine Ww (fun i ℓ σ' => ∀ P0 : Prop, (∀ hs', (Zd3 σ σ' hb hs hs' i) → (ℓ "_law_hall" = some (.ref x)) → (ℓ "_law_rows" = some (.ref rd)) → (ℓ "_law_held" = some (.ref hb)) → (ℓ "_law_way" = some (.int way)) → P0) → P0) ?_ ?_ (fun _ kI => kI (hs) (.refl hhb) (rfl) (rfl) (rfl) (rfl))
    · intro ℓ σ' hI0
      refine hI0 _ fun hs' G e1 e2 e3 e4 => ?_
      refine ⟨trivial, k2 _ _ ?_⟩
      refine Yg fun K3 r3 => ?_
      dsimp only [Za8, Zm]
      exact r3 _ _ _ (r1 _ _ _ (kret _ _ _ _ Sub.refl (hq _ _ (G.trans (.refl G.has) (k := 0) (by exact Zxv hbd hm64)))))
    · intro i ℓ σ' K3 hi3 k3 r3 hI0
      refine hI0 _ fun hs' G e1 e2 e3 e4 => ?_
      have him : i < m2 := by exact Zxu hm64 hi3
      refine ⟨trivial, ?_⟩
      dsimp only [Xd]
      have H' := H.kept G.keep hhb nfh
      have hrd' := G.keep _ _ hrd rdhb
      refine Zo fun K4 k4 => ?_
      refine Xw fun KB kt kf => ?_
      dsimp only [Ye, Y6, Zav, Yj, Zt, Zk, Zax, Xr, Zco, Zc6, Zb7, Loc.set, String.reduceBEq, cond_true, cond_false, Yy, Zmy]
      simp only [e1, e2, e3, e4]
      refine ⟨H'.instOf (by decide +kernel), x, D, m2, _, rfl, H', W, h64, by exact Zwk, by exact Zuz him, fun fb hfb => ?_⟩
      have hmf : ((Zfh D.S i).map fun x => V.int x.n) = ((Zfh D.S i).map Rw.n).map V.int := by rw [List.map_map]; rfl
      rw [hmf]
      have s1 : Sub σ' (σ'.set fb (.list (((Zfh D.S i).map Rw.n).map V.int))) := Sub.refl.new hfb
      have hfb1 : (σ'.set fb (.list (((Zfh D.S i).map Rw.n).map V.int))) fb = some (.list (((Zfh D.S i).map Rw.n).map V.int)) := Zd
      generalize σ'.set fb (.list (((Zfh D.S i).map Rw.n).map V.int)) = σ1 at s1 hfb1 ⊢
      simp only [s1 _ _ hrd']
      refine ⟨nofun, ?_⟩
      rw [hks]
      refine Xc (fun x : Rw => V.int x.n) (fun x => hu x == (i : Int)) (fun x => V.int x.n) L (fun σ2 s2 => s2 _ _ (s1 _ _ hrd')) (fun y hy σ2 s2 => ⟨_, fun P h => h, fun Qb hQ => ?_, fun _ σ3 s3 Qv hQ => ?_⟩) fun σ2 s2 lb hlb => ?_
      · dsimp only [Zm, Zk, Xm, Wy, Yq, Loc.set, Loc.bare, String.reduceBEq, cond_true, cond_false]
        simp only [e2]
        refine Zg2 (s2 _ _ (s1 _ _ hrd')) (Xn okl.nd hy) ?_
        dsimp only [Zn2]
        exact Xp (xs := [V.int y.l, V.int y.r, V.int (hu y)]) (Z8 (by decide) rfl) (Zaq (hQ _ Sub.refl))
      · dsimp only [Zk, Loc.set, Loc.bare, String.reduceBEq, cond_true, cond_false]
        exact hQ _ Sub.refl
      have hml : ((L.filter fun x => hu x == (i : Int)).map fun x => V.int x.n) = ((L.filter fun x => hu x == (i : Int)).map Rw.n).map V.int := by rw [List.map_map]; rfl
      rw [hml]
      have hfl := List.length_filter_le (fun x => hu x == (i : Int)) L
      have hpm := Znj hp W.hued i
      refine Zij Zd hpm ((Zgw hi).sublist (List.filter_sublist.map _)) (by simp only [List.length_map]; exact Zxt h64 hLl hlen hfl) fun db hdb => ?_
      have s3 := (s1.trans s2).new (o := .list (((L.filter fun x => hu x == (i : Int)).map Rw.n).map V.int)) hlb
      have hfb3 := Zl (p := .list (((L.filter fun x => hu x == (i : Int)).map Rw.n).map V.int)) (s2 _ _ hfb1) hlb
      have s4 := s3.new (o := .list (((Zfh D.S i).map Rw.n).map V.int)) hdb
      have hfb4 := Zl (p := .list (((Zfh D.S i).map Rw.n).map V.int)) hfb3 hdb
      have f0 : fb ≠ hb := fun z => by rw [z, G.has] at hfb; cases hfb
      have hpl := hpm.length_eq
      simp only [List.length_map] at hpl
      have gl := G.len
      refine ⟨fb, db, hb, _, _, hs', rfl, hfb4, Zd, s4 _ _ G.has, by simp only [List.length_map]; exact Zxs h64 hLl hlen hfl hpl, by exact Zxr hbd hsl hm64 him gl, f0, fun σ5 ns' cb kp5 hhb5 c0 hf5 hc5 => ?_⟩
      refine kf _ ?_
      dsimp only [Zan]
      refine k4 _ _ (k3 _ _ (fun _ kI => kI (_) (G.trans (.one s4 G.has hfb kp5 hhb5 c0 (Ze2 _) hf5 hc5 (n := 0)) (by exact Zxq)) (e1) (e2) (e3) (e4)))
  | false =>
  refine kf _ ?_
  dsimp only [Zan]
  refine k1 _ _ ?_
  refine Yl fun K1 k1 r1 => ?_
  refine Xw fun KB kt kf => ?_
  dsimp only [Zm, Zk, Xm, Wy, Loc.set, String.reduceBEq, cond_true, cond_false]
  refine Zaq ?_
  cases (ask == 4) with
  | true =>
    refine kt _ ?_
    refine Yl fun K2 k2 r2 => ?_
    dsimp only [Zgb, Zae, Zm]
    refine ⟨by decide, Yh rfl, nofun, ?_⟩
    refine Ww (fun i ℓ σ' => ∀ P0 : Prop, (∀ hs', (Zd3 σ σ' hb hs hs' (8 * i)) → (ℓ "_law_hall" = some (.ref x)) → (ℓ "_law_rows" = some (.ref rd)) → (ℓ "_law_held" = some (.ref hb)) → (ℓ "_law_way" = some (.int way)) → (ℓ "_law_sizes_here" = some (.tup [.int D.a, .int D.b, .int kk])) → (ℓ "_law_many" = some (.int m2)) → P0) → P0) ?_ ?_ (fun _ kI => kI (hs) (.refl hhb) (rfl) (rfl) (rfl) (rfl) (rfl) (rfl))
    · intro ℓ σ' hI0
      refine hI0 _ fun hs' G e1 e2 e3 e4 e5 e6 => ?_
      refine ⟨trivial, k2 _ _ ?_⟩
      refine Yg fun K3 r3 => ?_
      dsimp only [Za8, Zm]
      have G : Zd3 σ σ' hb hs hs' (8 * 2) := G
      exact r3 _ _ _ (r1 _ _ _ (kret _ _ _ _ Sub.refl (hq _ _ (G.trans (.refl G.has) (k := 0) (by exact Zxp hbd)))))
    · intro i ℓ σ' K3 hi3 k3 r3 hI0
      refine hI0 _ fun hs' G e1 e2 e3 e4 e5 e6 => ?_
      have hi2 : i < 2 := hi3
      obtain ⟨s, hsi⟩ : ∃ s : Bool, (i : Int) = sI s := by
        rcases (show i = 0 ∨ i = 1 by exact Zre hi2) with rfl | rfl
        · exact ⟨false, rfl⟩
        · exact ⟨true, rfl⟩
      refine ⟨trivial, ?_⟩
      dsimp only [Xd]
      rw [hsi]
      have hsz : atV [V.int D.a, V.int D.b, V.int kk] (sI s) = some (.int (Zb3 D.a D.b s)) := by cases s <;> exact Z8 (by decide) rfl
      have hsp : 1 ≤ Zb3 D.a D.b s ∧ Zb3 D.a D.b s ≤ 8 := by cases s <;> assumption
      have hsd : atV [V.str (Str.ofString "left"), V.str (Str.ofString "right")] (sI s) = some (.str (Zb8 s)) := by cases s <;> exact Z8 (by decide) rfl
      refine Zo fun K4 k4 => ?_
      dsimp only [Zgb, Zae, Zk, Yq, Loc.set, String.reduceBEq, cond_true, cond_false]
      simp only [e5]
      refine Xp hsz ⟨by exact Zc7 hsp, by simp [Xv]; exact Ztj hsp, nofun, ?_⟩
      refine Ww (fun j ℓ σ' => ∀ P0 : Prop, (∀ hs', (Zd3 σ σ' hb hs hs' (8 * i + j)) → (ℓ "_law_hall" = some (.ref x)) → (ℓ "_law_rows" = some (.ref rd)) → (ℓ "_law_held" = some (.ref hb)) → (ℓ "_law_way" = some (.int way)) → (ℓ "_law_sizes_here" = some (.tup [.int D.a, .int D.b, .int kk])) → (ℓ "_law_many" = some (.int m2)) → (ℓ "_law_side" = some (.int (sI s))) → P0) → P0) ?_ ?_ (fun _ kI => kI (hs') (G) (e1) (e2) (e3) (e4) (e5) (e6) (rfl))
      · intro ℓ5 σ5 hI0
        refine hI0 _ fun hs5 G5 f1 f2 f3 f4 f5 f6 f7 => ?_
        refine ⟨trivial, k4 _ _ (k3 _ _ (fun _ kI => kI (hs5) (G5.trans (.refl G5.has) (k := 0) (by exact Zxo hsp)) (f1) (f2) (f3) (f4) (f5) (f6)))⟩
      · intro j ℓ5 σ5 K5 hj k5 r5 hI0
        refine hI0 _ fun hs5 G5 f1 f2 f3 f4 f5 f6 f7 => ?_
        have hj8 : (j : Int) < Zb3 D.a D.b s := by exact Zxn hsp hj
        refine ⟨trivial, ?_⟩
        dsimp only [Xd]
        have H5 := H.kept G5.keep hhb nfh
        have hrd5 := G5.keep _ _ hrd rdhb
        refine Zo fun K6 k6 => ?_
        dsimp only [Z5, Zay, Yj, Zt, Zm, Zk, Yq, Loc.set, String.reduceBEq, cond_true, cond_false, List.length_cons, List.length_nil, Yy]
        simp only [f1, f7]
        refine ⟨H5.instOf (by decide +kernel), Yh rfl, fun lb hlb => Za1 Zd hsd ?_⟩
        have s1 := Sub.refl.new (o := .list [V.str (Str.ofString "left"), V.str (Str.ofString "right")]) hlb
        generalize σ5.set lb (.list [V.str (Str.ofString "left"), V.str (Str.ofString "right")]) = σ6 at s1 ⊢
        refine ⟨x, D, m2, s, (j : Int), rfl, H5.sub s1, W, h64, by exact Zwk, hj8, fun fb hfb => k6 _ _ ?_⟩
        have s2 := s1.new (o := .list ((Z0 D.S s j m2).map V.int)) hfb
        have hfb2 : (σ6.set fb (.list ((Z0 D.S s j m2).map V.int))) fb = some (.list ((Z0 D.S s j m2).map V.int)) := Zd
        generalize σ6.set fb (.list ((Z0 D.S s j m2).map V.int)) = σ7 at s2 hfb2 ⊢
        refine Zo fun K6 k6 => ?_
        refine Xw fun KB kt kf => ?_
        dsimp only [Ye, Yj, Zt, Zk, Zax, Xr, Zco, Zc6, Zb7, Loc.set, String.reduceBEq, cond_true, cond_false]
        simp only [f2, f3, f4, f6, f7]
        refine ⟨rd, L, ep, s, (j : Int), m2, rfl, s2 _ _ hrd5, okl, by exact Nat.le_of_lt (Nat.lt_of_lt_of_le hm64 (by decide)), fun db hdb => ?_⟩
        rw [← Zng hp]
        have s3 := s2.new (o := .list ((Z0 D.S s j m2).map V.int)) hdb
        have hfb3 := Zl (p := .list ((Z0 D.S s j m2).map V.int)) hfb2 hdb
        have f0 : σ5 fb = none := s1.none hfb
        have fh : fb ≠ hb := fun z => by rw [z, G5.has] at f0; cases f0
        have gl := G5.len
        have hol : (Z0 D.S s j m2).length ≤ 64 := by
          have := List.length_filter_le (fun h => !(Zjc D.S s j).contains h) (Zcl m2)
          simp only [Zcl, List.length_map, List.length_range] at this
          unfold Z0; unfold Zcl; exact Zuy hm64 this
        refine ⟨fb, db, hb, _, _, hs5, rfl, hfb3, Zd, s3 _ _ G5.has, by exact Nat.le_trans hol (by decide), by exact Zxm hbd hsl hi2 hsi hsp hj8 gl, fh, fun σ8 ns' cb kp8 hhb8 c0 hf8 hc8 => ?_⟩
        refine kf _ ?_
        dsimp only [Zan]
        refine k6 _ _ (k5 _ _ (fun _ kI => kI (_) (G5.trans (.one s3 G5.has f0 kp8 hhb8 c0 (Ze2 _) hf8 hc8 (n := 0)) (by exact Zxl)) (f1) (f2) (f3) (f4) (f5) (f6) (f7)))
  | false =>
  refine kf _ ?_
  dsimp only [Zan]
  refine k1 _ _ ?_
  refine Zo fun K1 k1 => ?_
  dsimp only [Z5, Yj, Zk, Loc.set, String.reduceBEq, cond_true, cond_false, Yy]
  refine ⟨H.instOf (by decide +kernel), x, D, m2, rfl, H, W, h64, fun b c hb0 hc0 hbc => k1 _ _ ?_⟩
  have s1 : Sub σ ((σ.set b (.list ((if m2 = 0 then [] else Zbi D.S false D.a m2).map V.int))).set c (.list ((if m2 = 0 then [] else Zbi D.S true D.b m2).map V.int))) := (Sub.refl.new hb0).new (by rw [Zf (Ne.symm hbc)]; exact hc0)
  have hb1 : ((σ.set b (.list ((if m2 = 0 then [] else Zbi D.S false D.a m2).map V.int))).set c (.list ((if m2 = 0 then [] else Zbi D.S true D.b m2).map V.int))) b = some (.list ((if m2 = 0 then [] else Zbi L false (Zb3 D.a D.b false) m2).map V.int)) := by rw [Zf hbc, Zd, Zh1 hp]; rfl
  have hc1 : ((σ.set b (.list ((if m2 = 0 then [] else Zbi D.S false D.a m2).map V.int))).set c (.list ((if m2 = 0 then [] else Zbi D.S true D.b m2).map V.int))) c = some (.list ((if m2 = 0 then [] else Zbi L true (Zb3 D.a D.b true) m2).map V.int)) := by rw [Zd, Zh1 hp]; rfl
  generalize (σ.set b (.list ((if m2 = 0 then [] else Zbi D.S false D.a m2).map V.int))).set c (.list ((if m2 = 0 then [] else Zbi D.S true D.b m2).map V.int)) = σ1 at s1 hb1 hc1 ⊢
  refine Zo fun K1 k1 => ?_
  refine Xw fun KB kt kf => ?_
  dsimp only [Ye, Zjf, Zjt, Zqv, Zn3, Yj, Zt, Zm, Zk, Zax, Xr, Zco, Zoc, Wd, Xm, Wy, Loc.set, String.reduceBEq, cond_true, cond_false, List.length_cons, List.length_nil]
  refine Zaq ?_
  refine kf _ ?_
  dsimp only [Zan]
  refine k1 _ _ ?_
  refine Yg fun K1 r1 => ?_
  dsimp only [Za8, Zae, Ye, Y6, Zav, Yj, Zt, Zm]
  refine ⟨by decide, Yh rfl, nofun, ?_⟩
  have hc0' : σ c = none := hc0
  have hfull : ∀ s, (if m2 = 0 then [] else Zbi L s (Zb3 D.a D.b s) m2).length ≤ 1000 := fun s => Zru ha8 hb8
  have sc : Sub (σ.set c (.list ((if m2 = 0 then [] else Zbi L true (Zb3 D.a D.b true) m2).map V.int))) σ1 := fun y o q => by
    by_cases z : y = c
    · rw [z, Zd] at q; rw [z, hc1]; exact q
    · rw [Zf z] at q; exact s1 _ _ q
  have bh : b ≠ hb := fun z => by rw [z, hhb] at hb0; cases hb0
  have ch : c ≠ hb := fun z => by rw [z, hhb] at hc0; cases hc0
  refine Zg6 (fun i : Nat => V.int i) (fun i σ' => match i with
    | 0 => σ' = σ1
    | 1 => ∃ hs', Zd3 (σ.set c (.list ((if m2 = 0 then [] else Zbi L true (Zb3 D.a D.b true) m2).map V.int))) σ' hb hs hs' 1
    | _ => ∃ hs', Zd3 σ σ' hb hs hs' 2) (fun _ _ _ => trivial) [0, 1] 0 [] σ1 rfl ?_ ?_
  · rintro i j σ2 K2 hij hI k2
    match i, hij with
    | 0, hij =>
      cases hij
      obtain rfl : σ2 = σ1 := hI
      dsimp only [Xd]
      dsimp only [Ye, Yj, Zt, Zk, Zc6, Zb7, Yq, Loc.set, Loc.bare, String.reduceBEq, cond_true, cond_false]
      refine Xp (xs := [V.ref b, V.ref c]) (x := V.ref b) (Z8 (by decide) rfl) ⟨rd, L, ep, false, D.a, D.b, m2, rfl, s1 _ _ hrd, by exact Zti h64 hLl hlen, hrl, hcl, ha8, hb8, fun db hdb => ?_⟩
      have s3 := Sub.refl.new (o := .list ((if m2 = 0 then [] else Zbi L false (Zb3 D.a D.b false) m2).map V.int)) hdb
      refine ⟨b, db, hb, _, _, hs, rfl, s3 _ _ hb1, Zd, s3 _ _ (s1 _ _ hhb), hfull _, by exact Zxk hbd hsl, bh, fun σ5 ns' cb kp5 hhb5 c0 hf5 hc5 => k2 _ ⟨_, .one (n := 0) (sc.trans s3) (Zl hhb hc0) (by rw [Zf hbc]; exact hb0) kp5 hhb5 c0 (Ze2 _) hf5 hc5⟩⟩
    | 1, hij =>
      cases hij
      obtain ⟨hs2, G2⟩ := hI
      have gl := G2.len
      dsimp only [Xd]
      dsimp only [Ye, Yj, Zt, Zk, Zc6, Zb7, Yq, Loc.set, Loc.bare, String.reduceBEq, cond_true, cond_false]
      refine Xp (xs := [V.ref b, V.ref c]) (x := V.ref c) (Z8 (by decide) rfl) ⟨rd, L, ep, true, D.a, D.b, m2, rfl, G2.keep _ _ (Zl hrd hc0) rdhb, by exact Zti h64 hLl hlen, hrl, hcl, ha8, hb8, fun db hdb => ?_⟩
      have s3 := Sub.refl.new (o := .list ((if m2 = 0 then [] else Zbi L true (Zb3 D.a D.b true) m2).map V.int)) hdb
      refine ⟨c, db, hb, _, _, hs2, rfl, s3 _ _ (G2.keep _ _ Zd ch), Zd, s3 _ _ G2.has, hfull _, by exact Zxj hbd hsl gl, ch, fun σ5 ns' cb kp5 hhb5 c0 hf5 hc5 => k2 _ ⟨_, .two hhb hc0 G2 s3 kp5 hhb5 c0 (Ze2 _) hf5 hc5⟩⟩
  · rintro σ2 hI d hd
    obtain ⟨hs2, G2⟩ : ∃ hs', Zd3 σ σ2 hb hs hs' 2 := hI
    refine ⟨d, [true, true], rfl, by rw [Zd]; rfl, ?_⟩
    exact r1 _ _ _ (kret _ _ _ _ (Sub.refl.new hd) (hq _ _ (G2.trans (.refl G2.has) (k := 0) (by exact Zxi hbd))))
end
section
open PySem PySem.W PyProof.Rows
variable {g : Gr} {P : Params}
theorem Zrw (hK : (KK P).In g.b0) (N : NN g) (F_law_told : FnG g "_law_told" 9 (Zm4 CC (fun _ => True) 71)) : Xu g 10 (.ref 398) (Ziq CC) := by
  refine Xu.mono (Z1 (r := 9) (ps := ["_law_hall", "_law_sizes_here", "_law_rows", "_law_held", "_law_way"]) (hK 398 _ rfl) rfl (Zq (hK 397 _ rfl) rfl rfl) rfl (by intro vs h; obtain ⟨a0, a1, a2, a3, a4, rfl⟩ := Zuc h; rfl) rfl rfl rfl (by decide +kernel)
    (Zc (Z6 5 rfl rfl (Zw (Za (Zw (Za Zg Ze)) (Za (Zw (Za Zg (Za Zg Ze))) (Za (Zw Ze) (Za (Zw (Za Zg (Za Zg (Za Zg Ze)))) (Za (Zw (Za Zg (Za Zg (Za Zg Ze)))) (Za (Zw (Za Zg (Za Zg Ze))) (Za (Zw (Za Zg (Za Zg (Za Zg Ze)))) (Za (Zw Ze) (Za (Zw (Za Zg (Za Zg Ze))) (Za (Zw (Za Zg Ze)) (Za (Zw (Za Zg (Za Zg (Za Zg (Za Zg (Za Zg (Za Zg Ze))))))) Ze)))))))))))) (fun _ => rfl))
  (Zc (Zj (Zp 6 rfl (Zy N.n_all Zcp) (Za (Y0 (by decide +kernel) (Z3 (Zi (Zb 5 rfl rfl) (Zr (Zb 4 rfl rfl) Zg) (fun _ _ => rfl))) (.name (at_ (i := 1) rfl) rfl) (by decide +kernel) Wa (Zp 2 rfl F_law_told (Za (Zb 3 rfl rfl) (Za (Zb 6 rfl rfl) (Za (Zb 5 rfl rfl) (Za (Zb 4 rfl rfl) (Za (Zb 1 rfl rfl) (Za (Zr (Zb 7 rfl rfl) Zg) Ze)))))) rfl) (fun _ _ => rfl)) Ze) rfl))
  Zh))) ?_
  rintro xs σ Q E ⟨x, rd, hb, D, m, L, ep, kk, way, hs, rfl, H, W, h64, hrd, hp, hhb, hsl, nfh, hq⟩
  refine Yu rfl fun K KE kret _ _ => ?_
  dsimp only [Loc.setAll]
  refine Zo fun K1 k1 => ?_
  dsimp only [Z5, Zay, Yj, Zt, Zm, List.length_cons, List.length_nil]
  refine ⟨Yh rfl, fun a0 h0 => ⟨Yh rfl, fun a1 h1 => ⟨Yh rfl, fun a2 h2 => ⟨Yh rfl, fun a3 h3 => ⟨Yh rfl, fun a4 h4 => ⟨Yh rfl, fun a5 h5 => ⟨Yh rfl, fun a6 h6 => ⟨Yh rfl, fun a7 h7 => ⟨Yh rfl, fun a8 h8 => ⟨Yh rfl, fun a9 h9 => ⟨Yh rfl, fun a10 h10 => ⟨Yh rfl, fun al hal => k1 _ _ ?_⟩⟩⟩⟩⟩⟩⟩⟩⟩⟩⟩⟩
  have p1 : Zhk σ _ [V.ref a0, V.ref a1, V.ref a2, V.ref a3, V.ref a4, V.ref a5, V.ref a6, V.ref a7, V.ref a8, V.ref a9, V.ref a10] := ((((((((((((Zhk.nil.add [0] h0).add [3, 1] h1).add [] h2).add [4, 2, 5] h3).add [5, 0, 3] h4).add [2, 4] h5).add [1, 5, 4] h6).add [] h7).add [3, 4] h8).add [5] h9).add [0, 1, 2, 3, 4, 5] h10).new (o := .list [V.ref a0, V.ref a1, V.ref a2, V.ref a3, V.ref a4, V.ref a5, V.ref a6, V.ref a7, V.ref a8, V.ref a9, V.ref a10]) hal)
  refine Yg fun K1 r1 => ?_
  dsimp only [Za8, Zap, Zah, Ye, Y6, Zav, Yj, Zt, Zm, Zk, Zc6, Zb7, Yq, Loc.set, String.reduceBEq, cond_true, cond_false]
  have w0 := Int.fmod_nonneg_of_pos way (show (0 : Int) < 11 by decide)
  have w1 := Int.fmod_lt_of_pos way (show (0 : Int) < 11 by decide)
  obtain ⟨v, hv, hm⟩ := Zi7 (xs := [V.ref a0, V.ref a1, V.ref a2, V.ref a3, V.ref a4, V.ref a5, V.ref a6, V.ref a7, V.ref a8, V.ref a9, V.ref a10]) w0 w1
  refine ⟨by decide, Za1 Zd hv ?_⟩
  obtain ⟨a, ns, rfl, ha, ha0, hn⟩ := p1.all v hm
  have s1 := p1.sub
  generalize hσ : AH.set _ al _ = σ1
  have s1 : Sub σ σ1 := by rw [← hσ]; exact s1
  have ha : σ1 a = some (.list (ns.map V.int)) := by rw [← hσ]; exact ha
  clear hσ
  simp only [ha]
  have ah : a ≠ hb := fun z => by rw [z, hhb] at ha0; cases ha0
  have rdhb : rd ≠ hb := fun z => by rw [z, hhb] at hrd; cases hrd
  refine ⟨nofun, Zg6 V.int (fun i σ2 => ∃ hs', Zd3 σ1 σ2 hb hs hs' (71 * i)) (fun i σ2 ⟨hs', G⟩ => G.keep _ _ ha ah) ns 0 [] σ1 ⟨hs, .refl (s1 _ _ hhb)⟩ (fun i ask σ2 K2 hi hI k2 => ?_) fun σ2 hI d hd => ?_⟩
  · obtain ⟨hs2, G⟩ := hI
    have hi6 : i < 6 := by have := (List.getElem?_eq_some_iff.1 hi).1; exact Zxh hn this
    have gl := G.len
    rw [Nat.zero_add] at gl
    dsimp only [Xd]
    dsimp only [Ye, Yj, Zt, Zm, Zk, Zc6, Zb7, Loc.set, Loc.bare, String.reduceBEq, cond_true, cond_false]
    exact ⟨by decide, x, rd, hb, D, m, L, ep, kk, ask, _, hs2, rfl, (H.sub s1).kept G.keep (s1 _ _ hhb) nfh, W, h64, G.keep _ _ (s1 _ _ hrd) rdhb, hp, G.has, by exact Zxg hsl hi6 gl, nfh, trivial, fun σ3 hs3 G3 => k2 _ ⟨hs3, G.trans G3 (by exact Zxf)⟩⟩
  · obtain ⟨hs2, G⟩ := hI
    refine ⟨d, ns.map fun _ => true, rfl, by rw [Zd, List.map_map]; rfl, ?_⟩
    rw [Zgg]
    exact r1 _ _ _ (kret _ _ _ _ (Sub.refl.new hd) (hq _ _ ((Zd3.of_sub s1 hhb G).trans (.refl G.has) (k := 0) (by exact Zxe hn))))
end
section
open PySem PySem.W PyProof.Rows
variable {g : Gr} {P : Params}
theorem Zvp (hK : (KK P).In g.b0) (N : NN g) (F_law_come : FnG g "_law_come" 9 Zo2) (F_law_gone : FnG g "_law_gone" 9 Ztb) (M_come : FnM g (KK P) CC "come" 9 (Ztd CC)) (M_go : FnM g (KK P) CC "go" 9 (Zwj CC)) : Xu g 10 (.ref 405) (Ztc CC) := by
  refine Xu.mono (Z1 (r := 9) (ps := ["_law_hall", "_law_rows", "_law_deed_here", "_law_came"]) (hK 405 _ rfl) rfl (Zq (hK 404 _ rfl) rfl rfl) rfl (by intro vs h; obtain ⟨a0, a1, a2, a3, rfl⟩ := Zqw h; rfl) rfl rfl rfl (by decide +kernel)
    (Zc (Yb (Zv (Zi (Zb 2 rfl rfl) Zg (fun _ _ => rfl)) (Zdr (Za4 (by decide))) rfl) (Zc (Zj (Zp 4 rfl F_law_come (Za (Zb 1 rfl rfl) (Za (Zs hK hC M_come (Zb 0 rfl rfl) (Za (Zi (Zb 2 rfl rfl) Zg (fun _ _ => rfl)) (Za (Zi (Zb 2 rfl rfl) Zg (fun _ _ => rfl)) Ze)) rfl rfl rfl rfl) (Za (Zb 3 rfl rfl) (Za (Zcd (Zb 2 rfl rfl) (Zcc Zg) Zen) Ze)))) rfl))
  Zh) Zh)
  (Zc (Zj (Zp 5 rfl F_law_gone (Za (Zb 1 rfl rfl) (Za (Zs hK hC M_go (Zb 0 rfl rfl) (Za (Zi (Zb 2 rfl rfl) Zg (fun _ _ => rfl)) Ze) rfl rfl rfl rfl) (Za (Zi (Zb 2 rfl rfl) Zg (fun _ _ => rfl)) Ze))) rfl))
  Zh))) ?_
  rintro xs σ Q E ⟨x, rd, D, m, L, ep, cm, dv, rfl, H, W, hT40, hnx, hrd, hp, nfr, hdv, hq⟩
  refine Yu rfl fun K KE kret _ _ => ?_
  dsimp only [Loc.setAll]
  have hi := W.good.inc
  have hnx0 := W.nx
  have ok := W.okL hp (by exact Nat.lt_of_le_of_lt hT40 (by decide))
  have hLl : L.length = D.T.length := by rw [← hp.length_eq]; simp [HD.S]
  refine Yl fun K1 k1 r1 => ?_
  cases hdv with
  | go t ht =>
    have hy : t.1 ∈ D.S := List.mem_map.2 ⟨t, ht, rfl⟩
    refine Xw fun KB kt kf => ?_
    dsimp only [Zm, Zk, Xm, Wy, Yq, Loc.set, String.reduceBEq, cond_true, cond_false]
    refine Xp (Z8 (by decide) rfl) (Zfl Zvf Zfq ?_)
    rw [show (goS == Str.ofString "come") = false from Zpr]
    refine kf _ ?_
    dsimp only [Zan]
    refine k1 _ _ ?_
    refine Yg fun K5 r5 => ?_
    dsimp only [Za8, Ye, Yj, Zt, Zm, Zk, Yq, Loc.set, String.reduceBEq, cond_true, cond_false, Yy]
    refine ⟨H.instOf (by decide +kernel), Xp (Z8 (by decide) rfl) ⟨x, D, m, t, rfl, ht, H, W, by exact Zxd hT40 hLl, fun σ5 D5 m5 fb log H5 W5 F5 hsk5 hcnt5 hlog5 hkeys5 hfb nffb hfb5 hlc5 => ?_⟩⟩
    have hlen5 : D5.T.length ≤ 40 := by
      have := congrArg List.length hsk5
      simp [HD.S] at this
      rw [this]
      exact Nat.le_trans (List.length_filter_le _ _) (by simpa [HD.S] using hT40)
    have st0 : StS (drp t.1.n D.S) := ⟨hi.filter _, W.good.proper.filter _, fun y hy => W.hued y (List.mem_filter.1 hy).1⟩
    refine Xp (Z8 (by decide) rfl) ⟨rd, fb, L, drp t.1.n D.S, D5.S, ep, t.1.n, D.a, D.b, m5, log, rfl, F5.keep _ _ hrd nfr, ok.nd, by exact Zxc hT40 hLl, ⟨t.1, hp.mem_iff.1 hy, rfl⟩, hp.filter _, st0, W.good.inr.filter _, hcnt5, fun y hy => ?_, hlog5.run, hkeys5, hfb5, fun e he => (hlc5 e he).1, fun nb epn L' hpL hnb => r5 _ _ _ ?_⟩
    · have hg := W.good.go hcnt5
      rcases Nat.lt_or_ge m5 m with w | w
      · obtain ⟨h', q1, _, q2, _⟩ := (hg.2.2 w).hues y hy
        unfold hu; rw [q1]; exact q2
      · obtain ⟨h', q1, _, q2⟩ := (hg.2.1 (by omega)).hues y hy
        unfold hu; rw [q1]; simp; exact Zu5 q2
    · have s6 : Sub σ5 (σ5.set nb (.dictI (Yd L') epn)) := Sub.refl.new hnb
      exact kret _ _ _ _ Sub.refl (hq _ D5 m5 L' nb epn (H5.sub s6) W5 F5.sz.1 F5.sz.2.1 hlen5 (by rw [F5.sz.2.2]; simp) hpL Zd (F5.dom _ hnb) (Wf H5 hnb) (fun y o q nf => s6 _ _ (F5.keep _ _ q nf)) F5.new)
  | come l r h40 hl hr =>
    refine Xw fun KB kt kf => ?_
    dsimp only [Zm, Zk, Xm, Wy, Yq, Loc.set, String.reduceBEq, cond_true, cond_false]
    refine Xp (Z8 (by decide) rfl) (Zfl Zfq Zfq ?_)
    rw [show (Znv == Str.ofString "come") = true from BEq.rfl]
    refine kt _ ?_
    refine Yg fun K5 r5 => ?_
    dsimp only [Za8, Ye, Yj, Zt, Zm, Zk, Yq, Zhn, Zgp, Zf2, Loc.set, String.reduceBEq, cond_true, cond_false, Yy]
    refine ⟨H.instOf (by decide +kernel), Xp (Z8 (by decide) rfl) (Xp (Z8 (by decide) rfl) ⟨x, D, l, r, m, rfl, H, W, by exact Int.lt_of_lt_of_le hnx (by decide), h40, hl, hr, fun σ5 D5 m5 hue other nums c H5 W5 hn5 ha5 hb5 keep5 new5 dom5 hsk5 hHT hc0 nfc hc5 => ?_⟩)⟩
    obtain ⟨hTold, hp5, hin, hcnt, hknx⟩ := Zlc W W5 ha5 hb5 hsk5 hHT hp
    have hT5 : D5.T.length = D.T.length + 1 := by
      have := congrArg List.length hsk5
      simpa [HD.S] using this
    refine ⟨by simp [Zbe], trivial, rd, c, L, ep, D.nx, l, r, D.a, D.b, m5, hue, other, nums, rfl, keep5 _ _ hrd nfr, ok, by exact Zxb hT40 hLl h40 hT5, hknx, hin, hcnt, hc5, hTold, fun rb epr hrb => r5 _ _ _ (r1 _ _ _ ?_)⟩
    have s7 : Sub σ5 (σ5.set rb (.dictI (Yd (Znl L D.nx l r hue other nums)) epr)) := Sub.refl.new hrb
    exact kret _ _ _ _ Sub.refl (hq _ D5 m5 _ rb epr (H5.sub s7) W5 ha5 hb5 (by exact Zxa hT40 hLl h40 hT5) (by rw [hn5]; simp) hp5 Zd (dom5 _ hrb) (Wf H5 hrb) (fun y o q nf => s7 _ _ (keep5 _ _ q nf)) new5)
end
section
open PySem PySem.W PyProof.Rows
noncomputable def Zei {α : Type} (f : Bool → α) (s : Bool) (v : α) (j : Bool) : α := if j = s then v else f j
theorem Y8 {α : Type} {f : Bool → α} {s : Bool} {v : α} : Zei f s v s = v := if_pos rfl
theorem Yr {α : Type} {f : Bool → α} {s j : Bool} {v : α} (h : j ≠ s) : Zei f s v j = f j := if_neg h
noncomputable def two {α : Type} (f : Bool → α) (F : α → V) : List V := [F (f false), F (f true)]
theorem Zbq {α : Type} {f : Bool → α} {F : α → V} (s : Bool) : atV (two f F) (sI s) = some (F (f s)) := by cases s <;> exact Z8 (by decide) rfl
theorem Zsg {α : Type} {f : Bool → α} {F : α → V} {σ : AH} {a : Addr} {v : α} {Q : AH → Prop} (s : Bool) (h : σ a = some (.list (two f F))) (q : Q (σ.set a (.list (two (Zei f s v) F)))) : Wj (.ref a) (.int (sI s)) (F v) σ Q := by
  simp only [Wj, h]
  cases s
  · exact ⟨0, rfl, Nat.zero_lt_two, q⟩
  · exact ⟨1, rfl, Nat.one_lt_two, q⟩
theorem Zu.footO {σ : AH} {C x : Addr} {D : HD} (H : Zu σ C x D) {y : Addr} {o : AO} (h : D.foot y) (e : σ y = some o) : (∀ C d, o ≠ .inst C d) ∧ ∀ kvs ep, o ≠ .dictS kvs ep := by
  rcases h with rfl | rfl | h
  · rw [H.attrs] at e; cases e; exact ⟨nofun, nofun⟩
  · obtain ⟨ep, q⟩ := H.rows; rw [q] at e; cases e; exact ⟨nofun, nofun⟩
  · obtain ⟨t, ht, rfl⟩ := List.mem_map.1 h
    rw [H.row t ht] at e; cases e; exact ⟨nofun, nofun⟩
theorem Zu.moved {σ σ' : AH} {C x : Addr} {D : HD} (H : Zu σ C x D) (k : ∀ y o, σ y = some o → D.foot y ∨ (∃ C d, o = .inst C d) ∨ (∃ kvs ep, o = .dictS kvs ep) → σ' y = some o) : Zu σ' C x D := by
  obtain ⟨ep, e⟩ := H.rows
  obtain ⟨ep', e'⟩ := H.sizes
  exact ⟨k _ _ H.inst (.inr (.inl ⟨_, _, rfl⟩)), k _ _ H.attrs (.inl (.inl rfl)), H.aRows, H.aSizes, H.aNext, H.names, H.few, ⟨ep, k _ _ e (.inl (.inr (.inl rfl)))⟩, fun t ht => k _ _ (H.row t ht) (.inl (.inr (.inr (List.mem_map.2 ⟨t, ht, rfl⟩)))), H.nodup, ⟨ep', k _ _ e' (.inr (.inr ⟨_, _, rfl⟩))⟩⟩
theorem Zn1.first {D : HD} {cm : Bool} {dv : V} {σ : AH} {Q : Bool → Prop} (h : Zn1 D cm dv) (q : Q cm) : Zbb dv (.int 0) σ fun x => eqD x (.str (Str.ofString "come")) σ Q := by
  cases h with
  | go t ht => exact Xp (Z8 (by decide) rfl) (Zfl Zvf Zfq (by rw [show (goS == Str.ofString "come") = false from Zpr]; exact q))
  | come l r h40 hl hr => exact Xp (Z8 (by decide) rfl) (Zfl Zfq Zfq (by rw [show (Znv == Str.ofString "come") = true from BEq.rfl]; exact q))
noncomputable def Zqz (D : Bool → HD) (rl cl hb y : Addr) : Prop := (∃ i, (D i).foot y) ∨ y = hb ∨ y = rl ∨ y = cl
structure Zq0 (C hl rl cl sl hb cb : Addr) (x : Bool → Addr) (a b kk : Bool → Int) (cells : List Int) (σ : AH) (D : Bool → HD) (m ep : Bool → Nat) (rd : Bool → Addr) (L : Bool → List Rw) (hs : List (Addr × Addr)) (n : Nat) : Prop where
  hall : ∀ i, Zu σ C (x i) (D i)
  well : ∀ i, Zgh (D i) (m i)
  few : ∀ i, (D i).T.length ≤ 40
  rows : ∀ i, σ (rd i) = some (.dictI (Yd (L i)) (ep i))
  perm : ∀ i, (D i).S.Perm (L i)
  sa : ∀ i, (D i).a = a i
  sb : ∀ i, (D i).b = b i
  nx : ∀ i, (D i).nx ≤ n
  off : ∀ i j, ¬ (D j).foot (rd i)
  apart : ∀ i j y, i ≠ j → (D i).foot y → ¬ (D j).foot y
  eh : σ hl = some (.list (two x V.ref))
  er : σ rl = some (.list (two rd V.ref))
  ec : σ cl = some (.list (two (fun i => (D i).nx) V.int))
  es : σ sl = some (.list (two (fun i => V.tup [.int (a i), .int (b i), .int (kk i)]) id))
  eb : σ hb = some (.list (hs.map Zaa))
  ee : σ cb = some (.list (cells.map V.int))
  nh : ¬ Zqz D rl cl hb hl
  ns : ¬ Zqz D rl cl hb sl
  ne : ¬ Zqz D rl cl hb cb
  fr : ∀ i, ¬ (D i).foot rl
  fc : ∀ i, ¬ (D i).foot cl
  fb : ∀ i, ¬ (D i).foot hb
  d1 : rl ≠ cl
  d2 : rl ≠ hb
  d3 : cl ≠ hb
  held : ∀ p ∈ hs, Zsx σ (Zqz D rl cl hb) p
section
variable {C hl rl cl sl hb cb : Addr} {x : Bool → Addr} {a b kk : Bool → Int} {cells : List Int} {σ σ' : AH} {D : Bool → HD} {m ep : Bool → Nat} {rd : Bool → Addr} {L : Bool → List Rw} {hs hs' : List (Addr × Addr)} {n k : Nat}
theorem Zpb {y z : Addr} {o : AO} {l : List V} (e : σ y = some o) (h : σ z = some (.list l)) (n : ∀ l, o ≠ .list l) : y ≠ z := fun w => by rw [w, h] at e; cases e; exact n l rfl
theorem Zq0.grow (I : Zq0 C hl rl cl sl hb cb x a b kk cells σ D m ep rd L hs n) (G : Zd3 σ σ' hb hs hs' k) : Zq0 C hl rl cl sl hb cb x a b kk cells σ' D m ep rd L hs' n := by
  have own : ∀ {y}, ¬ Zqz D rl cl hb y → y ≠ hb := fun h z => h (.inr (.inl z))
  refine ⟨fun i => (I.hall i).kept G.keep I.eb (I.fb i), I.well, I.few, fun i => G.keep _ _ (I.rows i) (Zpb (I.rows i) I.eb nofun), I.perm, I.sa, I.sb, I.nx, I.off, I.apart, G.keep _ _ I.eh (own I.nh), G.keep _ _ I.er I.d2, G.keep _ _ I.ec I.d3, G.keep _ _ I.es (own I.ns), G.has, G.keep _ _ I.ee (own I.ne), I.nh, I.ns, I.ne, I.fr, I.fc, I.fb, I.d1, I.d2, I.d3, fun p hp => ?_⟩
  rcases G.held p hp with h | h
  · exact (I.held p h).keep fun y l q nb => ⟨G.keep _ _ q (own nb), nb⟩
  · refine h.keep fun y l q nb => ⟨q, fun z => nb ?_⟩
    rcases z with ⟨i, z⟩ | z | z | z
    · exact fun w => Wf (I.hall i) w z
    · rw [z, I.eb]; exact nofun
    · rw [z, I.er]; exact nofun
    · rw [z, I.ec]; exact nofun
theorem Zq0.done (I : Zq0 C hl rl cl sl hb cb x a b kk cells σ D m ep rd L hs n) (s cm : Bool) {D' : HD} {m' ep' : Nat} {L' : List Rw} {rd' : Addr} (H' : Zu σ' C (x s) D') (W' : Zgh D' m') (ha : D'.a = (D s).a) (hb' : D'.b = (D s).b) (h40 : D'.T.length ≤ 40) (hn : D'.nx = (D s).nx + if cm then 1 else 0) (hp : D'.S.Perm L') (hr : σ' rd' = some (.dictI (Yd L') ep')) (r0 : σ rd' = none) (nf : ¬ D'.foot rd') (keep : ∀ y o, σ y = some o → ¬ (D s).foot y → σ' y = some o) (new : ∀ y, D'.foot y → (D s).foot y ∨ σ y = none) :
    Zq0 C hl rl cl sl hb cb x a b kk cells ((σ'.set rl (.list (two (Zei rd s rd') V.ref))).set cl (.list (two (Zei (fun i => (D i).nx) s D'.nx) V.int))) (Zei D s D') (Zei m s m') (Zei ep s ep') (Zei rd s rd') (Zei L s L') hs (n + 1) := by
  have kp : ∀ y o, σ y = some o → ¬ (D s).foot y → y ≠ rl → y ≠ cl → ((σ'.set rl (.list (two (Zei rd s rd') V.ref))).set cl (.list (two (Zei (fun i => (D i).nx) s D'.nx) V.int))) y = some o := fun y o q h z1 z2 => by rw [Zf z2, Zf z1]; exact keep y o q h
  have ft : ∀ i y, (Zei D s D' i).foot y → (D i).foot y ∨ σ y = none := fun i y h => by
    by_cases e : i = s
    · subst e; rw [Y8] at h; exact new y h
    · rw [Yr e] at h; exact .inl h
  have offF : ∀ {y o}, σ y = some o → ∀ i, ¬ (D i).foot y → ¬ (Zei D s D' i).foot y := fun {y o} q i h z => (ft i y z).elim h fun w => by rw [w] at q; cases q
  have own : ∀ {y o}, σ y = some o → ¬ Zqz D rl cl hb y → ¬ Zqz (Zei D s D') rl cl hb y := fun {y o} q h z => by
    rcases z with ⟨i, z⟩ | z
    · exact offF q i (fun w => h (.inl ⟨i, w⟩)) z
    · exact h (.inr z)
  have fix : ∀ {y o}, σ y = some o → ¬ Zqz D rl cl hb y → ((σ'.set rl (.list (two (Zei rd s rd') V.ref))).set cl (.list (two (Zei (fun i => (D i).nx) s D'.nx) V.int))) y = some o := fun {y o} q h => kp _ _ q (fun w => h (.inl ⟨s, w⟩)) (fun w => h (.inr (.inr (.inl w)))) (fun w => h (.inr (.inr (.inr w))))
  have nrl : σ' rl = some (.list (two rd V.ref)) := keep _ _ I.er (I.fr s)
  have ncl : σ' cl = some (.list (two (fun i => (D i).nx) V.int)) := keep _ _ I.ec (I.fc s)
  have hnx : (Zei (fun i => (D i).nx) s D'.nx) = fun i => (Zei D s D' i).nx := funext fun i => by
    by_cases e : i = s
    · subst e; rw [Y8, Y8]
    · rw [Yr e, Yr e]
  have hall : ∀ i, Zu ((σ'.set rl (.list (two (Zei rd s rd') V.ref))).set cl (.list (two (Zei (fun i => (D i).nx) s D'.nx) V.int))) C (x i) (Zei D s D' i) := fun i => by
    by_cases e : i = s
    · subst e
      rw [Y8]
      have f1 := offF I.er i (I.fr i)
      have f2 := offF I.ec i (I.fc i)
      rw [Y8] at f1 f2
      exact (H'.setList nrl fun z => f1 (.inr (.inr z))).setList (by rw [Zf (Ne.symm I.d1)]; exact ncl) fun z => f2 (.inr (.inr z))
    · rw [Yr e]
      refine (I.hall i).moved fun y o q h => ?_
      rcases h with h | h
      · exact kp y o q (I.apart i s y e h) (fun z => I.fr i (z ▸ h)) fun z => I.fc i (z ▸ h)
      · have nl : ∀ l, o ≠ .list l := by rcases h with ⟨_, _, rfl⟩ | ⟨_, _, rfl⟩ <;> exact nofun
        refine kp y o q (fun w => ?_) (Zpb q I.er nl) (Zpb q I.ec nl)
        have := (I.hall s).footO w q
        rcases h with ⟨_, _, z⟩ | ⟨_, _, z⟩
        · exact this.1 _ _ z
        · exact this.2 _ _ z
  refine ⟨hall, fun i => ?_, fun i => ?_, fun i => ?_, fun i => ?_, fun i => ?_, fun i => ?_, fun i => ?_, fun i j => ?_, fun i j y h => ?_, fix I.eh I.nh, by rw [Zf I.d1, Zd], by rw [Zd, hnx], fix I.es I.ns, kp _ _ I.eb (I.fb s) (Ne.symm I.d2) (Ne.symm I.d3), fix I.ee I.ne, own I.eh I.nh, own I.es I.ns, own I.ee I.ne, fun i => offF I.er i (I.fr i), fun i => offF I.ec i (I.fc i), fun i => offF I.eb i (I.fb i), I.d1, I.d2, I.d3, fun p hp => (I.held p hp).keep fun y l q nb => ⟨fix q nb, own q nb⟩⟩
  · by_cases e : i = s
    · subst e; rw [Y8, Y8]; exact W'
    · rw [Yr e, Yr e]; exact I.well i
  · by_cases e : i = s
    · subst e; rw [Y8]; exact h40
    · rw [Yr e]; exact I.few i
  · by_cases e : i = s
    · subst e; rw [Y8, Y8, Y8, Zf (fun z => by rw [z, I.ec] at r0; cases r0), Zf (fun z => by rw [z, I.er] at r0; cases r0)]; exact hr
    · rw [Yr e, Yr e, Yr e]; exact kp _ _ (I.rows i) (I.off i s) (Zpb (I.rows i) I.er nofun) (Zpb (I.rows i) I.ec nofun)
  · by_cases e : i = s
    · subst e; rw [Y8, Y8]; exact hp
    · rw [Yr e, Yr e]; exact I.perm i
  · by_cases e : i = s
    · subst e; rw [Y8, ha]; exact I.sa i
    · rw [Yr e]; exact I.sa i
  · by_cases e : i = s
    · subst e; rw [Y8, hb']; exact I.sb i
    · rw [Yr e]; exact I.sb i
  · have := I.nx i
    by_cases e : i = s
    · subst e; rw [Y8, hn]; split <;> omega
    · rw [Yr e]; exact Zw9 this
  · by_cases e : i = s
    · subst e
      rw [Y8]
      by_cases e' : j = i
      · subst e'; rw [Y8]; exact nf
      · rw [Yr e']; exact Wf (I.hall j) r0
    · rw [Yr e]; exact offF (I.rows i) j (I.off i j)
  · intro h1 h2
    rcases ft i y h1 with w1 | w1
    · rcases ft j y h2 with w2 | w2
      · exact I.apart i j y h w1 w2
      · exact Wf (I.hall i) w2 w1
    · rcases ft j y h2 with w2 | w2
      · exact Wf (I.hall j) w1 w2
      · by_cases e : i = s
        · have e' : j ≠ s := fun z => h (e.trans z.symm)
          rw [Yr e'] at h2
          exact Wf (I.hall j) w1 h2
        · rw [Yr e] at h1
          exact Wf (I.hall i) w1 h1
end
end
section
open PySem PySem.W PyProof.Rows
variable {g : Gr} {P : Params}
theorem Z16 (hK : (KK P).In g.b0) (N : NN g) (F_Hall : Zfs g 11 (.ref CC) (Zui CC (Zta CC))) (F_law_cell_at : FnG g "_law_cell_at" 11 Zkt) (F_law_mixed : FnG g "_law_mixed" 11 Zot) (F_law_sizes_by : FnG g "_law_sizes_by" 11 Zir) (F_law_deed : FnG g "_law_deed" 11 Zo1) (F_law_done : FnG g "_law_done" 11 (Ztc CC)) (F_law_stands : FnG g "_law_stands" 11 (Ziq CC)) : Xu g 12 (.ref 410) Zum := by
  refine Xu.mono (Z1 (r := 11) (ps := ["_law_script"]) (hK 410 _ rfl) rfl (Zq (hK 409 _ rfl) rfl rfl) rfl (by intro vs h; obtain ⟨a0, rfl⟩ := Zph h; rfl) rfl rfl rfl (by decide +kernel)
    (Zc (Yo (at_ (i := 2) rfl) rfl (by decide +kernel) (Yv (at_ (i := 11) rfl) (N.n_range) Zg rfl) (.name (at_ (i := 1) rfl) rfl) (by decide +kernel) Wa (Zp 2 rfl F_law_sizes_by (Za (Zp 3 rfl F_law_cell_at (Za (Zb 4 rfl rfl) (Za (Zb 1 rfl rfl) Ze)) rfl) Ze) rfl) (fun _ _ => rfl))
  (Zc (Yo (at_ (i := 3) rfl) rfl (by decide +kernel) (Z3 (Zb 2 rfl rfl)) (.name (at_ (i := 1) rfl) rfl) (by decide +kernel) Wa (Zm2 hK (at_ (i := 2) rfl) (N.n_Hall) Ztp F_Hall (Za (Zi (Zb 1 rfl rfl) Zg (fun _ _ => rfl)) (Za (Zi (Zb 1 rfl rfl) Zg (fun _ _ => rfl)) Ze)) rfl) (fun _ _ => rfl))
  (Zc (Z6 4 rfl rfl (Zw (Za Zds (Za Zds Ze))) (fun _ => rfl))
  (Zc (Z6 5 rfl rfl (Zw (Za Zg (Za Zg Ze))) (fun _ => rfl))
  (Zc (Z6 6 rfl rfl (Zw Ze) (fun _ => rfl))
  (Zc (Yz (Z3 (Zcd (Zb 0 rfl rfl) (Zcc Zg) (Zcc Zg))) (.name (at_ (i := 7) rfl) rfl) (Zc (Z6 8 rfl rfl (Zp 12 rfl F_law_mixed (Za (Zb 7 rfl rfl) (Za (Zr (Zi (Zb 5 rfl rfl) Zg (fun _ _ => rfl)) (Zr Zg (Zi (Zb 5 rfl rfl) Zg (fun _ _ => rfl)))) Ze)) rfl) (fun _ => rfl))
  (Zc (Z6 9 rfl rfl (Zp 13 rfl (Zdl N.n_int Zjh) (Za (Zcr (Zr (Zr (Zb 8 rfl rfl) Zg) Zg) Zg rfl) Ze) rfl) (fun _ => rfl))
  (Zc (Z6 10 rfl rfl (Zp 14 rfl F_law_deed (Za (Zr (Zb 8 rfl rfl) Zg) (Za (Zi (Zb 2 rfl rfl) (Zb 9 rfl rfl) (fun _ _ => rfl)) (Za (Zi (Zb 4 rfl rfl) (Zb 9 rfl rfl) (fun _ _ => rfl)) (Za Zg Ze)))) rfl) (fun _ => rfl))
  (Zc (Yw (Zb 4 rfl rfl) (Zb 9 rfl rfl) (Zp 15 rfl F_law_done (Za (Zi (Zb 3 rfl rfl) (Zb 9 rfl rfl) (fun _ _ => rfl)) (Za (Zi (Zb 4 rfl rfl) (Zb 9 rfl rfl) (fun _ _ => rfl)) (Za (Zb 10 rfl rfl) (Za (Zi (Zb 5 rfl rfl) (Zb 9 rfl rfl) (fun _ _ => rfl)) Ze)))) rfl) (fun _ => rfl))
  (Zc (Yw (Zb 5 rfl rfl) (Zb 9 rfl rfl) (Zr (Zi (Zb 5 rfl rfl) (Zb 9 rfl rfl) (fun _ _ => rfl)) (Zp 13 rfl (Zdl N.n_int Zjh) (Za (Zcr (Zi (Zb 10 rfl rfl) Zg (fun _ _ => rfl)) (Zdr (Za4 (by decide))) rfl) Ze) rfl)) (fun _ => rfl))
  (Zc (Yb (Zv (Zi (Zb 4 rfl rfl) (Zb 9 rfl rfl) (fun _ _ => rfl)) Y7 rfl) (Zc (Zj We)
  Zh) Zh)
  (Zc (Yz (Z3 (Zi (Zw (Za (Zw (Za Zg (Za Zg Ze))) (Za (Zw (Za Zg (Za Zg Ze))) Ze))) (Zr (Zr (Zb 8 rfl rfl) Zg) Zg) (fun _ _ => rfl))) (.name (at_ (i := 1) rfl) rfl) (Zc (Yb (Y5 (Ym (Zp 16 rfl F_law_stands (Za (Zi (Zb 3 rfl rfl) (Zb 1 rfl rfl) (fun _ _ => rfl)) (Za (Zi (Zb 2 rfl rfl) (Zb 1 rfl rfl) (fun _ _ => rfl)) (Za (Zi (Zb 4 rfl rfl) (Zb 1 rfl rfl) (fun _ _ => rfl)) (Za (Zb 6 rfl rfl) (Za (Zr (Zr (Zb 8 rfl rfl) Zg) (Zb 1 rfl rfl)) Ze))))) rfl) (fun _ _ => rfl))) (Zc (Zj We)
  Zh) Zh)
  Zh) (fun _ _ => rfl))
  Zh))))))) (fun _ _ => rfl))
  (Zc (Yz (Yv (at_ (i := 11) rfl) (N.n_range) Zg rfl) (.name (at_ (i := 1) rfl) rfl) (Zc (Yb (Y5 (Ym (Zp 16 rfl F_law_stands (Za (Zi (Zb 3 rfl rfl) (Zb 1 rfl rfl) (fun _ _ => rfl)) (Za (Zi (Zb 2 rfl rfl) (Zb 1 rfl rfl) (fun _ _ => rfl)) (Za (Zi (Zb 4 rfl rfl) (Zb 1 rfl rfl) (fun _ _ => rfl)) (Za (Zb 6 rfl rfl) (Za Zg Ze))))) rfl) (fun _ _ => rfl))) (Zc (Zj We)
  Zh) Zh)
  Zh) (fun _ _ => rfl))
  (Zc (Zj (Zcr (Y0 (by decide +kernel) (Z3 (Zb 6 rfl rfl)) (.name (at_ (i := 1) rfl) rfl) (by decide +kernel) (W8 (Zv (Zi (Zb 1 rfl rfl) Zg (fun _ _ => rfl)) (Zi (Zb 1 rfl rfl) Zg (fun _ _ => rfl)) rfl)) (Zb 1 rfl rfl) (fun _ _ => rfl)) (Zw Ze) rfl))
  Zh))))))))) ?_
  rintro xs σ Q E ⟨ns, rfl, hns, hq⟩
  refine Yu rfl fun K KE kret _ _ => ?_
  dsimp only [Loc.setAll]
  refine Zo fun K1 k1 => ?_
  dsimp only [Xh, Zae, Zav, Zm]
  refine ⟨by decide, Yh rfl, nofun, ?_⟩
  rw [Zat]
  refine Zka V.int (fun _ y _ => ∃ a b kk : Int, y = .tup [.int a, .int b, .int kk] ∧ (1 ≤ a ∧ a ≤ 8) ∧ (1 ≤ b ∧ b ≤ 8)) (fun _ _ _ _ _ h => h) (fun _ _ => trivial) (Zcl 2) [] [] σ Sub.refl rfl (fun k hk => ⟨_, fun _ _ P h => h, fun σ' s' Qv hQ => ?_⟩) fun ys σ1 s1 hys sl hsl => k1 _ _ ?_
  · dsimp only [Ye, Yj, Zt, Zk, Loc.set, Loc.bare, String.reduceBEq, cond_true, cond_false]
    obtain ⟨i, hi, rfl⟩ := List.mem_map.1 hk
    exact ⟨ns, i, rfl, fun c => ⟨c, rfl, fun a b kk ha1 ha2 hb1 hb2 => hQ _ _ Sub.refl ⟨a, b, kk, rfl, ⟨ha1, ha2⟩, hb1, hb2⟩⟩⟩
  obtain ⟨_, _, rfl, ⟨a0, b0, kk0, rfl, ha0, hb0⟩, _, _, rfl, ⟨a1, b1, kk1, rfl, ha1, hb1⟩, rfl⟩ := hys
  have hsl1 : (σ1.set sl (.list [V.tup [.int a0, .int b0, .int kk0], V.tup [.int a1, .int b1, .int kk1]])) sl = some (.list [V.tup [.int a0, .int b0, .int kk0], V.tup [.int a1, .int b1, .int kk1]]) := Zd
  generalize σ1.set sl (.list [V.tup [.int a0, .int b0, .int kk0], V.tup [.int a1, .int b1, .int kk1]]) = σ2 at hsl1 ⊢
  refine Zo fun K1 k1 => ?_
  dsimp only [Xh, Zap, Zah, Zav, Zk, Loc.set, String.reduceBEq, cond_true, cond_false]
  simp only [hsl1]
  refine ⟨nofun, hsl1, ?_⟩
  dsimp only [Xd]
  dsimp only [Ye, Yj, Zt, Zm, Zk, Wd, Yq, Loc.set, Loc.bare, String.reduceBEq, cond_true, cond_false, Zui]
  refine Xp (Z8 (by decide) rfl) (Xp (Z8 (by decide) rfl) fun x0 d0 hx0 hd0 hxd0 => ⟨x0, d0, a0, b0, rfl, ha0.1, ha0.2, hb0.1, hb0.2, Zd, by rw [Zf (Ne.symm hxd0)]; exact Zd, fun σ3 D0 H0 hT0 hDa0 hDb0 hDn0 hDd0 hrd0 kp0 => ⟨rfl, ?_⟩⟩)
  have ne0 : ∀ {y o}, σ2 y = some o → y ≠ x0 ∧ y ≠ d0 := fun {y o} q => ⟨(fun z => by rw [z, hx0] at q; cases q), (fun z => by rw [z, hd0] at q; cases q)⟩
  have s0 : Sub σ2 σ3 := fun y o q => kp0 _ _ (by rw [Zf (ne0 q).1, Zf (ne0 q).2]; exact q) (ne0 q).2
  have f0 : ∀ y, D0.foot y → σ2 y = none := fun y h => by
    rcases h with rfl | rfl | h
    · rw [hDd0]; exact hd0
    · exact ((Sub.refl.new hd0).new (by rw [Zf hxd0]; exact hx0)).none hrd0
    · rw [hT0] at h; cases h
  have hsl3 := s0 _ _ hsl1
  refine ⟨hsl3, ?_⟩
  dsimp only [Xd]
  dsimp only [Ye, Yj, Zt, Zm, Zk, Wd, Yq, Loc.set, Loc.bare, String.reduceBEq, cond_true, cond_false, Zui]
  refine Xp (Z8 (by decide) rfl) (Xp (Z8 (by decide) rfl) fun x1 d1 hx1 hd1 hxd1 => ⟨x1, d1, a1, b1, rfl, ha1.1, ha1.2, hb1.1, hb1.2, Zd, by rw [Zf (Ne.symm hxd1)]; exact Zd, fun σ4 D1 H1 hT1 hDa1 hDb1 hDn1 hDd1 hrd1 kp1 => ⟨rfl, ?_⟩⟩)
  have ne1 : ∀ {y o}, σ3 y = some o → y ≠ x1 ∧ y ≠ d1 := fun {y o} q => ⟨(fun z => by rw [z, hx1] at q; cases q), (fun z => by rw [z, hd1] at q; cases q)⟩
  have s1' : Sub σ3 σ4 := fun y o q => kp1 _ _ (by rw [Zf (ne1 q).1, Zf (ne1 q).2]; exact q) (ne1 q).2
  have f1 : ∀ y, D1.foot y → σ3 y = none := fun y h => by
    rcases h with rfl | rfl | h
    · rw [hDd1]; exact hd1
    · exact ((Sub.refl.new hd1).new (by rw [Zf hxd1]; exact hx1)).none hrd1
    · rw [hT1] at h; cases h
  have hsl4 := s1' _ _ hsl3
  refine ⟨hsl4, fun hl hhl => k1 _ _ ?_⟩
  have ap : ∀ y, D0.foot y → ¬ D1.foot y := fun y h w => Wf H0 (f1 y w) h
  have H0 := H0.sub s1'
  have nsl : ¬ D0.foot sl ∧ ¬ D1.foot sl := ⟨(fun z => by rw [f0 _ z] at hsl1; cases hsl1), (fun z => by rw [f1 _ z] at hsl3; cases hsl3)⟩
  have s5 : Sub σ4 (σ4.set hl (.list [V.ref x0, V.ref x1])) := Sub.refl.new hhl
  have nhl : ¬ D0.foot hl ∧ ¬ D1.foot hl := ⟨Wf H0 hhl, Wf H1 hhl⟩
  have hsh : sl ≠ hl := fun z => by rw [z, hhl] at hsl4; cases hsl4
  have ehl : (σ4.set hl (.list [V.ref x0, V.ref x1])) hl = some (.list [V.ref x0, V.ref x1]) := Zd
  simp only [List.nil_append, List.singleton_append]
  generalize σ4.set hl (.list [V.ref x0, V.ref x1]) = σ5 at s5 ehl ⊢
  have H0 := H0.sub s5
  have H1 := H1.sub s5
  have hsl5 := s5 _ _ hsl4
  refine Zo fun K1 k1 => ?_
  dsimp only [Z5, Zay, Yj, Zt, List.length_cons, List.length_nil, Zof]
  refine fun r0 e0 hr0 r1 e1 hr1 => ⟨Yh rfl, fun rl hrl => k1 _ _ ?_⟩
  have nr0 : ¬ D0.foot r0 ∧ ¬ D1.foot r0 := ⟨Wf H0 hr0, Wf H1 hr0⟩
  have sA := Sub.refl.new (o := .dictI [] e0) hr0
  have nr1 : ¬ D0.foot r1 ∧ ¬ D1.foot r1 := ⟨Wf (H0.sub sA) hr1, Wf (H1.sub sA) hr1⟩
  have sB := sA.new (o := .dictI [] e1) hr1
  have nrl : ¬ D0.foot rl ∧ ¬ D1.foot rl := ⟨Wf (H0.sub sB) hrl, Wf (H1.sub sB) hrl⟩
  have s6 := sB.new (o := .list [V.ref r0, V.ref r1]) hrl
  have er0 := Zl (p := .list [V.ref r0, V.ref r1]) (Zl (p := .dictI [] e1) (Zd (σ := σ5) (a := r0) (o := .dictI [] e0)) hr1) hrl
  have er1 := Zl (p := .list [V.ref r0, V.ref r1]) (Zd (σ := σ5.set r0 (.dictI [] e0)) (a := r1) (o := .dictI [] e1)) hrl
  have erl : (((σ5.set r0 (.dictI [] e0)).set r1 (.dictI [] e1)).set rl (.list [V.ref r0, V.ref r1])) rl = some (.list [V.ref r0, V.ref r1]) := Zd
  have rls : sl ≠ rl := fun z => by rw [z] at hsl5; rw [sB _ _ hsl5] at hrl; cases hrl
  have rlh : hl ≠ rl := fun z => by rw [z] at ehl; rw [sB _ _ ehl] at hrl; cases hrl
  generalize ((σ5.set r0 (.dictI [] e0)).set r1 (.dictI [] e1)).set rl (.list [V.ref r0, V.ref r1]) = σ6 at s6 er0 er1 erl ⊢
  refine Zo fun K1 k1 => ?_
  dsimp only [Z5, Zay, Yj, Zt, Zm, List.length_cons, List.length_nil]
  refine ⟨Yh rfl, fun cl hcl => k1 _ _ ?_⟩
  have ncl : ¬ D0.foot cl ∧ ¬ D1.foot cl := ⟨Wf (H0.sub s6) hcl, Wf (H1.sub s6) hcl⟩
  have s7 := s6.new (o := .list [V.int 0, V.int 0]) hcl
  have s67 : Sub σ6 (σ6.set cl (.list [V.int 0, V.int 0])) := Sub.refl.new hcl
  have ecl : (σ6.set cl (.list [V.int 0, V.int 0])) cl = some (.list [V.int 0, V.int 0]) := Zd
  have cne : ∀ {y o}, σ6 y = some o → y ≠ cl := fun {y o} q z => by rw [z, hcl] at q; cases q
  generalize σ6.set cl (.list [V.int 0, V.int 0]) = σ7 at s7 s67 ecl ⊢
  refine Zo fun K1 k1 => ?_
  dsimp only [Z5, Zay, Yj, List.length_nil]
  refine ⟨Yh rfl, fun hb hhb => k1 _ _ ?_⟩
  have nhb : ¬ D0.foot hb ∧ ¬ D1.foot hb := ⟨Wf (H0.sub s7) hhb, Wf (H1.sub s7) hhb⟩
  have s8 := s7.new (o := .list []) hhb
  have s78 : Sub σ7 (σ7.set hb (.list [])) := Sub.refl.new hhb
  have ehb : (σ7.set hb (.list [])) hb = some (.list (([] : List (Addr × Addr)).map Zaa)) := Zd
  have bne : ∀ {y o}, σ7 y = some o → y ≠ hb := fun {y o} q z => by rw [z, hhb] at q; cases q
  generalize σ7.set hb (.list []) = σ8 at s8 s78 ehb ⊢
  refine Yl fun K1 k1 r1' => ?_
  dsimp only [Zgb, Zap, Zah, Zm, Zk, Zhn, Zgp, Zf2, Loc.set, String.reduceBEq, cond_true, cond_false]
  refine ⟨by simp [Zbe], by simp [Zbe], fun cb hcb => ?_⟩
  simp only [Zd]
  have hcut : ∃ cells : List Int, Zfn (some 2) (some 26) (ns.map V.int) = cells.map V.int ∧ cells.length ≤ 24 := ⟨(ns.take 26).drop 2, by simp [Zfn, Zf5, loN, List.map_take, List.map_drop], by simp; exact Zw8 hns⟩
  obtain ⟨cells, hcells, hclen⟩ := hcut
  rw [hcells]
  have ncb : ¬ D0.foot cb ∧ ¬ D1.foot cb := ⟨Wf (H0.sub s8) hcb, Wf (H1.sub s8) hcb⟩
  have s9 : Sub σ8 (σ8.set cb (.list (cells.map V.int))) := Sub.refl.new hcb
  have ecb : (σ8.set cb (.list (cells.map V.int))) cb = some (.list (cells.map V.int)) := Zd
  have ene : ∀ {y o}, σ8 y = some o → y ≠ cb := fun {y o} q z => by rw [z, hcb] at q; cases q
  generalize σ8.set cb (.list (cells.map V.int)) = σ9 at s9 ecb ⊢
  have up := s8.trans s9
  have own0 : ∀ {y}, ¬ D0.foot y ∧ ¬ D1.foot y → y ≠ hb → y ≠ rl → y ≠ cl → ¬ Zqz (fun i => if i then D1 else D0) rl cl hb y := fun {y} h z1 z2 z3 w => by
    rcases w with ⟨i, w⟩ | w | w | w
    · cases i
      · exact h.1 w
      · exact h.2 w
    · exact z1 w
    · exact z2 w
    · exact z3 w
  have I0 : Zq0 CC hl rl cl sl hb cb (fun i => if i then x1 else x0) (fun i => if i then a1 else a0) (fun i => if i then b1 else b0) (fun i => if i then kk1 else kk0) cells σ9 (fun i => if i then D1 else D0) (fun _ => 0) (fun i => if i then e1 else e0) (fun i => if i then r1 else r0) (fun _ => []) [] 0 := by
    have w0 : ∀ {D : HD} {a b : Int}, D.T = [] → D.a = a → D.b = b → D.nx = 0 → 1 ≤ a ∧ a ≤ 8 → 1 ≤ b ∧ b ≤ 8 → Zgh D 0 ∧ D.T.length ≤ 40 ∧ D.S.Perm [] ∧ D.nx ≤ (0 : Nat) := fun {D a b} hT ha hb' hn h1 h2 => by
      have hS : D.S = [] := by unfold HD.S; rw [hT]; rfl
      exact ⟨⟨by rw [hS]; exact Zlj.empty, by rw [ha]; exact h1, by rw [hb']; exact h2, by rw [hn]; decide, fun y hy => by rw [hS] at hy; cases hy⟩, by rw [hT]; decide, by rw [hS], by rw [hn]; decide⟩
    have W0 := w0 hT0 hDa0 hDb0 hDn0 ha0 hb0
    have W1 := w0 hT1 hDa1 hDb1 hDn1 ha1 hb1
    exact {
      hall := fun i => by cases i; exact H0.sub up; exact H1.sub up
      well := fun i => by cases i; exact W0.1; exact W1.1
      few := fun i => by cases i; exact W0.2.1; exact W1.2.1
      rows := fun i => by cases i; exact (s67.trans (s78.trans s9)) _ _ er0; exact (s67.trans (s78.trans s9)) _ _ er1
      perm := fun i => by cases i; exact W0.2.2.1; exact W1.2.2.1
      sa := fun i => by cases i; exact hDa0; exact hDa1
      sb := fun i => by cases i; exact hDb0; exact hDb1
      nx := fun i => by cases i; exact W0.2.2.2; exact W1.2.2.2
      off := fun i j => by cases i <;> cases j; exact nr0.1; exact nr0.2; exact nr1.1; exact nr1.2
      apart := fun i j y h z => by cases i <;> cases j; exact absurd rfl h; exact ap y z; exact fun w => ap y w z; exact absurd rfl h
      eh := up _ _ ehl
      er := (s67.trans (s78.trans s9)) _ _ erl
      ec := by rw [(s78.trans s9) _ _ ecl, two]; simp [hDn0, hDn1]
      es := up _ _ hsl5
      eb := s9 _ _ ehb
      ee := ecb
      nh := own0 nhl (bne (s7 _ _ ehl)) rlh (cne (s6 _ _ ehl))
      ns := own0 nsl (bne (s7 _ _ hsl5)) rls (cne (s6 _ _ hsl5))
      ne := own0 ncb (Ne.symm (ene ehb)) (Ne.symm (ene (s78 _ _ (s67 _ _ erl)))) (Ne.symm (ene (s78 _ _ ecl)))
      fr := fun i => by cases i; exact nrl.1; exact nrl.2
      fc := fun i => by cases i; exact ncl.1; exact ncl.2
      fb := fun i => by cases i; exact nhb.1; exact nhb.2
      d1 := cne erl
      d2 := bne (s67 _ _ erl)
      d3 := bne ecl
      held := fun p hp => absurd hp List.not_mem_nil }
  generalize (fun i : Bool => if i then x1 else x0) = x at I0
  generalize (fun i : Bool => if i then a1 else a0) = a at I0
  generalize (fun i : Bool => if i then b1 else b0) = b at I0
  generalize (fun i : Bool => if i then kk1 else kk0) = kk at I0
  refine ⟨nofun, Zaf (fun xs ℓ σ' => ∀ P0 : Prop, (∀ (rest : List Int) (D : Bool → HD) (m ep : Bool → Nat) (rd : Bool → Addr) (L : Bool → List Rw) (hs : List (Addr × Addr)) (n : Nat), (xs = rest.map V.int) → (Zq0 CC hl rl cl sl hb cb x a b kk cells σ' D m ep rd L hs n) → (n + rest.length ≤ 24) → (hs.length + 1000 * rest.length ≤ 24000) → (ℓ "_law_sizes_here" = some (.ref sl)) → (ℓ "_law_halls" = some (.ref hl)) → (ℓ "_law_rows" = some (.ref rl)) → (ℓ "_law_came" = some (.ref cl)) → (ℓ "_law_held" = some (.ref hb)) → P0) → P0) ?_ ?_ (fun _ kI => kI (cells) (_) (_) (_) (_) (_) (_) (0) (rfl) (I0) (by exact Zw7 hclen) (by simp; exact Zw6 hclen) (rfl) (rfl) (rfl) (rfl) (rfl))⟩
  · intro ℓ σ' hI0
    refine hI0 _ fun rest D m ep rd L hs n h1 I hn hhl e1 e2 e3 e4 e5 => ?_
    refine ⟨I.ee, k1 _ _ ?_⟩
    refine Zo fun K2 k2 => ?_
    dsimp only [Zgb, Zae, Zm]
    refine ⟨by decide, Yh rfl, nofun, ?_⟩
    refine Ww (fun i ℓ6 σ6 => ∀ P0 : Prop, (∀ hs6, (Zq0 CC hl rl cl sl hb cb x a b kk cells σ6 D m ep rd L hs6 n) → (hs6.length ≤ hs.length + 500 * i) → (ℓ6 "_law_sizes_here" = some (.ref sl)) → (ℓ6 "_law_halls" = some (.ref hl)) → (ℓ6 "_law_rows" = some (.ref rl)) → (ℓ6 "_law_held" = some (.ref hb)) → P0) → P0) ?_ ?_ (fun _ kI => kI (hs) (I) (by exact Zw5) (e1) (e2) (e3) (e5))
    · intro ℓ6 σ6 hI0
      refine hI0 _ fun hs6 I6 hl6 g1 g2 g3 g5 => ?_
      refine ⟨trivial, k2 _ _ ?_⟩
      refine Yg fun K3 r3 => ?_
      dsimp only [Za8, Zap, Zah, Y6, Zav, Zay, Yj, Zk, Zsf, Wy, List.length_nil]
      simp only [g5, I6.eb]
      refine ⟨nofun, Xc Zaa (fun _ => false) Zaa hs6 (fun σ2 s2 => s2 _ _ I6.eb) (fun p hp' σ2 s2 => ⟨_, fun P h => h, fun Qb hQ => ?_, fun z => nomatch z⟩) fun σ2 s2 fb hfb => ?_⟩
      · have hh := (I6.held p hp').keep (σ' := σ2) (Bad' := Zqz D rl cl hb) fun y l q nb => ⟨s2 _ _ q, nb⟩
        dsimp only [Zm, Zk, Xm, Wy, Yq, Loc.set, Loc.bare, String.reduceBEq, cond_true, cond_false]
        refine Xp (xs := [V.ref p.1, V.ref p.2]) (Z8 (by decide) rfl) (Xp (xs := [V.ref p.1, V.ref p.2]) (Z8 (by decide) rfl) (hh.eq ?_))
        simp only [Bool.not_true]
        exact hQ _ Sub.refl
      have hnil : (hs6.filter fun _ => false) = [] := by rw [List.filter_eq_nil_iff]; intro _ _; simp
      rw [hnil]
      refine ⟨Yh rfl, fun zb hzb => Zp1 (Zl Zd hzb) Zd ?_⟩
      exact r3 _ _ _ (kret _ _ _ _ Sub.refl (hq _))
    · intro i ℓ6 σ6 K3 hi3 k3 r3 hI0
      refine hI0 _ fun hs6 I6 hl6 g1 g2 g3 g5 => ?_
      have hi2 : i < 2 := hi3
      obtain ⟨s, hsi⟩ : ∃ s : Bool, (i : Int) = sI s := by
        rcases (show i = 0 ∨ i = 1 by exact Zre hi2) with rfl | rfl
        · exact ⟨false, rfl⟩
        · exact ⟨true, rfl⟩
      refine ⟨trivial, ?_⟩
      dsimp only [Xd]
      rw [hsi]
      refine Zo fun K4 k4 => ?_
      refine Xw fun KB kt kf => ?_
      dsimp only [Ye, Yj, Zt, Zm, Zk, Zax, Xr, Zco, Yq, Loc.set, String.reduceBEq, cond_true, cond_false]
      simp only [g1, g2, g3, g5]
      refine Za1 I6.eh (Zbq s) (Za1 I6.es (Zbq s) (Za1 I6.er (Zbq s) ?_))
      refine ⟨x s, rd s, hb, D s, m s, L s, ep s, kk s, 10, hs6, ?_, I6.hall s, I6.well s, by have := I6.few s; exact Nat.lt_of_le_of_lt this (by decide), I6.rows s, I6.perm s, I6.eb, by exact Zw4 hn hhl hl6 hi2 hsi, I6.fb s, fun σ7 hs7 G7 => ?_⟩
      · rw [I6.sa s, I6.sb s]; rfl
      refine kf _ ?_
      dsimp only [Zan]
      exact k4 _ _ (k3 _ _ (fun _ kI => kI (hs7) (I6.grow G7) (by have := G7.len; exact Zw3 hl6 hsi this) (g1) (g2) (g3) (g5)))
  · intro v xs ℓ σ' K2 k2 r2 hI0
    refine hI0 _ fun rest D m ep rd L hs n h1 I hn hhl e1 e2 e3 e4 e5 => ?_
    obtain ⟨cell, rest, rfl, rfl, rfl⟩ := Yp h1
    refine ⟨I.ee, ?_⟩
    dsimp only [Xd]
    simp only [List.length_cons] at hn hhl
    have nx0 := (I.well false).nx
    have nx1 := (I.well true).nx
    refine Zo fun K3 k3 => ?_
    dsimp only [Z5, Ye, Yj, Zt, Zm, Zk, Zc6, Zb7, Yq, Loc.set, String.reduceBEq, cond_true, cond_false]
    simp only [e4]
    refine Za1 I.ec (Zbq false) (Za1 I.ec (Zbq true) ⟨.of_left (by decide), cell, _, rfl, by exact Zw2 nx0 nx1, by exact Zw1 nx0 nx1, fun q hq0 => k3 _ _ ?_⟩)
    refine Zo fun K3 k3 => ?_
    dsimp only [Z5, Ye, Yj, Zt, Zm, Zk, Zsf, Wy, Zc6, Zb7, Loc.set, String.reduceBEq, cond_true, cond_false]
    refine ⟨by decide, by decide, Zaq ⟨_, rfl, k3 _ _ ?_⟩⟩
    generalize ((q.fdiv 11).fmod 3 == 1) = s
    have few := I.few s
    have ha8 := (I.well s).a8
    have hb8 := (I.well s).b8
    rw [I.sa s] at ha8
    rw [I.sb s] at hb8
    have hLl : (L s).length = (D s).T.length := by rw [← (I.perm s).length_eq]; simp [HD.S]
    refine Zo fun K3 k3 => ?_
    have fin : ∀ (cm : Bool) (dv : V) (ℓ5 : Loc), Zn1 (D s) cm dv → ℓ5 "_law_sizes_here" = some (.ref sl) → ℓ5 "_law_halls" = some (.ref hl) → ℓ5 "_law_rows" = some (.ref rl) → ℓ5 "_law_came" = some (.ref cl) → ℓ5 "_law_held" = some (.ref hb) → ℓ5 "_law_mixed_here" = some (.int q) → ℓ5 "_law_at" = some (.int (sI s)) → ℓ5 "_law_deed_here" = some dv → K3 .next ℓ5 σ' := by
      intro cm dv ℓ5 hdv g1 g2 g3 g4 g5 g6 g7 g8
      refine k3 _ _ ?_
      refine Zo fun K4 k4 => ?_
      dsimp only [Ye, Yj, Zt, Zk, Yq, Wi]
      simp only [g2, g3, g4, g7, g8]
      have nxs := (I.well s).nx
      have nxn := I.nx s
      refine Za1 I.eh (Zbq s) (Za1 I.er (Zbq s) (Za1 I.ec (Zbq s) ⟨x s, rd s, D s, m s, L s, ep s, cm, dv, rfl, I.hall s, I.well s, few, by exact Zw0 hn nxs nxn, I.rows s, I.perm s, I.off s s, hdv, fun σ5 D5 m5 L5 rd5 ep5 H5 W5 ha5 hb5 h40 hn5 hp5 hr5 r0 nf5 keep5 new5 => Zsg (v := rd5) s (keep5 _ _ I.er (I.fr s)) (k4 _ _ ?_)⟩))
      have J := I.done s cm H5 W5 ha5 hb5 h40 hn5 hp5 hr5 r0 nf5 keep5 new5
      have ecl : (σ5.set rl (.list (two (Zei rd s rd5) V.ref))) cl = some (.list (two (fun i => (D i).nx) V.int)) := by rw [Zf (Ne.symm I.d1)]; exact keep5 _ _ I.ec (I.fc s)
      refine Zo fun K4 k4 => ?_
      dsimp only [Ye, Yj, Zt, Zm, Zk, Zsf, Wy, Zc6, Zb7, Yq, Wi]
      simp only [g4, g7, g8]
      refine Za1 ecl (Zbq s) (hdv.first ⟨_, rfl, ?_⟩)
      show Wj (V.ref cl) (V.int (sI s)) (V.int ((D s).nx + if cm then 1 else 0)) _ _
      rw [← hn5]
      refine Zsg (v := D5.nx) s ecl (k4 _ _ ?_)
      generalize (σ5.set rl (.list (two (Zei rd s rd5) V.ref))).set cl (.list (two (Zei (fun i => (D i).nx) s D5.nx) V.int)) = σ6 at J ⊢
      generalize Zei D s D5 = D6 at J
      generalize Zei m s m5 = m6 at J
      generalize Zei ep s ep5 = ep6 at J
      generalize Zei rd s rd5 = rd6 at J
      generalize Zei L s L5 = L6 at J
      refine Zo fun K4 k4 => ?_
      refine Xw fun KB kt kf => ?_
      dsimp only [Zm, Zk, Xm, Wy, Yq]
      simp only [g3, g7]
      refine Za1 J.er (Zbq s) ?_
      dsimp only [Zdj]
      refine kf _ ?_
      dsimp only [Zan]
      refine k4 _ _ ?_
      refine Zo fun K4 k4 => ?_
      dsimp only [Zgb, Zap, Zah, Zay, Yj, Zt, Zm, Zk, Zc6, Zb7, Yq, List.length_cons, List.length_nil]
      simp only [g6]
      refine ⟨Yh rfl, fun p0 h0 => ⟨Yh rfl, fun p1 h1 => ⟨Yh rfl, fun pl hpl => ⟨by decide, by decide, ?_⟩⟩⟩⟩
      have sA : Sub σ6 _ := ((Sub.refl.new (o := .list [V.int 0, V.int 1]) h0).new (o := .list [V.int 1, V.int 0]) h1).new (o := .list [V.ref p0, V.ref p1]) hpl
      have z0 := Int.fmod_nonneg_of_pos (q.fdiv 5) (show (0 : Int) < 2 by decide)
      have z1 := Int.fmod_lt_of_pos (q.fdiv 5) (show (0 : Int) < 2 by decide)
      obtain ⟨pk, ks, hv, hpk, hkl, pk0⟩ : ∃ (pk : Addr) (ks : List Bool), atV [V.ref p0, V.ref p1] ((q.fdiv 5).fmod 2) = some (.ref pk) ∧ (((σ6.set p0 (.list [V.int 0, V.int 1])).set p1 (.list [V.int 1, V.int 0])).set pl (.list [V.ref p0, V.ref p1])) pk = some (.list (ks.map fun s => V.int (sI s))) ∧ ks.length = 2 ∧ σ6 pk = none := by
        rcases (show (q.fdiv 5).fmod 2 = 0 ∨ (q.fdiv 5).fmod 2 = 1 by exact Zwz z0 z1) with z | z
        · rw [z]
          exact ⟨p0, [false, true], Z8 (by decide) rfl, Zl (Zl Zd h1) hpl, rfl, h0⟩
        · rw [z]
          exact ⟨p1, [true, false], Z8 (by decide) rfl, Zl Zd hpl, rfl, (Sub.refl.new h0).none h1⟩
      refine Za1 Zd hv ?_
      generalize ((σ6.set p0 (.list [V.int 0, V.int 1])).set p1 (.list [V.int 1, V.int 0])).set pl (.list [V.ref p0, V.ref p1]) = σ7 at sA hpk ⊢
      simp only [hpk]
      have pkh : pk ≠ hb := fun z => by rw [z, J.eb] at pk0; cases pk0
      have J := J.grow ((Zd3.refl (n := 0) J.eb).sub sA)
      refine ⟨nofun, Zaf (fun xs ℓ7 σ8 => ∀ P0 : Prop, (∀ (ks' : List Bool) (hs7 : List (Addr × Addr)), (xs = (ks'.map fun s => V.int (sI s))) → (Zq0 CC hl rl cl sl hb cb x a b kk cells σ8 D6 m6 ep6 rd6 L6 hs7 (n + 1)) → (hs7.length + 500 * ks'.length ≤ hs.length + 1000) → (σ8 pk = some (.list (ks.map fun s => V.int (sI s)))) → (ℓ7 "_law_sizes_here" = some (.ref sl)) → (ℓ7 "_law_halls" = some (.ref hl)) → (ℓ7 "_law_rows" = some (.ref rl)) → (ℓ7 "_law_came" = some (.ref cl)) → (ℓ7 "_law_held" = some (.ref hb)) → (ℓ7 "_law_mixed_here" = some (.int q)) → P0) → P0) ?_ ?_ (fun _ kI => kI (ks) (hs) (rfl) (J) (by exact Zwy hkl) (hpk) (g1) (g2) (g3) (g4) (g5) (g6))⟩
      · intro ℓ7 σ8 hI0
        refine hI0 _ fun ks' hs7 y1 J7 y2 y3 f1 f2 f3 f4 f5 f6 => ?_
        refine ⟨y3, k4 _ _ ?_⟩
        dsimp only [Zan]
        exact k2 _ _ (fun _ kI => kI (rest) (D6) (m6) (ep6) (rd6) (L6) (hs7) (n + 1) (rfl) (J7) (by exact Zwx hn) (by exact Zww hhl y2) (f1) (f2) (f3) (f4) (f5))
      · intro v xs ℓ7 σ8 K5 k5 r5 hI0
        refine hI0 _ fun ks' hs7 y1 J7 y2 y3 f1 f2 f3 f4 f5 f6 => ?_
        obtain ⟨w, ks', rfl⟩ : ∃ s r, ks' = s :: r := by cases ks' with | nil => simp at y1 | cons s r => exact ⟨s, r, rfl⟩
        simp only [List.map_cons, List.cons.injEq] at y1
        obtain ⟨rfl, rfl⟩ := y1
        simp only [List.length_cons] at y2
        refine ⟨y3, ?_⟩
        dsimp only [Xd]
        refine Zo fun K6 k6 => ?_
        refine Xw fun KB kt kf => ?_
        dsimp only [Ye, Yj, Zt, Zm, Zk, Zax, Xr, Zco, Zc6, Zb7, Yq, Loc.set, String.reduceBEq, cond_true, cond_false]
        simp only [f1, f2, f3, f5, f6]
        refine Za1 J7.eh (Zbq w) (Za1 J7.es (Zbq w) (Za1 J7.er (Zbq w) ⟨by decide, ?_⟩))
        refine ⟨x w, rd6 w, hb, D6 w, m6 w, L6 w, ep6 w, kk w, q.fdiv 7 + sI w, hs7, ?_, J7.hall w, J7.well w, by have := J7.few w; exact Nat.lt_of_le_of_lt this (by decide), J7.rows w, J7.perm w, J7.eb, by exact Zwv hn hhl y2, J7.fb w, fun σ9 hs9 G9 => ?_⟩
        · rw [J7.sa w, J7.sb w]; rfl
        refine kf _ ?_
        dsimp only [Zan]
        exact k6 _ _ (k5 _ _ (fun _ kI => kI (ks') (hs9) (rfl) (J7.grow G9) (by have := G9.len; exact Zwu y2 this) (G9.keep _ _ y3 pkh) (f1) (f2) (f3) (f4) (f5) (f6)))
    dsimp only [Z5, Ye, Yj, Zt, Zm, Zk, Zc6, Zb7, Yq, Loc.set, String.reduceBEq, cond_true, cond_false]
    simp only [e1, e3]
    refine ⟨by decide, Za1 I.es (Zbq s) (Za1 I.er (Zbq s) ⟨_, a s, b s, kk s, 40, rd s, _, L s, _, ep s, rfl, I.rows s, Zdd (L s), ha8.1, ha8.2, hb8.1, hb8.2, by rw [Wk]; exact Zwt few hLl, by decide, fun k hk => ?_, fun hlt l r hl1 hl2 hr1 hr2 => ?_⟩)⟩
    · rw [Zcs] at hk
      obtain ⟨y, hy, e⟩ := List.mem_map.1 hk
      obtain ⟨t, ht, rfl⟩ := Zpe ((I.perm s).mem_iff.2 hy)
      rw [← e]
      exact fin false _ _ (.go t ht) e1 e2 e3 e4 e5 rfl rfl rfl
    · exact fin true _ _ (.come l r (by rw [Wk] at hlt; exact Zws few hLl hlt) ⟨hl1, by rw [I.sa s]; exact hl2⟩ ⟨hr1, by rw [I.sb s]; exact hr2⟩) e1 e2 e3 e4 e5 rfl rfl rfl
end
section
open PySem PySem.W PyProof.Rows
theorem Z4o {h : Heap} {mg : Str → Option Value} {o : Obj} {es : Array DictEntry} {ep : Nat} {n : Str} {v : Value} (hN : h.Ns mainGlobals mg) (h3 : h.get? mainGlobals = some o) (hd : o.data = .dict es ep) (e : nsFind es n = some v) : mg n = some v := by
  obtain ⟨o', es', ep', ho, hd', hk, hf⟩ := id hN
  rw [h3] at ho; cases ho
  rw [hd] at hd'; cases hd'
  exact (hf _).symm.trans e
theorem Z4q {mg : Str → Option Value} {n : Str} {a b : Addr} (e : mg n = some (.ref a)) (h : mg n = some (.ref b)) : b = a := (Value.ref.inj (Option.some.inj (e.symm.trans h))).symm
theorem Zuf {g : Gr} {h : Heap} {l : Addr} {vs : List Value} {ns : List Int} (hL : g.b0.IsList l vs.toArray) (hI : IntsAre vs ns) (hn : ns.length ≤ 1000) : VRs g h [V.frz (ns.map V.int)] [.ref l] := by
  obtain ⟨o, ho, hc, n, hd⟩ := hL
  refine Ys (Zc5.mpr ⟨by simp [Xv]; exact Nat.le_trans hn (by decide), l, o, vs.toArray, n, rfl, ho, hc, hd, ?_⟩) Xq
  clear ho hc hd hn
  show VRs g h _ vs
  induction hI with
  | nil => exact Xq
  | cons n t _ ih => exact Ys (Z9.mpr ⟨t, rfl⟩) ih
theorem Zt0 : Zki callerA 12 true := ⟨by decide, by decide, fun _ => rfl⟩
theorem Zwa {g : Gr} {P : Params} {mg mb : Str → Option Value} (hK : (KK P).In g.b0) (hN : g.b0.Ns mainGlobals mg) (hB : g.b0.Ns builtinsNs mb) (hb : ∀ x : Str, x ≠ "__name__" → mb x = bootBuiltins x) : NN g := by
  have h3 := hK mainGlobals _ rfl
  exact ⟨Zbw hN h3 rfl (by kernel_rfl) hB hb (by decide) (by kernel_rfl), Zbw hN h3 rfl (by kernel_rfl) hB hb (by decide) (by kernel_rfl), Zbw hN h3 rfl (by kernel_rfl) hB hb (by decide) (by kernel_rfl), Zbw hN h3 rfl (by kernel_rfl) hB hb (by decide) (by kernel_rfl), Zbw hN h3 rfl (by kernel_rfl) hB hb (by decide) (by kernel_rfl), Zbw hN h3 rfl (by kernel_rfl) hB hb (by decide) (by kernel_rfl), Zbw hN h3 rfl (by kernel_rfl) hB hb (by decide) (by kernel_rfl), Zbw hN h3 rfl (by kernel_rfl) hB hb (by decide) (by kernel_rfl), Zbw hN h3 rfl (by kernel_rfl) hB hb (by decide) (by kernel_rfl), Zbw hN h3 rfl (by kernel_rfl) hB hb (by decide) (by kernel_rfl), Zbw hN h3 rfl (by kernel_rfl) hB hb (by decide) (by kernel_rfl), Zbw hN h3 rfl (by kernel_rfl) hB hb (by decide) (by kernel_rfl), Zbw hN h3 rfl (by kernel_rfl) hB hb (by decide) (by kernel_rfl), Zbw hN h3 rfl (by kernel_rfl) hB hb (by decide) (by kernel_rfl), Zj2 hN h3 rfl (by kernel_rfl), Zj2 hN h3 rfl (by kernel_rfl), Zj2 hN h3 rfl (by kernel_rfl), Zj2 hN h3 rfl (by kernel_rfl), Zj2 hN h3 rfl (by kernel_rfl), Zbw hN h3 rfl (by kernel_rfl) hB hb (by decide) (by kernel_rfl)⟩
variable {g : Gr} {P : Params}
theorem NN.wh (N : NN g) (H : Addr → Prop) : NN (g.wh H) := ⟨N.n_isinstance, N.n_int, N.n_bool, N.n_len, N.n_max, N.n_min, N.n_range, N.n_sorted, N.n_list, N.n_dict, N.n_set, N.n_all, N.n_tuple, N.n_zip, N.n_LEFT, N.n_RIGHT, N.n_MOST_ENDS, N.n_MOST_PAIRS, N.n_Hall, N.n_str⟩
theorem Zlu (hK : (KK P).In g.b0) (N : NN g) (Kn : ∀ {n : String} {v : Value} {o : Obj} {es : Array DictEntry} {ep : Nat}, g.b0.get? mainGlobals = some o → o.data = .dict es ep → nsFind es (Str.ofString n) = some v → Wn g n v) : FnG g "_law_put" 6 Zt6 := by
  have h3 := hK mainGlobals _ rfl
  have F_whole : FnG g "_law_whole" 2 Yt := Wh (Kn h3 rfl (by kernel_rfl)) (hK 302 _ rfl) rfl (Zpv hK N).toF
  have F_idx : FnG g "_law_index" 2 Zjl := Wh (Kn h3 rfl (by kernel_rfl)) (hK 316 _ rfl) rfl (Zpw hK N).toF
  have F_free : FnG g "_law_free" 3 Zgr := Wh (Kn h3 rfl (by kernel_rfl)) (hK 321 _ rfl) rfl (Zpy hK N F_idx).toF
  have F_chn : FnG g "_law_chain" 3 Zit := Wh (Kn h3 rfl (by kernel_rfl)) (hK 328 _ rfl) rfl (Zr3 hK N F_idx).toF
  have F_szs : FnG g "_law_sizes" 4 Zks := Wh (Kn h3 rfl (by kernel_rfl)) (hK 335 _ rfl) rfl (Zrx hK N F_free F_chn).toF
  have F_way : FnG g "_law_is_way" 5 Zov := Wh (Kn h3 rfl (by kernel_rfl)) (hK 342 _ rfl) rfl (Ztv hK N (F_free.le (by decide)) (F_chn.le (by decide)) F_szs).toF
  have F_put : FnG g "_law_put" 6 Zt6 := Wh (Kn h3 rfl (by kernel_rfl)) (hK 347 _ rfl) rfl (Z14 hK N (F_whole.le (by decide)) (F_free.le (by decide)) F_way).toF
  exact F_put
theorem Zwb (hK : (KK P).In g.b0) (N : NN g) (Kn : ∀ {n : String} {v : Value} {o : Obj} {es : Array DictEntry} {ep : Nat}, g.b0.get? mainGlobals = some o → o.data = .dict es ep → nsFind es (Str.ofString n) = some v → Wn g n v) : Xu g 12 (.ref 410) Zum := by
  have h3 := hK mainGlobals _ rfl
  have F_num : FnG g "is_number" 2 Yt := Wh (Kn h3 rfl (by kernel_rfl)) (hK 118 _ rfl) rfl (Zk9 hK N).toF
  have F_oth : FnG g "other_side" 2 Zoq := Wh (Kn h3 rfl (by kernel_rfl)) (hK 125 _ rfl) rfl (Zj4 hK N).toF
  have M_end_of : FnM g (KK P) CC "end_of" 2 Zlt := fnM (by kernel_rfl) (by kernel_rfl) (by kernel_rfl) (Zr1 hK N)
  have M_met : FnM g (KK P) CC "met" 3 (Zt7 CC) := fnM (by kernel_rfl) (by kernel_rfl) (by kernel_rfl) (Z15 hK N M_end_of)
  have M_count : FnM g (KK P) CC "count" 4 (Zfv CC) := fnM (by kernel_rfl) (by kernel_rfl) (by kernel_rfl) (Ztx hK N M_met)
  have M_open : FnM g (KK P) CC "open_hues" 4 (Zor CC) := fnM (by kernel_rfl) (by kernel_rfl) (by kernel_rfl) (Zk7 hK N M_met)
  have M_with : FnM g (KK P) CC "with_hue" 4 (Zs7 CC) := fnM (by kernel_rfl) (by kernel_rfl) (by kernel_rfl) (Znr hK N M_met)
  have M_chain : FnM g (KK P) CC "chain_from" 5 (Zo3 CC) := fnM (by kernel_rfl) (by kernel_rfl) (by kernel_rfl) (Zj6 hK N (F_oth.le (by decide)) M_with (M_end_of.le (by decide)))
  have M_turn : FnM g (KK P) CC "turn" 2 (Zs9 CC) := fnM (by kernel_rfl) (by kernel_rfl) (by kernel_rfl) (Zvh hK N)
  have M_ways : FnM g (KK P) CC "ways" 6 (Zs8 CC) := fnM (by kernel_rfl) (by kernel_rfl) (by kernel_rfl) (Zvg hK N (M_open.le (by decide)) M_chain)
  have M_hued : FnM g (KK P) CC "hued" 7 (Zq6 CC) := fnM (by kernel_rfl) (by kernel_rfl) (by kernel_rfl) (Zvl hK N (M_open.le (by decide)) M_ways (M_turn.le (by decide)))
  have M_nend : FnM g (KK P) CC "need_end" 3 (Zgd CC) := fnM (by kernel_rfl) (by kernel_rfl) (by kernel_rfl) (Znt hK N F_num)
  have M_npair : FnM g (KK P) CC "need_pair" 3 (Zes CC) := fnM (by kernel_rfl) (by kernel_rfl) (by kernel_rfl) (Zk8 hK N F_num)
  have M_come : FnM g (KK P) CC "come" 8 (Ztd CC) := fnM (by kernel_rfl) (by kernel_rfl) (by kernel_rfl) (Zvr hK N (M_nend.le (by decide)) (M_count.le (by decide)) M_hued)
  have M_go : FnM g (KK P) CC "go" 8 (Zwj CC) := fnM (by kernel_rfl) (by kernel_rfl) (by kernel_rfl) (Z4r hK N (M_npair.le (by decide)) (M_count.le (by decide)) M_hued)
  have M_pairs : FnM g (KK P) CC "pairs" 2 (Zop CC) := fnM (by kernel_rfl) (by kernel_rfl) (by kernel_rfl) (Ztt hK N)
  have M_hueof : FnM g (KK P) CC "hue_of" 4 (Zox CC) := fnM (by kernel_rfl) (by kernel_rfl) (by kernel_rfl) (Zr0 hK N M_npair)
  have F_Hall : Zfs g 4 (.ref CC) (Zui CC (Zta CC)) := Zq3 hK (by kernel_rfl) (by kernel_rfl) (by kernel_rfl) (Zvk hK N F_num)
  have F_cell : FnG g "_law_cell_at" 2 Zkt := Wh (Kn h3 rfl (by kernel_rfl)) (hK 288 _ rfl) rfl (Zpz hK N).toF
  have F_mix : FnG g "_law_mixed" 2 Zot := Wh (Kn h3 rfl (by kernel_rfl)) (hK 295 _ rfl) rfl (Ztu hK N).toF
  have F_sz : FnG g "_law_sizes_by" 2 Zir := Wh (Kn h3 rfl (by kernel_rfl)) (hK 366 _ rfl) rfl (Zns hK N).toF
  have F_ends : FnG g "_law_ends" 3 Zo0 := Wh (Kn h3 rfl (by kernel_rfl)) (hK 371 _ rfl) rfl (Zvo hK N).toF
  have F_cnt : FnG g "_law_count" 2 Zff := Wh (Kn h3 rfl (by kernel_rfl)) (hK 309 _ rfl) rfl (Zr2 hK N).toF
  have F_put := Zlu hK N Kn
  have F_putH : ∀ H, FnG (g.wh H) "_law_put" 6 Zt6 := fun H => Zlu (g := g.wh H) hK (N.wh H) fun h hd e => Kn h hd e
  have F_come : FnG g "_law_come" 7 Zo2 := Wh (Kn h3 rfl (by kernel_rfl)) (hK 354 _ rfl) rfl (Zty hK N (F_cnt.le (by decide)) F_put).toF
  have F_deed : FnG g "_law_deed" 4 Zo1 := Wh (Kn h3 rfl (by kernel_rfl)) (hK 378 _ rfl) rfl (Zvq hK N F_ends).toF
  have F_gone : FnG g "_law_gone" 7 Ztb := Wh (Kn h3 rfl (by kernel_rfl)) (hK 359 _ rfl) rfl (Zvm hK N (F_cnt.le (by decide)) F_putH).toF
  have M_ishue : FnM g (KK P) CC "is_hue" 5 (Zow CC) := fnM (by kernel_rfl) (by kernel_rfl) (by kernel_rfl) (Zrz hK N (F_num.le (by decide)) M_count)
  have M_ofhue : FnM g (KK P) CC "of_hue" 6 (Zos CC) := fnM (by kernel_rfl) (by kernel_rfl) (by kernel_rfl) (Zry hK N M_ishue)
  have M_nplace : FnM g (KK P) CC "need_place" 4 (Zfe CC) := fnM (by kernel_rfl) (by kernel_rfl) (by kernel_rfl) (Zj5 hK N M_nend)
  have M_free : FnM g (KK P) CC "free" 6 (Zoz CC) := fnM (by kernel_rfl) (by kernel_rfl) (by kernel_rfl) (Zvn hK N (M_nplace.le (by decide)) (M_open.le (by decide)) (M_count.le (by decide)))
  have M_full : FnM g (KK P) CC "fullest" 5 (Zis CC) := fnM (by kernel_rfl) (by kernel_rfl) (by kernel_rfl) (Zpx hK N M_count (M_met.le (by decide)))
  have F_whole : FnG g "_law_whole" 2 Yt := Wh (Kn h3 rfl (by kernel_rfl)) (hK 302 _ rfl) rfl (Zpv hK N).toF
  have F_idx : FnG g "_law_index" 2 Zjl := Wh (Kn h3 rfl (by kernel_rfl)) (hK 316 _ rfl) rfl (Zpw hK N).toF
  have F_free : FnG g "_law_free" 3 Zgr := Wh (Kn h3 rfl (by kernel_rfl)) (hK 321 _ rfl) rfl (Zpy hK N F_idx).toF
  have F_list : FnG g "_law_list" 4 Zou := Wh (Kn h3 rfl (by kernel_rfl)) (hK 383 _ rfl) rfl (Zvj hK N (F_whole.le (by decide))).toF
  have F_full : FnG g "_law_fullest" 4 Zoy := Wh (Kn h3 rfl (by kernel_rfl)) (hK 388 _ rfl) rfl (Ztw hK N (F_cnt.le (by decide))).toF
  have F_dead : FnG g "_law_told" 7 (fun _ _ _ _ => False) := Wh (Kn h3 rfl (by kernel_rfl)) (hK 393 _ rfl) rfl (.mk (by intros; rename_i h; exact h.elim))
  have told := fun {r bd bd' : Nat} {T : TF} {ok : Int → Prop} (hr : 7 ≤ r) (hbd : 70 ≤ bd) (hT : ∀ w, ok w → Int.fmod w 3 = 2 → 1 + bd' ≤ bd ∧ ∀ xs σ Q E, Zm4 CC (fun w => w = 0) bd' xs σ Q E → T xs σ Q E) (F : FnG g "_law_told" r T) => Zvi hbd hT hK N (F_cnt.le (by exact Zth hr)) (F_whole.le (by exact Zth hr)) (F_list.le (by exact Zrd hr)) (F_free.le (by exact Zwr hr)) (F_full.le (by exact Zrd hr)) F (M_count.le (by exact Zrd hr)) (M_pairs.le (by exact Zth hr)) (M_hueof.le (by exact Zrd hr)) (M_ofhue.le (by exact Zus hr)) (M_free.le (by exact Zus hr)) (M_full.le (by exact Zwq hr))
  have F_told0 : FnG g "_law_told" 8 (Zm4 CC (fun w => w = 0) 70) := Wh (Kn h3 rfl (by kernel_rfl)) (hK 393 _ rfl) rfl (told (r := 7) (bd := 70) (bd' := 0) (ok := fun w => w = 0) (by decide) (by decide) (fun w h e => by subst h; exact absurd e (by decide)) F_dead).toF
  have F_told : FnG g "_law_told" 9 (Zm4 CC (fun _ => True) 71) := Wh (Kn h3 rfl (by kernel_rfl)) (hK 393 _ rfl) rfl (told (r := 8) (bd := 71) (bd' := 70) (ok := fun _ => True) (by decide) (by decide) (fun _ _ _ => ⟨by decide, fun _ _ _ _ h => h⟩) F_told0).toF
  have F_std : FnG g "_law_stands" 10 (Ziq CC) := Wh (Kn h3 rfl (by kernel_rfl)) (hK 398 _ rfl) rfl (Zrw hK N F_told).toF
  have F_done : FnG g "_law_done" 10 (Ztc CC) := Wh (Kn h3 rfl (by kernel_rfl)) (hK 405 _ rfl) rfl (Zvp hK N (F_come.le (by decide)) (F_gone.le (by decide)) (M_come.le (by decide)) (M_go.le (by decide))).toF
  exact Z16 hK N (F_Hall.le (by decide)) (F_cell.le (by decide)) (F_mix.le (by decide)) (F_sz.le (by decide)) (F_deed.le (by decide)) (F_done.le (by decide)) (F_std.le (by decide))
end
end Mine
open PySem PySem.W PyProof.Rows Mine
theorem PySem.Challenge.cw_uf040033_04_holds : PySem.Challenge.rw_uf040033_04.Holds := by
  refine holds_law Mine.said fun said => ?_
  refine PySem.W.holds_open (q := Mine.qq) (loose := Mine.LL) (Xt := fun s => xlAt Mine.qq [] s && recOk [] s) (XP := XL Mine.qq []) (Yf := Hook.obs Mine.HKK) (Ya := Hook.val Mine.HKK) (YP := Hook.says Mine.HKK) Mine.left (Hook.of Mine.HKK) (Hook.keeps Mine.HKK) (fun s e => xl_of s (Bool.and_eq_true_iff.mp e).1) XL.keeps (by rfl) (by rfl) (by rfl) (fun s e => recFacts_of (Bool.and_eq_true_iff.mp e).2) (by rfl) said (by decide +kernel) ⟨rfl, rfl, rfl, rfl, rfl, by decide +kernel⟩ ?hw ?hc
  case hw => w_witness2
  intro w s₀ s₁ mg mb G Y fa o pm cd doc dV kV ho hd hcd hD hmg hg args vals as hpre hlay hrd hwl hlo
  have KX := kIn_of Y
  refine Ground.open G ?_
  intro T B D TE TW
  try (refine guard_noD D (by decide +kernel) ?_; clear D)
  wrow_args hpre hlay hrd hwl hlo
  first | refine callC_kw (enter_call ?_) | refine enter_call ?_ | refine callC_kw (enter_callW ?_) | refine enter_callW ?_
  w_top on
  try refine codeAny_mono ?_ (fun _ _ g => GoodW.toG g)
  rename_i ns hs hlay0 hL1 hr1 hl2 as1 as2 l vs as3 hL ra w1 r0 hI hr hc1 hc2
  have hlen : ns.length ≤ 63 := by exact Z35 hc1
  let g : Gr := ⟨PySem.Challenge.rw_uf040033_04.row.prog, w, s₁.heap, fun _ => False⟩
  have hK : (KK w.params).In g.b0 := KX
  have h3 := hK mainGlobals _ rfl
  obtain rfl : fa = 410 := Z4q (Z4o (n := Str.ofString "law") (v := .ref 410) T.g h3 rfl (by kernel_rfl)) hmg
  have N : NN g := Zwa hK T.g T.b T.builtins
  have L := Zwb hK N fun h hd e => Zj2 T.g h hd e
  have Gk : GOk g := ⟨T.nolimit, T.seer (by decide +kernel), rfl⟩
  have R0 : Rel g s₁.heap (fun _ => none) := ⟨fun _ h => h.elim, fun _ _ h => h, fun _ _ h => nomatch h⟩
  refine codeAny_mono (L.run callerA s₁ (fun _ => none) [.frz (ns.map V.int)] [.ref l] (fun v _ => v = .bool true) (fun _ _ => False) Gk ⟨[], rfl, trivial, fun _ h => nomatch h⟩ Zt0 R0 (Zuf hL hI (by exact Z34 hc1)) ⟨ns, rfl, hlen, fun _ => rfl⟩) fun r s' p => ?_
  match r, p with
  | .ok (.ret v), p =>
    obtain ⟨x, σ', hv, hR, hx, hsm, rfl⟩ := p
    rw [Wo.mp hv]
    exact ⟨.inl ⟨.bool true, .bool true, [], rfl, fun _ => rfl, .bool true, (by wrow_post), fun _ => ⟨List.nodup_nil, fun _ h => nomatch h⟩⟩, hR.base, hsm.2.1, hsm.1.trans hg⟩
  | .error e, p => obtain ⟨_, _, h, _⟩ := p; exact h.elim
