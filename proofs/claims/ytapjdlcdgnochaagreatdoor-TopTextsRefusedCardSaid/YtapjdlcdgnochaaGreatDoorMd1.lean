/- The plain law: what the equations answer, whatever the program. -/
import Derived.Test.YtapjdlcdgnochaaGreatDoorMb1
import Derived.Test.YtapjdlcdgnochaaGreatDoorMa3
import Derived.Test.YtapjdlcdgnochaaGreatDoorMb2
import Derived.KernelRfl
import Derived.Lib.AtoiAllCases
set_option linter.unusedSectionVars false
set_option linter.unusedSimpArgs false
set_option linter.unusedVariables false

/- What functions answer when there is fuel enough. -/
namespace Mini
open Go

/-- with fuel enough it comes to z -/
def Ev {α : Type} (f : Nat → Option α) (z : α) : Prop := ∃ N, ∀ k, N ≤ k → f k = some z

theorem Ev.at {α : Type} {f : Nat → Option α} {z : α} (h : Ev f z) : ∃ k, f k = some z := by
  obtain ⟨N, h⟩ := h
  exact ⟨N, h N (Nat.le_refl N)⟩
theorem Ev.step {α : Type} {f : Nat → Option α} {g : Nat → Option α} {z : α} (he : ∀ k, f (k + 1) = g k) (h : Ev g z) : Ev f z := by
  obtain ⟨N, h⟩ := h
  refine ⟨N + 1, fun k hk => ?_⟩
  obtain ⟨k, rfl⟩ : ∃ j, k = j + 1 := ⟨k - 1, by omega⟩
  rw [he, h k (by omega)]
theorem Ev.ret {α : Type} {z : α} : Ev (fun _ => some z) z := ⟨0, fun _ _ => rfl⟩
theorem Ev.bind {α β : Type} {f : Nat → Option α} {g : Nat → α → Option β} {y : α} {z : β} (h1 : Ev f y) (h2 : Ev (fun k => g k y) z) : Ev (fun k => (f k).bind (g k)) z := by
  obtain ⟨N, h1⟩ := h1
  obtain ⟨M, h2⟩ := h2
  refine ⟨N + M, fun k hk => ?_⟩
  simp only [h1 k (by omega), Option.bind_some]
  exact h2 k (by omega)
/-- a value that hangs on no fuel -/
theorem Ev.let {α β : Type} {a : Option α} {g : Nat → α → Option β} {y : α} {z : β} (h1 : a = some y) (h2 : Ev (fun k => g k y) z) : Ev (fun k => a.bind (g k)) z := by
  rw [h1]; exact h2
theorem Ev.tt {α : Type} {c : Bool} {f g : Nat → Option α} {z : α} (hc : c = true) (h : Ev f z) : Ev (fun k => bsel c (f k) (g k)) z := by
  rw [hc]; exact h
theorem Ev.ff {α : Type} {c : Bool} {f g : Nat → Option α} {z : α} (hc : c = false) (h : Ev g z) : Ev (fun k => bsel c (f k) (g k)) z := by
  rw [hc]; exact h
theorem Ev.ite {α : Type} {c : Bool} {f g : Nat → Option α} {x y : α} (hf : c = true → Ev f x) (hg : c = false → Ev g y) : Ev (fun k => bsel c (f k) (g k)) (if c = true then x else y) := by
  cases c with
  | true => exact hf rfl
  | false => exact hg rfl
theorem Ev.eq {α : Type} {f : Nat → Option α} {x y : α} (h : Ev f x) (e : x = y) : Ev f y := e ▸ h

@[simp] theorem bsel_tt {α : Sort _} (x y : α) : bsel true x y = x := rfl
@[simp] theorem bsel_ff {α : Sort _} (x y : α) : bsel false x y = y := rfl
@[simp] theorem nt_tt : nt true = false := rfl
@[simp] theorem nt_ff : nt false = true := rfl
theorem bsel_or (b c : Bool) : bsel b true c = (b || c) := by cases b <;> rfl
theorem bsel_and (b c : Bool) : bsel b c false = (b && c) := by cases b <;> rfl
theorem nt_not (b : Bool) : nt b = !b := rfl

theorem w64_id {n : Int} (h0 : -9223372036854775808 ≤ n) (h1 : n ≤ 9223372036854775807) : w64 n = n := by
  show IntKind.i64.wrap n = n
  rw [show IntKind.i64.wrap n = (if (n % 18446744073709551616 ≥ 9223372036854775808) then n % 18446744073709551616 - 18446744073709551616 else n % 18446744073709551616) by
    simp [IntKind.wrap, IntKind.bits, IntKind.signed]]
  split <;> omega

section
variable {α : Type}
theorem rd_nat (xs : List α) (j : Nat) : rd xs (j : Int) = xs[j]? := by
  unfold rd
  rw [if_pos (Int.natCast_nonneg j)]
  simp
theorem rd_mid (pre : List α) (x : α) (suf : List α) : rd (pre ++ x :: suf) (pre.length : Int) = some x := by
  rw [rd_nat]; simp
theorem lt_mid (pre : List α) (x : α) (suf : List α) : decide ((pre.length : Int) < ((pre ++ x :: suf).length : Int)) = true := by
  rw [decide_eq_true_eq, List.length_append, List.length_cons]; omega
theorem lt_end (pre : List α) : decide ((pre.length : Int) < ((pre ++ []).length : Int)) = false := by
  simp
theorem next (pre : List α) (x : α) (h : pre.length + 1 ≤ 9223372036854775807) : w64 ((pre.length : Int) + 1) = (((pre ++ [x]).length : Nat) : Int) := by
  rw [w64_id (by omega) (by omega), List.length_append]
  rfl
theorem mid_next (pre : List α) (x : α) (suf : List α) : pre ++ x :: suf = (pre ++ [x]) ++ suf := by simp
theorem catL_eq {xs ys : List α} (h : xs.length + ys.length < 4294967296) : catL xs ys = some (xs ++ ys) := if_pos h
theorem subL_eq {xs : List α} {a b : Nat} (h1 : a ≤ b) (h2 : b ≤ xs.length) : subL xs (a : Int) (b : Int) = some ((xs.take b).drop a) := by
  unfold subL
  rw [if_pos ⟨by omega, by omega, by omega⟩]
  simp
end
theorem rdb_nat (s : List UInt8) (j : Nat) : rdb s (j : Int) = (s[j]?).map fun b => (b.toNat : Int) := by
  unfold rdb; rw [rd_nat]
theorem rdb_mid (pre : List UInt8) (x : UInt8) (suf : List UInt8) : rdb (pre ++ x :: suf) (pre.length : Int) = some (x.toNat : Int) := by
  unfold rdb; rw [rd_mid]; rfl
theorem eqS_iff (x y : List UInt8) : eqS x y = true ↔ x = y := by unfold eqS; simp
theorem eqS_self (x : List UInt8) : eqS x x = true := by simp [eqS]
theorem eqI_iff (x y : Int) : eqI x y = true ↔ x = y := by unfold eqI; simp
end Mini

/- The small functions. -/
namespace Mini
open Go
variable [MX]

def inB (n lo hi : Int) : Bool := decide (lo ≤ n) && decide (n ≤ hi)
theorem b_Within_ev (n lo hi : Int) : Ev (fun k => b_Within k n lo hi) (inB n lo hi) := Ev.step (b_Within_eq · n lo hi) (Ev.ret.eq (bsel_and _ _))
theorem p_in_ev (n lo hi : Int) : Ev (fun k => p_in k n lo hi) (inB n lo hi) := Ev.step (p_in_eq · n lo hi) (Ev.ret.eq (bsel_and _ _))
theorem n_in_ev (n lo hi : Int) : Ev (fun k => n_in k n lo hi) (inB n lo hi) := Ev.step (n_in_eq · n lo hi) (Ev.ret.eq (bsel_and _ _))
theorem b_Count_ev (h : Bool) : Ev (fun k => b_Count k h) (if h = true then 1 else 0) := Ev.step (b_Count_eq · h) (Ev.ite (fun _ => Ev.ret) (fun _ => Ev.ret))
theorem p_cond_ev (h : Bool) (e : Int) : Ev (fun k => p_cond k h e) (if h = true then e else 0) := Ev.step (p_cond_eq · h e) (Ev.ite (fun _ => Ev.ret) (fun _ => Ev.ret))
theorem n_cond_ev (h : Bool) (e : Int) : Ev (fun k => n_cond k h e) (if h = true then e else 0) := Ev.step (n_cond_eq · h e) (Ev.ite (fun _ => Ev.ret) (fun _ => Ev.ret))
theorem b_IsUpper_ev (c : Int) : Ev (fun k => b_IsUpper k c) (inB c 65 90) := Ev.step (b_IsUpper_eq · c) (Ev.ret.eq (bsel_and _ _))
theorem b_IsDigit_ev (c : Int) : Ev (fun k => b_IsDigit k c) (inB c 48 57) := Ev.step (b_IsDigit_eq · c) (Ev.ret.eq (bsel_and _ _))

def scalarB (k : Int) : Bool := decide (k = 0) || decide (k = 1) || decide (k = 2)
def dataK (k : Int) : Bool := scalarB k || decide (k = 4)
theorem r_IsScalar_ev (n : Int) : Ev (fun k => r_IsScalar k n) (scalarB n) := Ev.step (r_IsScalar_eq · n) (Ev.ret.eq (by simp only [bsel_or, scalarB]))
theorem r_IsData_ev (n : Int) : Ev (fun k => r_IsData k n) (dataK n) := Ev.step (r_IsData_eq · n) (Ev.bind (r_IsScalar_ev n) (Ev.ret.eq (by simp only [bsel_or, dataK])))
theorem p_isData_ev (o : MiOperand) : Ev (fun k => p_isData k o) (dataK o.2.1) := Ev.step (p_isData_eq · o) (Ev.ret.eq (by simp only [bsel_or, dataK, scalarB]))
theorem q_IsNumeric_ev (n : Int) : Ev (fun k => q_IsNumeric k n) (inB n 1 3) := Ev.step (q_IsNumeric_eq · n) (Ev.bind (b_Within_ev n 1 3) Ev.ret)
theorem r_isNumeric_ev (o : MiOperand) : Ev (fun k => r_isNumeric k o) (inB o.2.2.1.1 1 3) := Ev.step (r_isNumeric_eq · o) (Ev.bind (q_IsNumeric_ev _) Ev.ret)
theorem p_isNumeric_ev (o : MiOperand) : Ev (fun k => p_isNumeric k o) (!decide (o.2.2.1.1 = 0)) := Ev.step (p_isNumeric_eq · o) Ev.ret
theorem q_Amount_ev (n : Int) : Ev (fun k => q_Amount k n) (maxI n (negI .i64 n)) := Ev.step (q_Amount_eq · n) Ev.ret

def firstN : List Int → Int
  | [] => 0
  | x :: l => if x = 0 then firstN l else x
theorem p_first_5_ev : ∀ (suf pre : List Int), (pre ++ suf).length < 1000000 → Ev (fun k => p_first_5 k (pre ++ suf) ((pre ++ suf).length : Int) (pre.length : Int)) (firstN suf) := by
  intro suf
  induction suf with
  | nil => intro pre _; exact Ev.step (p_first_5_eq · _ _ _) (Ev.ff (lt_end pre) Ev.ret)
  | cons x suf ih =>
    intro pre hl
    refine Ev.step (p_first_5_eq · _ _ _) (Ev.tt (lt_mid pre x suf) (Ev.let (rd_mid pre x suf) ?_))
    by_cases hx : x = 0
    · refine Ev.ff (by simp [hx]) ?_
      have hp : pre.length + 1 ≤ 9223372036854775807 := by simp at hl; omega
      rw [next pre x hp, mid_next pre x suf]
      rw [mid_next pre _ suf] at hl
      rw [show firstN (x :: suf) = firstN suf by simp [firstN, hx]]
      exact ih _ hl
    · exact Ev.tt (by simp [hx]) (Ev.ret.eq (by simp [firstN, hx]))
theorem p_first_ev (l : List Int) (h : l.length < 1000000) : Ev (fun k => p_first k l) (firstN l) := Ev.step (p_first_eq · l) (p_first_5_ev l [] h)
theorem n_first_5_ev : ∀ (suf pre : List Int), (pre ++ suf).length < 1000000 → Ev (fun k => n_first_5 k (pre ++ suf) ((pre ++ suf).length : Int) (pre.length : Int)) (firstN suf) := by
  intro suf
  induction suf with
  | nil => intro pre _; exact Ev.step (n_first_5_eq · _ _ _) (Ev.ff (lt_end pre) Ev.ret)
  | cons x suf ih =>
    intro pre hl
    refine Ev.step (n_first_5_eq · _ _ _) (Ev.tt (lt_mid pre x suf) (Ev.let (rd_mid pre x suf) ?_))
    by_cases hx : x = 0
    · refine Ev.ff (by simp [hx]) ?_
      have hp : pre.length + 1 ≤ 9223372036854775807 := by simp at hl; omega
      rw [next pre x hp, mid_next pre x suf]
      rw [mid_next pre _ suf] at hl
      rw [show firstN (x :: suf) = firstN suf by simp [firstN, hx]]
      exact ih _ hl
    · exact Ev.tt (by simp [hx]) (Ev.ret.eq (by simp [firstN, hx]))
theorem n_first_ev (l : List Int) (h : l.length < 1000000) : Ev (fun k => n_first k l) (firstN l) := Ev.step (n_first_eq · l) (n_first_5_ev l [] h)

/-! ### names -/
def letterB (c : Int) : Bool := inB c 65 90 || decide (c = 36) || decide (c = 35) || decide (c = 64)
def otherB (c : Int) : Bool := inB c 48 57 || decide (c = 95) || decide (c = 46)
def nameFrom : Bool → List UInt8 → Bool
  | _, [] => true
  | b, c :: l => (letterB c.toNat || (!b && otherB c.toNat)) && nameFrom false l
def isNameB (s : Str) : Bool := decide (s ≠ []) && decide (s.length ≤ 10) && nameFrom true s

theorem pre_zero {α : Type} (pre : List α) : decide ((pre.length : Int) = 0) = pre.isEmpty := by
  cases pre with
  | nil => rfl
  | cons x l => simp; omega

theorem b_IsName_9_ev : ∀ (suf pre : Str), (pre ++ suf).length < 1000000 → Ev (fun k => b_IsName_9 k (pre ++ suf) (pre.length : Int)) (nameFrom pre.isEmpty suf) := by
  intro suf
  induction suf with
  | nil => intro pre _; exact Ev.step (b_IsName_9_eq · _ _) (Ev.ff (lt_end pre) (Ev.ret.eq rfl))
  | cons x suf ih =>
    intro pre hl
    refine Ev.step (b_IsName_9_eq · _ _) (Ev.tt (lt_mid pre x suf) (Ev.let (rdb_mid pre x suf) (Ev.bind (b_IsUpper_ev _) ?_)))
    have hp : pre.length + 1 ≤ 9223372036854775807 := by simp at hl; omega
    have hl2 := hl
    rw [mid_next] at hl2
    have hi := ih _ hl2
    rw [show (pre ++ [x]).isEmpty = false by cases pre <;> rfl] at hi
    rw [next pre x hp, mid_next, pre_zero]
    have e1 : (bsel (bsel (bsel (inB (x.toNat : Int) 65 90) true (decide ((x.toNat : Int) = 36))) true (decide ((x.toNat : Int) = 35))) true (decide ((x.toNat : Int) = 64))) = letterB x.toNat := by
      simp only [bsel_or, letterB]
    rw [e1]
    cases hA : letterB x.toNat with
    | true =>
      refine Ev.bind (y := false) (Ev.ff (by simp [hA]) Ev.ret) (Ev.ff (by simp [hA]) ?_)
      refine hi.eq ?_
      simp [nameFrom, hA]
    | false =>
      cases hE : pre.isEmpty with
      | true =>
        refine Ev.bind (y := false) (Ev.ff (by simp [hA, hE]) Ev.ret) (Ev.tt (by simp [hA, hE]) (Ev.ret.eq ?_))
        simp [nameFrom, hA]
      | false =>
        refine Ev.bind (y := inB x.toNat 48 57) (Ev.tt (by simp [hA, hE]) (b_IsDigit_ev _)) ?_
        have e2 : (bsel (nt false) (bsel false true (bsel (bsel (nt (inB (x.toNat : Int) 48 57)) (!decide ((x.toNat : Int) = 95)) false) (!decide ((x.toNat : Int) = 46)) false)) false) = !otherB x.toNat := by
          simp only [bsel_and, nt_not, otherB, bsel_ff]
          cases inB (x.toNat : Int) 48 57 <;> cases decide ((x.toNat : Int) = 95) <;> cases decide ((x.toNat : Int) = 46) <;> rfl
        cases hB : otherB x.toNat with
        | true =>
          refine Ev.ff ?_ (hi.eq (by simp [nameFrom, hB]))
          rw [← hA, hA, e2, hB]; rfl
        | false =>
          refine Ev.tt ?_ (Ev.ret.eq (by simp [nameFrom, hA, hB]))
          rw [e2, hB]; rfl

theorem b_IsName_ev (s : Str) (h : s.length < 1000000) : Ev (fun k => b_IsName k s) (isNameB s) := by
  refine Ev.step (b_IsName_eq · s) (Ev.bind (b_Within_ev _ _ _) ?_)
  by_cases hs : s ≠ [] ∧ s.length ≤ 10
  · have h0 : 0 < s.length := List.length_pos_iff.2 hs.1
    refine Ev.ff ?_ ((b_IsName_9_ev s [] h).eq (by simp [isNameB, hs]))
    simp [inB, nt_not]; omega
  · refine Ev.tt ?_ (Ev.ret.eq ?_)
    · by_cases h0 : s = []
      · simp [h0, inB, nt_not]
      · have : ¬ s.length ≤ 10 := fun h => hs ⟨h0, h⟩
        simp [inB, nt_not]; omega
    · by_cases h0 : s = []
      · simp [h0, isNameB]
      · have : ¬ s.length ≤ 10 := fun h => hs ⟨h0, h⟩
        simp [isNameB, this]
end Mini

/- Few, Own, Same, startsOf, names, indices. -/
namespace Mini
open Go
variable [MX]

/-! ### Few -/
def fewOp (o : MiOperand) : Bool := decide (o.1.length ≤ 100) && decide (o.2.2.2.2.1.length ≤ 100) && decide (o.2.2.2.1.2.1.length ≤ 600)
def fewIns (x : MiInstruction) : Bool := decide (x.2.1.length ≤ 6)
def fewB (p : MiProgram) : Bool := decide (p.1.length ≤ 28) && decide (p.2.1.length ≤ 44) && decide (p.2.2.1.length ≤ 9) && (p.1.all fewOp && p.2.1.all fewIns)
theorem l_Few_21_ev (a : List MiOperand) (c : List MiMonitor) : ∀ (suf pre : List MiInstruction), (pre ++ suf).length < 1000000 → Ev (fun k => l_Few_21 k (pre.length : Int) a (pre ++ suf) c) (suf.all fewIns) := by
  intro suf
  induction suf with
  | nil => intro pre _; exact Ev.step (l_Few_21_eq · _ _ _ _) (Ev.ff (lt_end pre) Ev.ret)
  | cons x suf ih =>
    intro pre hl
    refine Ev.step (l_Few_21_eq · _ _ _ _) (Ev.tt (lt_mid pre x suf) (Ev.let (rd_mid pre x suf) ?_))
    by_cases hx : x.2.1.length ≤ 6
    · refine Ev.ff (by simp; omega) ?_
      have hp : pre.length + 1 ≤ 9223372036854775807 := by simp at hl; omega
      rw [next pre x hp, mid_next pre x suf]
      rw [mid_next pre _ suf] at hl
      exact (ih _ hl).eq (by simp [fewIns, hx])
    · exact Ev.tt (by simp; omega) (Ev.ret.eq (by simp [fewIns, hx]))
theorem l_Few_9_ev (b : List MiInstruction) (c : List MiMonitor) (hb : b.length < 1000000) : ∀ (suf pre : List MiOperand), (pre ++ suf).length < 1000000 → Ev (fun k => l_Few_9 k (pre.length : Int) (pre ++ suf) b c) (suf.all fewOp && b.all fewIns) := by
  intro suf
  induction suf with
  | nil => intro pre _; exact Ev.step (l_Few_9_eq · _ _ _ _) (Ev.ff (lt_end pre) ((l_Few_21_ev _ c b [] hb).eq (by simp)))
  | cons x suf ih =>
    intro pre hl
    refine Ev.step (l_Few_9_eq · _ _ _ _) (Ev.tt (lt_mid pre x suf) (Ev.let (rd_mid pre x suf) ?_))
    cases hx : fewOp x with
    | true =>
      refine Ev.ff ?_ ?_
      · simp only [fewOp, Bool.and_eq_true, decide_eq_true_eq] at hx
        simp only [bsel_or, Bool.or_eq_false_iff, decide_eq_false_iff_not]
        omega
      · have hp : pre.length + 1 ≤ 9223372036854775807 := by simp at hl; omega
        rw [next pre x hp, mid_next pre x suf]
        rw [mid_next pre _ suf] at hl
        exact (ih _ hl).eq (by simp [hx])
    | false =>
      refine Ev.tt ?_ (Ev.ret.eq (by simp [hx]))
      have hx' : ¬ fewOp x = true := by simp [hx]
      simp only [fewOp, Bool.and_eq_true, decide_eq_true_eq] at hx'
      simp only [bsel_or, Bool.or_eq_true, decide_eq_true_eq]
      omega
theorem l_Few_ev (p : MiProgram) : Ev (fun k => l_Few k p) (fewB p) := by
  refine Ev.step (l_Few_eq · p) ?_
  by_cases h : p.1.length ≤ 28 ∧ p.2.1.length ≤ 44 ∧ p.2.2.1.length ≤ 9
  · refine Ev.ff ?_ ((l_Few_9_ev _ _ (by omega) p.1 [] (by show p.1.length < _; omega)).eq (by simp [fewB, h]))
    simp only [bsel_or, Bool.or_eq_false_iff, decide_eq_false_iff_not]
    omega
  · refine Ev.tt ?_ (Ev.ret.eq ?_)
    · simp only [bsel_or, Bool.or_eq_true, decide_eq_true_eq]
      omega
    · have : ¬ fewB p = true := by
        simp only [fewB, Bool.and_eq_true, decide_eq_true_eq]
        exact fun h' => h ⟨h'.1.1.1, h'.1.1.2, h'.1.2⟩
      exact (Bool.eq_false_iff.2 this).symm

/-! ### Own, Same -/
theorem b_CopyInts_ev (l : List Int) (h : l.length < 1000000) : Ev (fun k => b_CopyInts k l) l := by
  refine Ev.step (b_CopyInts_eq · l) (Ev.let (catL_eq (by simp; omega)) (Ev.ret.eq ?_))
  simp
theorem r_Own_7_ev (a : List MiOperand) (c : List MiMonitor) (q1 : List MiOperand) (q2 : List MiInstruction) (q3 : List MiMonitor) (r1 : List MiOperand) (r3 : List MiMonitor) : ∀ (suf pre : List MiInstruction), (pre ++ suf).length < 1000000 → (∀ x ∈ suf, x.2.1.length < 1000000) →
    Ev (fun k => r_Own_7 k (pre.length : Int) a (pre ++ suf) c q1 q2 q3 r1 pre r3) (r1, pre ++ suf, r3, ()) := by
  intro suf
  induction suf with
  | nil => intro pre _ _; exact Ev.step (r_Own_7_eq · _ _ _ _ _ _ _ _ _ _) (Ev.ff (lt_end pre) (Ev.ret.eq (by simp)))
  | cons x suf ih =>
    intro pre hl hx
    obtain ⟨op, args, _⟩ := x
    have hp : pre.length + 1 ≤ 9223372036854775807 := by simp at hl; omega
    refine Ev.step (r_Own_7_eq · _ _ _ _ _ _ _ _ _ _) (Ev.tt (lt_mid pre _ suf) (Ev.let (rd_mid pre _ suf) (Ev.let (rd_mid pre _ suf) (Ev.bind (b_CopyInts_ev args (hx (op, args, ()) (by simp))) (Ev.let (catL_eq (by simp at hl ⊢; omega)) ?_)))))
    rw [next pre (op, args, ()) hp, mid_next pre (op, args, ()) suf]
    rw [mid_next pre _ suf] at hl
    exact ih _ hl (fun y hy => hx y (List.mem_cons_of_mem _ hy))
theorem r_Own_ev (p : MiProgram) (h1 : p.1.length < 1000000) (h2 : p.2.1.length < 1000000) (h3 : p.2.2.1.length < 1000000) (h4 : ∀ x ∈ p.2.1, x.2.1.length < 1000000) : Ev (fun k => r_Own k p) p := by
  obtain ⟨a, b, c, _⟩ := p
  refine Ev.step (r_Own_eq · _) (Ev.let (catL_eq (by simp at h1 ⊢; omega)) (Ev.let (catL_eq (by simp at h3 ⊢; omega)) ?_))
  exact r_Own_7_ev a c [] [] [] a c b [] h2 h4

theorem b_Ints_9_ev : ∀ (suf pre : List Int), (pre ++ suf).length < 1000000 → Ev (fun k => b_Ints_9 k (pre ++ suf) (pre ++ suf) (pre.length : Int)) true := by
  intro suf
  induction suf with
  | nil => intro pre _; exact Ev.step (b_Ints_9_eq · _ _ _) (Ev.ff (lt_end pre) Ev.ret)
  | cons x suf ih =>
    intro pre hl
    have hp : pre.length + 1 ≤ 9223372036854775807 := by simp at hl; omega
    refine Ev.step (b_Ints_9_eq · _ _ _) (Ev.tt (lt_mid pre _ suf) (Ev.let (rd_mid pre _ suf) (Ev.let (rd_mid pre _ suf) (Ev.ff (by simp) ?_))))
    rw [next pre x hp, mid_next pre x suf]
    rw [mid_next pre _ suf] at hl
    exact ih _ hl
theorem b_Ints_ev (l : List Int) (h : l.length < 1000000) : Ev (fun k => b_Ints k l l) true :=
  Ev.step (b_Ints_eq · l l) (Ev.ff (by simp) (b_Ints_9_ev l [] h))
theorem r_Same_29_ev (a : List MiOperand) (b : List MiInstruction) : ∀ (suf pre : List MiMonitor), (pre ++ suf).length < 1000000 → Ev (fun k => r_Same_29 k (pre.length : Int) a b (pre ++ suf) a b (pre ++ suf)) true := by
  intro suf
  induction suf with
  | nil => intro pre _; exact Ev.step (r_Same_29_eq · _ _ _ _ _ _ _) (Ev.ff (lt_end pre) Ev.ret)
  | cons x suf ih =>
    intro pre hl
    have hp : pre.length + 1 ≤ 9223372036854775807 := by simp at hl; omega
    refine Ev.step (r_Same_29_eq · _ _ _ _ _ _ _) (Ev.tt (lt_mid pre _ suf) (Ev.let (rd_mid pre _ suf) (Ev.let (rd_mid pre _ suf) (Ev.ff (by simp [eqI, nt]) ?_))))
    rw [next pre x hp, mid_next pre x suf]
    rw [mid_next pre _ suf] at hl
    exact ih _ hl
theorem r_Same_19_ev (a : List MiOperand) (c : List MiMonitor) (hc : c.length < 1000000) : ∀ (suf pre : List MiInstruction), (pre ++ suf).length < 1000000 → (∀ x ∈ suf, x.2.1.length < 1000000) → Ev (fun k => r_Same_19 k (pre.length : Int) a (pre ++ suf) c a (pre ++ suf) c) true := by
  intro suf
  induction suf with
  | nil => intro pre _ _; exact Ev.step (r_Same_19_eq · _ _ _ _ _ _ _) (Ev.ff (lt_end pre) (r_Same_29_ev a _ c [] hc))
  | cons x suf ih =>
    intro pre hl hx
    have hp : pre.length + 1 ≤ 9223372036854775807 := by simp at hl; omega
    refine Ev.step (r_Same_19_eq · _ _ _ _ _ _ _) (Ev.tt (lt_mid pre _ suf) (Ev.let (rd_mid pre _ suf) (Ev.let (rd_mid pre _ suf) (Ev.bind (y := x) (Ev.tt (by simp) (Ev.let (rd_mid pre x suf) Ev.ret |> fun h => by
      obtain ⟨N, h⟩ := h
      exact ⟨N, fun k hk => rd_mid pre x suf⟩)) ?_))))
    refine Ev.bind (y := x) (Ev.tt (by simp) ⟨0, fun k hk => rd_mid pre x suf⟩) (Ev.bind (Ev.tt (by simp) (b_Ints_ev _ (hx x (by simp)))) (Ev.ff (by simp [bsel]) ?_))
    rw [next pre x hp, mid_next pre x suf]
    rw [mid_next pre _ suf] at hl
    exact ih _ hl (fun y hy => hx y (List.mem_cons_of_mem _ hy))
theorem r_Same_9_ev (b : List MiInstruction) (c : List MiMonitor) (hb : b.length < 1000000) (hc : c.length < 1000000) (hx : ∀ x ∈ b, x.2.1.length < 1000000) : ∀ (suf pre : List MiOperand), (pre ++ suf).length < 1000000 → Ev (fun k => r_Same_9 k (pre.length : Int) (pre ++ suf) b c (pre ++ suf) b c) true := by
  intro suf
  induction suf with
  | nil => intro pre _; exact Ev.step (r_Same_9_eq · _ _ _ _ _ _ _) (Ev.ff (lt_end pre) (r_Same_19_ev _ c hc b [] hb hx))
  | cons x suf ih =>
    intro pre hl
    have hp : pre.length + 1 ≤ 9223372036854775807 := by simp at hl; omega
    refine Ev.step (r_Same_9_eq · _ _ _ _ _ _ _) (Ev.tt (lt_mid pre _ suf) (Ev.let (rd_mid pre _ suf) (Ev.let (rd_mid pre _ suf) (Ev.ff (by simp [eqI, eqS, nt]) ?_))))
    rw [next pre x hp, mid_next pre x suf]
    rw [mid_next pre _ suf] at hl
    exact ih _ hl
theorem r_Same_ev (p : MiProgram) (h1 : p.1.length < 1000000) (h2 : p.2.1.length < 1000000) (h3 : p.2.2.1.length < 1000000) (h4 : ∀ x ∈ p.2.1, x.2.1.length < 1000000) : Ev (fun k => r_Same k p p) true :=
  Ev.step (r_Same_eq · p p) (Ev.ff (by simp [bsel]) (r_Same_9_ev _ _ h2 h3 h4 p.1 [] h1))
end Mini

/- Names, indices, starts of lines. -/
namespace Mini
open Go
variable [MX]

/-! ### names, by the program -/
theorem bytesL_eq {s : Str} (h : s.length < 1000000) : bytesL s = some (bytesT s) := if_pos (by show s.length < 4294967296; omega)
theorem bytesT_len (s : Str) : (bytesT s).length = s.length := by simp [bytesT]
theorem p_isName_9_ev : ∀ (suf pre : Str), (pre ++ suf).length < 1000000 → Ev (fun k => p_isName_9 k (bytesT pre ++ bytesT suf) ((bytesT pre ++ bytesT suf).length : Int) ((bytesT pre).length : Int)) (nameFrom pre.isEmpty suf) := by
  intro suf
  induction suf with
  | nil => intro pre _; exact Ev.step (p_isName_9_eq · _ _ _) (Ev.ff (lt_end _) (Ev.ret.eq rfl))
  | cons x suf ih =>
    intro pre hl
    rw [show bytesT (x :: suf) = (x.toNat : Int) :: bytesT suf from rfl]
    refine Ev.step (p_isName_9_eq · _ _ _) (Ev.tt (lt_mid _ _ _) (Ev.let (rd_mid _ _ _) ?_))
    have hp : (bytesT pre).length + 1 ≤ 9223372036854775807 := by rw [bytesT_len]; simp at hl; omega
    have hi := ih (pre ++ [x]) (by simpa using hl)
    rw [show (pre ++ [x]).isEmpty = false by cases pre <;> rfl, show bytesT (pre ++ [x]) = bytesT pre ++ [(x.toNat : Int)] by simp [bytesT]] at hi
    rw [next (bytesT pre) _ hp, mid_next (bytesT pre) _ (bytesT suf), pre_zero]
    have hE : (bytesT pre).isEmpty = pre.isEmpty := by cases pre <;> rfl
    rw [hE]
    have e1 : (bsel (bsel (bsel (bsel (decide (65 ≤ (x.toNat : Int))) (decide ((x.toNat : Int) ≤ 90)) false) true (decide ((x.toNat : Int) = 35))) true (decide ((x.toNat : Int) = 36))) true (decide ((x.toNat : Int) = 64))) = letterB x.toNat := by
      simp only [bsel_or, bsel_and, letterB, inB]
      cases decide ((x.toNat : Int) = 35) <;> cases decide ((x.toNat : Int) = 36) <;> simp
    have e2 : (bsel (bsel (bsel (decide (48 ≤ (x.toNat : Int))) (decide ((x.toNat : Int) ≤ 57)) false) true (decide ((x.toNat : Int) = 95))) true (decide ((x.toNat : Int) = 46))) = otherB x.toNat := by
      simp only [bsel_or, bsel_and, otherB, inB]
    rw [e1, e2]
    cases hA : letterB x.toNat with
    | true => exact Ev.ff (by simp) (hi.eq (by simp [nameFrom, hA]))
    | false =>
      cases hE : pre.isEmpty with
      | true => exact Ev.tt (by simp) (Ev.ret.eq (by simp [nameFrom, hA]))
      | false =>
        cases hB : otherB x.toNat with
        | true => exact Ev.ff (by simp) (hi.eq (by simp [nameFrom, hB]))
        | false => exact Ev.tt (by simp) (Ev.ret.eq (by simp [nameFrom, hA, hB]))
theorem p_isName_ev (s : Str) (h : s.length < 1000000) : Ev (fun k => p_isName k s) (isNameB s) := by
  refine Ev.step (p_isName_eq · s) ?_
  by_cases hs : s ≠ [] ∧ s.length ≤ 10
  · refine Ev.ff ?_ (Ev.let (bytesL_eq h) ((p_isName_9_ev s [] h).eq (by simp [isNameB, hs])))
    have : eqS s [] = false := by rw [Bool.eq_false_iff]; exact fun h => hs.1 ((eqS_iff _ _).1 h)
    simp [bsel_or, this]; omega
  · refine Ev.tt ?_ (Ev.ret.eq ?_)
    · by_cases h0 : s = []
      · simp [h0, eqS, bsel_or]
      · have : ¬ s.length ≤ 10 := fun h => hs ⟨h0, h⟩
        simp [bsel_or]; omega
    · by_cases h0 : s = []
      · simp [h0, isNameB]
      · have : ¬ s.length ≤ 10 := fun h => hs ⟨h0, h⟩
        simp [isNameB, this]

/-! ### indices -/
def fIdx {α : Type} (p : α → Bool) : Nat → List α → Int
  | _, [] => -1
  | n, x :: l => if p x = true then n else fIdx p (n + 1) l
theorem x_Index_5_ev (v : Str) : ∀ (suf pre : List Str), (pre ++ suf).length < 1000000 → Ev (fun k => x_Index_5 k (pre ++ suf) v ((pre ++ suf).length : Int) (pre.length : Int)) (fIdx (fun x => eqS v x) pre.length suf) := by
  intro suf
  induction suf with
  | nil => intro pre _; exact Ev.step (x_Index_5_eq · _ _ _ _) (Ev.ff (lt_end pre) Ev.ret)
  | cons x suf ih =>
    intro pre hl
    have hp : pre.length + 1 ≤ 9223372036854775807 := by simp at hl; omega
    refine Ev.step (x_Index_5_eq · _ _ _ _) (Ev.tt (lt_mid pre _ suf) (Ev.let (rd_mid pre _ suf) ?_))
    cases hx : eqS v x with
    | true => exact Ev.tt rfl (Ev.ret.eq (by simp [fIdx, hx]))
    | false =>
      refine Ev.ff rfl ?_
      rw [next pre x hp, mid_next pre x suf]
      rw [mid_next pre _ suf] at hl
      exact (ih _ hl).eq (by simp [fIdx, hx])
theorem x_Index_ev (l : List Str) (v : Str) (h : l.length < 1000000) : Ev (fun k => x_Index k l v) (fIdx (fun x => eqS v x) 0 l) := Ev.step (x_Index_eq · l v) (x_Index_5_ev v l [] h)
theorem x_IndexFunc_5_ev (v : Str) : ∀ (suf pre : List MiOperand), (pre ++ suf).length < 1000000 → Ev (fun k => x_IndexFunc_5 k (pre ++ suf) ((pre ++ suf).length : Int) (pre.length : Int) v) (fIdx (fun o => eqS o.1 v) pre.length suf, v) := by
  intro suf
  induction suf with
  | nil => intro pre _; exact Ev.step (x_IndexFunc_5_eq · _ _ _ _) (Ev.ff (lt_end pre) Ev.ret)
  | cons x suf ih =>
    intro pre hl
    have hp : pre.length + 1 ≤ 9223372036854775807 := by simp at hl; omega
    refine Ev.step (x_IndexFunc_5_eq · _ _ _ _) (Ev.tt (lt_mid pre _ suf) (Ev.let (rd_mid pre _ suf) (Ev.bind (Ev.step (p_named_1_eq · _ _) Ev.ret) ?_)))
    cases hx : eqS x.1 v with
    | true => exact Ev.tt rfl (Ev.ret.eq (by simp [fIdx, hx]))
    | false =>
      refine Ev.ff rfl ?_
      rw [next pre x hp, mid_next pre x suf]
      rw [mid_next pre _ suf] at hl
      exact (ih _ hl).eq (by simp [fIdx, hx])
theorem p_named_ev (l : List MiOperand) (v : Str) (h : l.length < 1000000) : Ev (fun k => p_named k l v) (fIdx (fun o => eqS o.1 v) 0 l) :=
  Ev.step (p_named_eq · l v) (Ev.bind (Ev.step (x_IndexFunc_eq · l v) (x_IndexFunc_5_ev v l [] h)) Ev.ret)
theorem r_At_5_ev (v : Str) (b : List MiInstruction) (c : List MiMonitor) : ∀ (suf pre : List MiOperand), (pre ++ suf).length < 1000000 → Ev (fun k => r_At_5 k v (pre.length : Int) (pre ++ suf) b c) (fIdx (fun o => eqS o.1 v) pre.length suf) := by
  intro suf
  induction suf with
  | nil => intro pre _; exact Ev.step (r_At_5_eq · _ _ _ _ _) (Ev.ff (lt_end pre) Ev.ret)
  | cons x suf ih =>
    intro pre hl
    have hp : pre.length + 1 ≤ 9223372036854775807 := by simp at hl; omega
    refine Ev.step (r_At_5_eq · _ _ _ _ _) (Ev.tt (lt_mid pre _ suf) (Ev.let (rd_mid pre _ suf) ?_))
    cases hx : eqS x.1 v with
    | true => exact Ev.tt rfl (Ev.ret.eq (by simp [fIdx, hx]))
    | false =>
      refine Ev.ff rfl ?_
      rw [next pre x hp, mid_next pre x suf]
      rw [mid_next pre _ suf] at hl
      exact (ih _ hl).eq (by simp [fIdx, hx])
theorem r_At_ev (p : MiProgram) (v : Str) (h : p.1.length < 1000000) : Ev (fun k => r_At k p v) (fIdx (fun o => eqS o.1 v) 0 p.1) := Ev.step (r_At_eq · p v) (r_At_5_ev v _ _ p.1 [] h)

/-! ### where lines begin -/
def startsFrom : Nat → Bool → Str → List Int
  | _, _, [] => []
  | i, b, c :: l => if b = true then (i : Int) :: startsFrom (i + 1) (decide (c = 10)) l else startsFrom (i + 1) (decide (c = 10)) l
def atStart (pre : Str) : Bool := match pre.getLast? with
  | none => true
  | some c => decide (c = 10)
theorem t_startsOf_7_ev : ∀ (suf pre : Str) (out : List Int), (pre ++ suf).length < 1000000 → out.length ≤ pre.length → Ev (fun k => t_startsOf_7 k (pre ++ suf) out (pre.length : Int)) (out ++ startsFrom pre.length (atStart pre) suf) := by
  intro suf
  induction suf with
  | nil => intro pre out _ _; exact Ev.step (t_startsOf_7_eq · _ _ _) (Ev.ff (lt_end pre) (Ev.ret.eq (by simp [startsFrom])))
  | cons x suf ih =>
    intro pre out hl ho
    have hp : pre.length + 1 ≤ 9223372036854775807 := by simp at hl; omega
    have hlen : pre.length < 1000000 := by simp at hl; omega
    have hs : atStart (pre ++ [x]) = decide (x = 10) := by simp [atStart]
    refine Ev.step (t_startsOf_7_eq · _ _ _) (Ev.tt (lt_mid pre _ suf) ?_)
    have key : ∃ y1, Ev (fun _ => bsel (!decide ((pre.length : Int) = 0)) (rdb (pre ++ x :: suf) (w64 ((pre.length : Int) - 1))) (some 0)) y1 ∧ bsel (decide ((pre.length : Int) = 0)) true (decide (y1 = 10)) = atStart pre := by
      rcases List.eq_nil_or_concat pre with rfl | ⟨q, c, rfl⟩
      · exact ⟨0, Ev.ff (by simp) Ev.ret, rfl⟩
      · refine ⟨c.toNat, Ev.tt (by simp; omega) ⟨0, fun _ _ => ?_⟩, ?_⟩
        · have e : w64 (((q.concat c).length : Int) - 1) = (q.length : Int) := by
            rw [w64_id (by simp <;> omega) (by simp at hlen ⊢; omega)]; simp
          rw [e, show q.concat c ++ x :: suf = q ++ c :: (x :: suf) by simp]
          exact rdb_mid q c (x :: suf)
        · have h0 : decide (((q.concat c).length : Int) = 0) = false := by simp; omega
          rw [h0, bsel_ff]
          simp only [atStart, List.concat_eq_append, List.getLast?_append, List.getLast?_singleton, Option.some_or]
          have : ((c.toNat : Int) = 10) ↔ c = 10 := by
            constructor
            · intro h
              have h' : c.toNat = 10 := by omega
              exact UInt8.toNat_inj.1 h'
            · intro h; subst h; rfl
          simp [this]
    obtain ⟨y1, h1, h2⟩ := key
    refine Ev.bind h1 ?_
    rw [next pre x hp, h2]
    cases hb : atStart pre with
    | true =>
      refine Ev.tt rfl (Ev.let (catL_eq (by simp; omega)) ?_)
      rw [mid_next pre x suf]
      rw [mid_next pre _ suf] at hl
      refine (ih _ _ hl (by simp; omega)).eq ?_
      rw [hs]
      simp [startsFrom]
    | false =>
      refine Ev.ff rfl ?_
      rw [mid_next pre x suf]
      rw [mid_next pre _ suf] at hl
      refine (ih _ _ hl (by simp; omega)).eq ?_
      rw [hs]
      simp [startsFrom]
theorem t_startsOf_ev (s : Str) (h : s.length < 1000000) : Ev (fun k => t_startsOf k s) (startsFrom 0 true s) := Ev.step (t_startsOf_eq · s) (t_startsOf_7_ev s [] [] h (Nat.le_refl _))
end Mini

/- Types and values. -/
namespace Mini
open Go
variable [MX]

def TypeOK (t : DataType) : Prop :=
  (t.1 = 0 ∧ 1 ≤ t.2.1 ∧ t.2.1 ≤ 256 ∧ t.2.2.1 = 0) ∨ ((t.1 = 1 ∨ t.1 = 2) ∧ 1 ≤ t.2.1 ∧ t.2.1 ≤ 15 ∧ 0 ≤ t.2.2.1 ∧ t.2.2.1 ≤ t.2.1) ∨
  (t.1 = 3 ∧ (t.2.1 = 4 ∨ t.2.1 = 9) ∧ 0 ≤ t.2.2.1 ∧ t.2.2.1 ≤ t.2.1) ∨ (t.1 = 4 ∧ t.2.1 = 0 ∧ t.2.2.1 = 0)

theorem count3 (b : Bool) : w64 (3 * (if b = true then 1 else 0)) = if b = true then 3 else 0 := by cases b <;> rfl
theorem q_TypeErr_24_ev (len : Bool) (a l s : Int) : Ev (fun k => q_TypeErr_24 k len a l s) (if len = false then 18 else if inB a 1 3 = true then (if inB s 0 l = true then 0 else 3) else (if inB s 0 0 = true then 0 else 3)) := by
  refine Ev.step (q_TypeErr_24_eq · _ _ _ _) ?_
  cases len with
  | false => exact Ev.tt rfl Ev.ret
  | true =>
    refine Ev.ff rfl (Ev.bind (q_IsNumeric_ev a) ?_)
    cases h : inB a 1 3 with
    | true =>
      refine Ev.tt rfl (Ev.bind (b_Within_ev _ _ _) (Ev.bind (b_Count_ev _) (Ev.ret.eq ?_)))
      cases inB s 0 l <;> rfl
    | false =>
      refine Ev.ff rfl (Ev.bind (b_Within_ev _ _ _) (Ev.bind (b_Count_ev _) (Ev.ret.eq ?_)))
      cases inB s 0 0 <;> rfl

theorem q_TypeErr_ev (t : DataType) : ∃ e, Ev (fun k => q_TypeErr k t) e ∧ (e = 0 → TypeOK t) := by
  obtain ⟨a, l, s, _⟩ := t
  have fin : ∀ (len : Bool) (h : len = true → (inB a 1 3 = true → inB s 0 l = true → TypeOK (a, l, s, ())) ∧ (inB a 1 3 = false → inB s 0 0 = true → TypeOK (a, l, s, ()))), ∃ e, Ev (fun k => q_TypeErr_24 k len a l s) e ∧ (e = 0 → TypeOK (a, l, s, ())) := by
    intro len h
    refine ⟨_, q_TypeErr_24_ev len a l s, fun he => ?_⟩
    cases len with
    | false => simp at he
    | true =>
      obtain ⟨h1, h2⟩ := h rfl
      cases hn : inB a 1 3 with
      | true =>
        rw [hn] at he
        cases hi : inB s 0 l with
        | true => exact h1 hn hi
        | false => simp [hi] at he
      | false =>
        rw [hn] at he
        cases hi : inB s 0 0 with
        | true => exact h2 hn hi
        | false => simp [hi] at he
  have lift : ∀ {f : Nat → Option Int} {b : Nat → Option Int} (hb : ∀ k, f (k + 1) = b k), (∃ e, Ev b e ∧ (e = 0 → TypeOK (a, l, s, ()))) → ∃ e, Ev f e ∧ (e = 0 → TypeOK (a, l, s, ())) := fun hb ⟨e, h1, h2⟩ => ⟨e, Ev.step hb h1, h2⟩
  refine lift (q_TypeErr_eq · (a, l, s, ())) ?_
  by_cases hw : 0 ≤ a ∧ a ≤ 4
  · have hin : inB a 0 4 = true := by simp [inB, hw]
    have ha : a = 0 ∨ a = 1 ∨ a = 2 ∨ a = 3 ∨ a = 4 := by omega
    have enter : ∀ {g : Nat → Bool → Option Int} {e : Int}, Ev (fun k => g k true) e → Ev (fun k => (b_Within k a 0 4).bind (g k)) e := fun h => Ev.bind ((b_Within_ev a 0 4).eq hin) h
    rcases ha with rfl | rfl | rfl | rfl | rfl
    · obtain ⟨e, h1, h2⟩ := fin (inB l 1 256) (fun hl => ⟨fun h => by simp [inB] at h, fun _ hs => by
        simp only [inB, Bool.and_eq_true, decide_eq_true_eq] at hl hs
        exact .inl ⟨rfl, hl.1, hl.2, by show s = 0; omega⟩⟩)
      exact ⟨e, enter (Ev.ff rfl (Ev.tt rfl (Ev.bind (b_Within_ev _ _ _) h1))), h2⟩
    · obtain ⟨e, h1, h2⟩ := fin (inB l 1 15) (fun hl => ⟨fun _ hs => by
        simp only [inB, Bool.and_eq_true, decide_eq_true_eq] at hl hs
        exact .inr (.inl ⟨.inl rfl, hl.1, hl.2, hs.1, hs.2⟩), fun h => by simp [inB] at h⟩)
      exact ⟨e, enter (Ev.ff rfl (Ev.ff rfl (Ev.tt rfl (Ev.tt rfl (Ev.bind (b_Within_ev _ _ _) h1))))), h2⟩
    · obtain ⟨e, h1, h2⟩ := fin (inB l 1 15) (fun hl => ⟨fun _ hs => by
        simp only [inB, Bool.and_eq_true, decide_eq_true_eq] at hl hs
        exact .inr (.inl ⟨.inr rfl, hl.1, hl.2, hs.1, hs.2⟩), fun h => by simp [inB] at h⟩)
      exact ⟨e, enter (Ev.ff rfl (Ev.ff rfl (Ev.ff rfl (Ev.tt rfl (Ev.bind (b_Within_ev _ _ _) h1))))), h2⟩
    · obtain ⟨e, h1, h2⟩ := fin (bsel (decide (l = 4)) true (decide (l = 9))) (fun hl => ⟨fun _ hs => by
        simp only [bsel_or, inB, Bool.and_eq_true, Bool.or_eq_true, decide_eq_true_eq] at hl hs
        exact .inr (.inr (.inl ⟨rfl, hl, hs.1, hs.2⟩)), fun h => by simp [inB] at h⟩)
      exact ⟨e, enter (Ev.ff rfl (Ev.ff rfl (Ev.ff rfl (Ev.ff rfl (Ev.tt rfl h1))))), h2⟩
    · obtain ⟨e, h1, h2⟩ := fin (decide (l = 0)) (fun hl => ⟨fun h => by simp [inB] at h, fun _ hs => by
        simp only [inB, Bool.and_eq_true, decide_eq_true_eq] at hl hs
        exact .inr (.inr (.inr ⟨rfl, hl, by show s = 0; omega⟩))⟩)
      exact ⟨e, enter (Ev.ff rfl (Ev.ff rfl (Ev.ff rfl (Ev.ff rfl (Ev.ff rfl h1))))), h2⟩
  · refine ⟨4, Ev.bind (b_Within_ev a 0 4) (Ev.tt ?_ Ev.ret), fun h => by cases h⟩
    have : inB a 0 4 = false := by
      rw [Bool.eq_false_iff]
      simp only [inB, ne_eq, Bool.and_eq_true, decide_eq_true_eq]
      exact hw
    rw [this]; rfl

theorem TypeOK.bounds {t : DataType} (h : TypeOK t) : 0 ≤ t.1 ∧ t.1 ≤ 4 ∧ 0 ≤ t.2.1 ∧ t.2.1 ≤ 256 ∧ 0 ≤ t.2.2.1 ∧ t.2.2.1 ≤ 15 := by
  unfold TypeOK at h
  omega

theorem n_CheckType_ev {t : DataType} (h : TypeOK t) : Ev (fun k => n_CheckType k t) 0 := by
  obtain ⟨a, l, s, _⟩ := t
  unfold TypeOK at h
  simp only at h
  refine Ev.step (n_CheckType_eq · (a, l, s, ())) ?_
  have f2 : ∀ x y : Int, x = 0 → y = 0 → Ev (fun k => n_first k [x, y]) 0 := fun x y hx hy => (n_first_ev [x, y] (by simp)).eq (by simp [firstN, hx, hy])
  rcases h with ⟨rfl, h1, h2, h3⟩ | ⟨h0, h1, h2, h3, h4⟩ | ⟨rfl, h1, h3, h4⟩ | ⟨rfl, h1, h2⟩
  · have e1 : inB l 1 256 = true := by simp [inB, h1, h2]
    exact Ev.tt rfl (Ev.bind (n_in_ev _ _ _) (Ev.bind (n_cond_ev _ _) (Ev.bind (n_cond_ev _ _) (Ev.bind (f2 _ _ (by simp [e1]) (by simp [h3])) Ev.ret))))
  · have e1 : inB l 1 15 = true := by simp [inB, h1, h2]
    have e2 : inB s 0 l = true := by simp [inB, h3, h4]
    rcases h0 with rfl | rfl
    · exact Ev.ff rfl (Ev.tt rfl (Ev.tt rfl (Ev.bind (n_in_ev _ _ _) (Ev.bind (n_in_ev _ _ _) (Ev.bind (n_cond_ev _ _) (Ev.bind (n_cond_ev _ _) (Ev.bind (f2 _ _ (by simp [e1]) (by simp [e2])) Ev.ret)))))))
    · exact Ev.ff rfl (Ev.ff rfl (Ev.tt rfl (Ev.bind (n_in_ev _ _ _) (Ev.bind (n_in_ev _ _ _) (Ev.bind (n_cond_ev _ _) (Ev.bind (n_cond_ev _ _) (Ev.bind (f2 _ _ (by simp [e1]) (by simp [e2])) Ev.ret)))))))
  · have e2 : inB s 0 l = true := by simp [inB, h3, h4]
    have e1 : (bsel (decide (l = 4)) true (decide (l = 9))) = true := by simp [bsel_or, h1]
    exact Ev.ff rfl (Ev.ff rfl (Ev.ff rfl (Ev.tt rfl (Ev.bind (n_in_ev _ _ _) (Ev.bind (n_cond_ev _ _) (Ev.bind (n_cond_ev _ _) (Ev.bind (f2 _ _ (by simp [e1]) (by simp [e2])) Ev.ret)))))))
  · exact Ev.ff rfl (Ev.ff rfl (Ev.ff rfl (Ev.ff rfl (Ev.tt rfl (Ev.bind (n_cond_ev _ _) (Ev.bind (n_cond_ev _ _) (Ev.bind (f2 _ _ (by simp [h1]) (by simp [h2])) Ev.ret)))))))

/-! ### sizes -/
def sizeD (t : DataType) : Int := if t.1 = 1 then t.2.1 / 2 + 1 else if t.1 = 3 then (if t.2.1 = 9 then 4 else 2) else if t.1 = 4 then 16 else t.2.1
theorem quo_nat {a b : Int} (ha : 0 ≤ a) (ha2 : a ≤ 1000000000) (hb : 0 < b) : quoI .i64 a b = some (a / b) := by
  unfold quoI
  rw [if_neg (by omega), Int.tdiv_eq_ediv_of_nonneg ha]
  have h1 : 0 ≤ a / b := Int.ediv_nonneg ha (by omega)
  have h2 : a / b ≤ a := Int.ediv_le_self _ ha
  rw [show IntKind.i64.wrap (a / b) = a / b from w64_id (by omega) (by omega)]
theorem b_Size_ev {t : DataType} (h : TypeOK t) : Ev (fun k => b_Size k t) (sizeD t) := by
  have hb := h.bounds
  obtain ⟨a, l, s, _⟩ := t
  unfold TypeOK at h
  simp only at h hb
  refine Ev.step (b_Size_eq · (a, l, s, ())) ?_
  rcases h with ⟨rfl, h1, h2, h3⟩ | ⟨rfl | rfl, h1, h2, h3, h4⟩ | ⟨rfl, h1, h3, h4⟩ | ⟨rfl, h1, h2⟩
  · exact Ev.ff rfl (Ev.ff rfl (Ev.ff rfl Ev.ret))
  · refine Ev.tt rfl (Ev.let (quo_nat (by show 0 ≤ l; omega) (by show l ≤ _; omega) (by decide)) (Ev.ret.eq ?_))
    show w64 (l / 2 + 1) = l / 2 + 1
    exact w64_id (by omega) (by omega)
  · exact Ev.ff rfl (Ev.ff rfl (Ev.ff rfl Ev.ret))
  · refine Ev.ff rfl (Ev.tt rfl (Ev.bind (b_Count_ev _) (Ev.ret.eq ?_)))
    rcases h1 with rfl | rfl <;> rfl
  · exact Ev.ff rfl (Ev.ff rfl (Ev.tt rfl Ev.ret))
theorem n_size_ev {t : DataType} (h : TypeOK t) : Ev (fun k => n_size k t) (sizeD t) := by
  have hb := h.bounds
  obtain ⟨a, l, s, _⟩ := t
  unfold TypeOK at h
  simp only at h hb
  refine Ev.step (n_size_eq · (a, l, s, ())) ?_
  rcases h with ⟨rfl, h1, h2, h3⟩ | ⟨rfl | rfl, h1, h2, h3, h4⟩ | ⟨rfl, h1, h3, h4⟩ | ⟨rfl, h1, h2⟩
  · exact Ev.ff rfl (Ev.ff rfl (Ev.ff rfl Ev.ret))
  · refine Ev.tt rfl (Ev.let (quo_nat (by show 0 ≤ l; omega) (by show l ≤ _; omega) (by decide)) (Ev.ret.eq ?_))
    show w64 (l / 2 + 1) = l / 2 + 1
    exact w64_id (by omega) (by omega)
  · exact Ev.ff rfl (Ev.ff rfl (Ev.ff rfl Ev.ret))
  · refine Ev.ff rfl (Ev.tt rfl (Ev.let (quo_nat (by show 0 ≤ l; omega) (by show l ≤ _; omega) (by decide)) (Ev.ret.eq ?_)))
    rcases h1 with rfl | rfl <;> rfl
  · exact Ev.ff rfl (Ev.ff rfl (Ev.tt rfl Ev.ret))
theorem p_size_ev {o : MiOperand} (h : TypeOK o.2.2.1) : Ev (fun k => p_size k o) (sizeD o.2.2.1) := by
  refine Ev.step (p_size_eq · o) (Ev.bind (y := (sizeD o.2.2.1, 0)) ?_ Ev.ret)
  exact Ev.step (n_SizeOf_eq · _) (Ev.bind (n_CheckType_ev h) (Ev.ff rfl (Ev.bind (n_size_ev h) Ev.ret)))
theorem sizeD_bounds {t : DataType} (h : TypeOK t) : 0 ≤ sizeD t ∧ sizeD t ≤ 256 := by
  unfold TypeOK at h
  unfold sizeD
  split
  · omega
  · split
    · split <;> omega
    · split
      · omega
      · omega

/-! ### powers of ten -/
theorem pow10_le (n : Nat) (h : n ≤ 18) : (10 : Int) ^ n ≤ 1000000000000000000 := by
  have : (10 : Nat) ^ n ≤ 10 ^ 18 := Nat.pow_le_pow_right (by decide) h
  have h2 : ((10 ^ n : Nat) : Int) ≤ ((10 ^ 18 : Nat) : Int) := by exact_mod_cast this
  simpa using h2
theorem pow10_pos (n : Nat) : (1 : Int) ≤ 10 ^ n := by
  have : 0 < (10 : Nat) ^ n := Nat.pow_pos (by decide)
  have h2 : ((1 : Nat) : Int) ≤ ((10 ^ n : Nat) : Int) := by exact_mod_cast this
  simpa using h2
theorem b_Power_7_ev (n : Nat) (hn : n ≤ 18) : ∀ (m i : Nat), i + m = n → Ev (fun k => b_Power_7 k (n : Int) (10 ^ i) (i : Int)) (10 ^ n) := by
  intro m
  induction m with
  | zero =>
    intro i hi
    have : i = n := by omega
    subst this
    exact Ev.step (b_Power_7_eq · _ _ _) (Ev.ff (by simp) Ev.ret)
  | succ m ih =>
    intro i hi
    refine Ev.step (b_Power_7_eq · _ _ _) (Ev.tt (by simp; omega) ?_)
    have h1 : w64 (10 ^ i * 10) = 10 ^ (i + 1) := by
      rw [show (10 : Int) ^ i * 10 = 10 ^ (i + 1) from rfl]
      have := pow10_le (i + 1) (by omega)
      have := pow10_pos (i + 1)
      exact w64_id (by omega) (by omega)
    have h2 : w64 ((i : Int) + 1) = ((i + 1 : Nat) : Int) := by rw [w64_id (by omega) (by omega)]; rfl
    rw [h1, h2]
    exact ih (i + 1) (by omega)
theorem b_Power_ev (n : Nat) (hn : n ≤ 18) : Ev (fun k => b_Power k (n : Int)) (10 ^ n) := Ev.step (b_Power_eq · _) (b_Power_7_ev n hn n 0 (by omega))
theorem n_power_7_ev (n : Nat) (hn : n ≤ 18) : ∀ (m i : Nat), i + m = n → Ev (fun k => n_power_7 k (10 ^ i) (n : Int) (i : Int)) (10 ^ n) := by
  intro m
  induction m with
  | zero =>
    intro i hi
    have : i = n := by omega
    subst this
    exact Ev.step (n_power_7_eq · _ _ _) (Ev.ff (by simp) Ev.ret)
  | succ m ih =>
    intro i hi
    refine Ev.step (n_power_7_eq · _ _ _) (Ev.tt (by simp; omega) ?_)
    have h1 : w64 (10 ^ i * 10) = 10 ^ (i + 1) := by
      rw [show (10 : Int) ^ i * 10 = 10 ^ (i + 1) from rfl]
      have := pow10_le (i + 1) (by omega)
      have := pow10_pos (i + 1)
      exact w64_id (by omega) (by omega)
    have h2 : w64 ((i : Int) + 1) = ((i + 1 : Nat) : Int) := by rw [w64_id (by omega) (by omega)]; rfl
    rw [h1, h2]
    exact ih (i + 1) (by omega)
theorem n_power_ev (n : Nat) (hn : n ≤ 18) : Ev (fun k => n_power k (n : Int)) (10 ^ n) := by
  refine Ev.step (n_power_eq · _) ?_
  have : minI (n : Int) 18 = (n : Int) := by unfold minI; split <;> omega
  rw [this]
  exact n_power_7_ev n hn n 0 (by omega)

/-! ### values -/
def ValueOK (t : DataType) (v : Val) : Prop :=
  TypeOK t ∧ t.1 ≠ 4 ∧ (t.1 = 0 → v.1 = 0 ∧ (v.2.1.length : Int) = t.2.1) ∧ (t.1 ≠ 0 → v.2.1 = [] ∧ -(10 ^ t.2.1.toNat - 1) ≤ v.1 ∧ v.1 ≤ 10 ^ t.2.1.toNat - 1)

theorem neg_pow (n : Nat) (hn : n ≤ 18) : negI .i64 (w64 (10 ^ n - 1)) = -(10 ^ n - 1) ∧ w64 ((10 : Int) ^ n - 1) = 10 ^ n - 1 := by
  have h1 := pow10_le n hn
  have h2 := pow10_pos n
  have h3 : w64 ((10 : Int) ^ n - 1) = 10 ^ n - 1 := w64_id (by omega) (by omega)
  refine ⟨?_, h3⟩
  rw [h3]
  show w64 (0 - (10 ^ n - 1)) = _
  rw [w64_id (by omega) (by omega)]
  omega
theorem q_Most_ev {t : DataType} (h : TypeOK t) (h18 : t.2.1 ≤ 18) : Ev (fun k => q_Most k t) (10 ^ t.2.1.toNat - 1) := by
  have hb := h.bounds
  have e : ((t.2.1.toNat : Nat) : Int) = t.2.1 := Int.toNat_of_nonneg hb.2.2.1
  refine Ev.step (q_Most_eq · t) (Ev.bind (y := 10 ^ t.2.1.toNat) ?_ (Ev.ret.eq (neg_pow _ (by omega)).2))
  have := b_Power_ev t.2.1.toNat (by omega)
  rw [e] at this
  exact this
theorem q_ValueErr_ev (t : DataType) (v : Val) : ∃ e, Ev (fun k => q_ValueErr k t v) e ∧ (e = 0 → ValueOK t v) := by
  obtain ⟨e1, h1, h2⟩ := q_TypeErr_ev t
  by_cases he : e1 = 0
  · subst he
    have hT := h2 rfl
    have hb := hT.bounds
    by_cases h4 : t.1 = 4
    · exact ⟨17, Ev.step (q_ValueErr_eq · t v) (Ev.bind h1 (Ev.ff rfl (Ev.tt (by simp [h4]) Ev.ret))), fun h => by cases h⟩
    · by_cases h5 : (t.1 = 0 ∧ v.1 ≠ 0) ∨ (t.1 ≠ 0 ∧ v.2.1 ≠ [])
      · refine ⟨5, Ev.step (q_ValueErr_eq · t v) (Ev.bind h1 (Ev.ff rfl (Ev.ff (by simp [h4]) (Ev.tt ?_ Ev.ret)))), fun h => by cases h⟩
        simp only [bsel_or, bsel_and, eqS, Bool.or_eq_true, Bool.and_eq_true, decide_eq_true_eq, Bool.not_eq_true', decide_eq_false_iff_not]
        exact h5
      · have h5' : (bsel (bsel (decide (t.1 = 0)) (!decide (v.1 = 0)) false) true (bsel (!decide (t.1 = 0)) (!eqS v.2.1 []) false)) = false := by
          rw [Bool.eq_false_iff]
          simp only [bsel_or, bsel_and, eqS, ne_eq, Bool.or_eq_true, Bool.and_eq_true, decide_eq_true_eq, Bool.not_eq_true', decide_eq_false_iff_not]
          exact h5
        by_cases h0 : t.1 = 0
        · refine ⟨_, Ev.step (q_ValueErr_eq · t v) (Ev.bind h1 (Ev.ff rfl (Ev.ff (by simp [h4]) (Ev.ff h5' (Ev.tt (by simp [h0]) (Ev.bind (b_Count_ev _) Ev.ret)))))), fun h => ?_⟩
          refine ⟨hT, h4, fun _ => ⟨?_, ?_⟩, fun h => absurd h0 h⟩
          · exact Classical.byContradiction fun hh => h5 (.inl ⟨h0, hh⟩)
          · refine Classical.byContradiction fun hh => ?_
            simp [hh] at h
            revert h; decide
        · have h18 : t.2.1 ≤ 18 := by
            unfold TypeOK at hT; omega
          have hp := neg_pow t.2.1.toNat (by omega)
          have hM := q_Most_ev hT h18
          have en : negI .i64 (10 ^ t.2.1.toNat - 1) = -(10 ^ t.2.1.toNat - 1) := by have := hp.1; rw [hp.2] at this; exact this
          refine ⟨_, Ev.step (q_ValueErr_eq · t v) (Ev.bind h1 (Ev.ff rfl (Ev.ff (by simp [h4]) (Ev.ff h5' (Ev.ff (by simp [h0]) (Ev.bind hM (Ev.bind hM (Ev.bind (b_Within_ev _ _ _) (Ev.bind (b_Count_ev _) Ev.ret))))))))), fun h => ?_⟩
          rw [en] at h
          have hi : inB v.1 (-(10 ^ t.2.1.toNat - 1)) (10 ^ t.2.1.toNat - 1) = true := by
            cases hh : inB v.1 (-(10 ^ t.2.1.toNat - 1)) (10 ^ t.2.1.toNat - 1) with
            | true => rfl
            | false =>
              rw [hh] at h
              revert h; decide
          simp only [inB, Bool.and_eq_true, decide_eq_true_eq] at hi
          refine ⟨hT, h4, fun h => absurd h h0, fun _ => ⟨?_, hi.1, hi.2⟩⟩
          exact Classical.byContradiction fun hh => h5 (.inr ⟨h0, hh⟩)
  · exact ⟨e1, Ev.step (q_ValueErr_eq · t v) (Ev.bind h1 (Ev.tt (by simp [he]) Ev.ret)), fun h => absurd h he⟩

theorem n_CheckValue_ev {t : DataType} {v : Val} (h : ValueOK t v) : Ev (fun k => n_CheckValue k t v) 0 := by
  obtain ⟨hT, h4, hc, hn⟩ := h
  have hb := hT.bounds
  have f2 : ∀ x y : Int, x = 0 → y = 0 → Ev (fun k => n_first k [x, y]) 0 := fun x y hx hy => (n_first_ev [x, y] (by simp)).eq (by simp [firstN, hx, hy])
  refine Ev.step (n_CheckValue_eq · t v) (Ev.bind (n_CheckType_ev hT) (Ev.bind (n_cond_ev _ _) (Ev.bind (f2 _ _ rfl (by simp [h4])) (Ev.ff rfl ?_))))
  by_cases h0 : t.1 = 0
  · obtain ⟨q1, q2⟩ := hc h0
    exact Ev.tt (by simp [h0]) (Ev.bind (n_cond_ev _ _) (Ev.bind (n_cond_ev _ _) (Ev.bind (f2 _ _ (by simp [q1]) (by simp [q2])) Ev.ret)))
  · obtain ⟨q1, q2, q3⟩ := hn h0
    have h18 : t.2.1 ≤ 18 := by
      unfold TypeOK at hT; omega
    have hp := neg_pow t.2.1.toNat (by omega)
    have e : ((t.2.1.toNat : Nat) : Int) = t.2.1 := Int.toNat_of_nonneg hb.2.2.1
    have hw := n_power_ev t.2.1.toNat (by omega)
    rw [e] at hw
    refine Ev.ff (by simp [h0]) (Ev.bind hw (Ev.bind (n_cond_ev _ _) (Ev.bind (n_in_ev _ _ _) (Ev.bind (n_cond_ev _ _) (Ev.bind (f2 _ _ ?_ ?_) Ev.ret)))))
    · simp [q1, eqS]
    · rw [hp.1, hp.2]
      have : inB v.1 (-(10 ^ t.2.1.toNat - 1)) (10 ^ t.2.1.toNat - 1) = true := by
        simp only [inB, Bool.and_eq_true, decide_eq_true_eq]; exact ⟨q2, q3⟩
      simp [this]
end Mini

/- Operands. -/
namespace Mini
open Go
variable [MX]

def Canon (o : MiOperand) : Prop :=
  ((o.2.1 = 0 ∨ o.2.1 = 4) → o.2.2.2.2.1 = [] ∧ o.2.2.2.2.2.1 = 0 ∧ o.2.2.2.2.2.2.1 = 0) ∧
  ((o.2.1 = 1 ∨ o.2.1 = 2) → o.2.2.2.1.1 = 0 ∧ o.2.2.2.1.2.1 = [] ∧ o.2.2.2.2.2.2.1 = 0) ∧
  (o.2.1 = 3 → (o.2.2.1.1 = 0 ∧ o.2.2.1.2.1 = 0 ∧ o.2.2.1.2.2.1 = 0) ∧ (o.2.2.2.1.1 = 0 ∧ o.2.2.2.1.2.1 = []) ∧ o.2.2.2.2.1 = [] ∧ o.2.2.2.2.2.1 = 0 ∧ o.2.2.2.2.2.2.1 = 0) ∧
  (o.2.1 = 5 → (o.2.2.1.1 = 0 ∧ o.2.2.1.2.1 = 0 ∧ o.2.2.1.2.2.1 = 0) ∧ (o.2.2.2.1.1 = 0 ∧ o.2.2.2.1.2.1 = []) ∧ o.2.2.2.2.1 = [] ∧ o.2.2.2.2.2.1 = 0)

theorem kinds {n : Int} (h0 : 0 ≤ n) (h5 : n ≤ 5) : n = 0 ∨ n = 1 ∨ n = 2 ∨ n = 3 ∨ n = 4 ∨ n = 5 := by omega

theorem r_hasExtra_ev (o : MiOperand) (h0 : 0 ≤ o.2.1) (h5 : o.2.1 ≤ 5) : ∃ b, Ev (fun k => r_hasExtra k o) b ∧ (b = false → Canon o) := by
  obtain ⟨nm, kd, ⟨tk, tl, ts, _⟩, ⟨vn, vs, _⟩, bs, off, tg, _⟩ := o
  rcases kinds h0 h5 with h | h | h | h | h | h <;> (simp only at h; subst h)
  · refine ⟨_, Ev.step (r_hasExtra_eq · _) (Ev.tt rfl (Ev.tt rfl Ev.ret)), fun h => ?_⟩
    simp only [bsel_or, bsel_and, nt_not, eqS, eqI, Bool.or_eq_false_iff, Bool.not_eq_false', Bool.and_eq_true, decide_eq_true_eq, Bool.and_true] at h
    simp [Canon, h]
  · refine ⟨_, Ev.step (r_hasExtra_eq · _) (Ev.ff rfl (Ev.ff rfl (Ev.tt rfl (Ev.tt rfl Ev.ret)))), fun h => ?_⟩
    simp only [bsel_or, bsel_and, nt_not, eqS, eqI, Bool.or_eq_false_iff, Bool.not_eq_false', Bool.and_eq_true, decide_eq_true_eq, Bool.and_true] at h
    simp [Canon, h]
  · refine ⟨_, Ev.step (r_hasExtra_eq · _) (Ev.ff rfl (Ev.ff rfl (Ev.ff rfl (Ev.tt rfl Ev.ret)))), fun h => ?_⟩
    simp only [bsel_or, bsel_and, nt_not, eqS, eqI, Bool.or_eq_false_iff, Bool.not_eq_false', Bool.and_eq_true, decide_eq_true_eq, Bool.and_true] at h
    simp [Canon, h]
  · refine ⟨_, Ev.step (r_hasExtra_eq · _) (Ev.ff rfl (Ev.ff rfl (Ev.ff rfl (Ev.ff rfl (Ev.tt rfl Ev.ret))))), fun h => ?_⟩
    simp only [bsel_or, bsel_and, nt_not, eqS, eqI, Bool.or_eq_false_iff, Bool.not_eq_false', Bool.and_eq_true, decide_eq_true_eq, Bool.and_true] at h
    simp [Canon, h]
  · refine ⟨_, Ev.step (r_hasExtra_eq · _) (Ev.ff rfl (Ev.tt rfl Ev.ret)), fun h => ?_⟩
    simp only [bsel_or, bsel_and, nt_not, eqS, eqI, Bool.or_eq_false_iff, Bool.not_eq_false', Bool.and_eq_true, decide_eq_true_eq, Bool.and_true] at h
    simp [Canon, h]
  · refine ⟨_, Ev.step (r_hasExtra_eq · _) (Ev.ff rfl (Ev.ff rfl (Ev.ff rfl (Ev.ff rfl (Ev.ff rfl (Ev.step (r_hasExtra_22_eq · _ _ _ _ _ _ _ _ _ _ _ _) Ev.ret)))))), fun h => ?_⟩
    simp only [bsel_or, bsel_and, nt_not, eqS, eqI, Bool.or_eq_false_iff, Bool.not_eq_false', Bool.and_eq_true, decide_eq_true_eq, Bool.and_true] at h
    simp [Canon, h]

theorem p_kept_ev {o : MiOperand} (h0 : 0 ≤ o.2.1) (h5 : o.2.1 ≤ 5) (hc : Canon o) : Ev (fun k => p_kept k o) o := by
  obtain ⟨nm, kd, ⟨tk, tl, ts, _⟩, ⟨vn, vs, _⟩, bs, off, tg, _⟩ := o
  rcases kinds h0 h5 with h | h | h | h | h | h <;> (simp only at h; subst h)
  · simp [Canon] at hc
    refine Ev.step (p_kept_eq · _) (Ev.bind (p_isData_ev _) (Ev.tt rfl (Ev.step (p_kept_8_eq · _ _ _ _ _ _ _ _ _ _ _ _ _ _ _ _ _ _ _ _ _ _ _ _ _ _ _ _ _ _) (Ev.tt rfl (Ev.tt rfl (Ev.ret.eq ?_))))))
    simp [hc]
  · simp [Canon] at hc
    refine Ev.step (p_kept_eq · _) (Ev.bind (p_isData_ev _) (Ev.tt rfl (Ev.step (p_kept_8_eq · _ _ _ _ _ _ _ _ _ _ _ _ _ _ _ _ _ _ _ _ _ _ _ _ _ _ _ _ _ _) (Ev.ff rfl (Ev.ff rfl (Ev.tt rfl (Ev.tt rfl (Ev.ret.eq ?_))))))))
    simp [hc]
  · simp [Canon] at hc
    refine Ev.step (p_kept_eq · _) (Ev.bind (p_isData_ev _) (Ev.tt rfl (Ev.step (p_kept_8_eq · _ _ _ _ _ _ _ _ _ _ _ _ _ _ _ _ _ _ _ _ _ _ _ _ _ _ _ _ _ _) (Ev.ff rfl (Ev.ff rfl (Ev.ff rfl (Ev.tt rfl (Ev.ret.eq ?_))))))))
    simp [hc]
  · simp [Canon] at hc
    refine Ev.step (p_kept_eq · _) (Ev.bind (p_isData_ev _) (Ev.ff rfl (Ev.step (p_kept_8_eq · _ _ _ _ _ _ _ _ _ _ _ _ _ _ _ _ _ _ _ _ _ _ _ _ _ _ _ _ _ _) (Ev.ff rfl (Ev.ff rfl (Ev.ff rfl (Ev.ff rfl (Ev.ff rfl (Ev.ret.eq ?_)))))))))
    simp [hc]
  · simp [Canon] at hc
    refine Ev.step (p_kept_eq · _) (Ev.bind (p_isData_ev _) (Ev.tt rfl (Ev.step (p_kept_8_eq · _ _ _ _ _ _ _ _ _ _ _ _ _ _ _ _ _ _ _ _ _ _ _ _ _ _ _ _ _ _) (Ev.ff rfl (Ev.tt rfl (Ev.ret.eq ?_))))))
    simp [hc]
  · simp [Canon] at hc
    refine Ev.step (p_kept_eq · _) (Ev.bind (p_isData_ev _) (Ev.ff rfl (Ev.step (p_kept_8_eq · _ _ _ _ _ _ _ _ _ _ _ _ _ _ _ _ _ _ _ _ _ _ _ _ _ _ _ _ _ _) (Ev.ff rfl (Ev.ff rfl (Ev.ff rfl (Ev.ff rfl (Ev.tt rfl (Ev.ret.eq ?_)))))))))
    simp [hc]

/-! ### first places -/
theorem fIdx_spec {α : Type} (p : α → Bool) : ∀ (l : List α) (n : Nat), (fIdx p n l = -1 ∧ ∀ x ∈ l, p x = false) ∨ ∃ j u, l[j]? = some u ∧ p u = true ∧ fIdx p n l = ((n + j : Nat) : Int) ∧ ∀ i v, i < j → l[i]? = some v → p v = false := by
  intro l
  induction l with
  | nil => intro n; exact .inl ⟨rfl, fun x h => by cases h⟩
  | cons x l ih =>
    intro n
    cases hx : p x with
    | true => exact .inr ⟨0, x, rfl, hx, by simp [fIdx, hx], fun i v h => by omega⟩
    | false =>
      have e : fIdx p n (x :: l) = fIdx p (n + 1) l := by simp [fIdx, hx]
      rcases ih (n + 1) with ⟨h1, h2⟩ | ⟨j, u, h1, h2, h3, h4⟩
      · refine .inl ⟨e.trans h1, fun y hy => ?_⟩
        rcases List.mem_cons.1 hy with rfl | hy
        · exact hx
        · exact h2 y hy
      · refine .inr ⟨j + 1, u, by simpa using h1, h2, by rw [e, h3]; omega, fun i v hi hv => ?_⟩
        cases i with
        | zero => simp at hv; subst hv; exact hx
        | succ i => exact h4 i v (by omega) (by simpa using hv)
theorem fIdx_none {α : Type} {p : α → Bool} {l : List α} {n : Nat} (h : ∀ x ∈ l, p x = false) : fIdx p n l = -1 := by
  rcases fIdx_spec p l n with ⟨h1, _⟩ | ⟨j, u, h1, h2, _, _⟩
  · exact h1
  · rw [h u (List.mem_of_getElem? h1)] at h2; cases h2
theorem fIdx_some {α : Type} {p : α → Bool} {l : List α} {j : Nat} {u : α} (h1 : l[j]? = some u) (h2 : p u = true) (h3 : ∀ i v, i < j → l[i]? = some v → p v = false) : fIdx p 0 l = (j : Int) := by
  rcases fIdx_spec p l 0 with ⟨_, h⟩ | ⟨j', u', q1, q2, q3, q4⟩
  · rw [h u (List.mem_of_getElem? h1)] at h2; cases h2
  · have : j' = j := by
      rcases Nat.lt_trichotomy j' j with h | h | h
      · rw [h3 j' u' h q1] at q2; cases q2
      · exact h
      · rw [q4 j u h h1] at h2; cases h2
    rw [q3, this]; simp

/-! ### operands, in the reference -/
def pName (v : Str) : MiOperand → Bool := fun o => eqS o.1 v
def BaseIs (ops : List MiOperand) (i : Nat) (kd off : Int) (ty : DataType) (bs : Str) : Prop :=
  ∃ (j : Nat) (u : MiOperand), j < i ∧ ops[j]? = some u ∧ fIdx (pName bs) 0 ops = (j : Int) ∧ (kd = 1 → u.2.1 = 0 ∧ 0 ≤ off ∧ off ≤ sizeD u.2.2.1 - sizeD ty) ∧ (kd = 2 → u.2.1 = 3 ∧ 0 ≤ off ∧ off ≤ 256)

/-- the error of what a view or a based operand stands on -/
theorem baseErr_r (a : List MiOperand) (b : List MiInstruction) (c : List MiMonitor) (i : Nat) (ha : a.length < 1000000) (hT : ∀ (j : Nat) u, j < i → a[j]? = some u → u.2.1 = 0 → TypeOK u.2.2.1) (kd off : Int) (ty : DataType) (bs : Str) (hk : kd = 1 ∨ kd = 2) (hty : TypeOK ty) :
    ∃ e : Int, Ev (fun k => (r_At k (a, b, c, ()) bs).bind fun y1 =>
      bsel (bsel (decide (y1 = (-1))) true (decide ((i : Int) ≤ y1))) (some 11) ((rd a y1).bind fun y3 =>
        bsel (bsel (bsel (decide (kd = 1)) (!decide (y3.2.1 = 0)) false) true (bsel (decide (kd = 2)) (!decide (y3.2.1 = 3)) false)) (some 17)
          (bsel (decide (kd = 1)) ((b_Size k y3.2.2.1).bind fun y4 => (b_Size k ty).bind fun y5 => (b_Within k off 0 (w64 (y4 - y5))).bind fun y6 => bsel (nt y6) (some 3) (some 0))
            ((b_Within k off 0 256).bind fun y7 => bsel (nt y7) (some 3) (some 0))))) e ∧ (e = 0 → BaseIs a i kd off ty bs) := by
  have hA := r_At_ev (a, b, c, ()) bs ha
  rcases fIdx_spec (pName bs) a 0 with ⟨h1, _⟩ | ⟨j, u, h1, h2, h3, h4⟩
  · refine ⟨11, Ev.bind hA ?_, fun h => by cases h⟩
    have e : fIdx (fun o : MiOperand => eqS o.1 bs) 0 a = -1 := h1
    rw [e]
    exact Ev.tt (by simp [bsel_or]) Ev.ret
  · rw [Nat.zero_add] at h3
    have e : fIdx (fun o : MiOperand => eqS o.1 bs) 0 a = (j : Int) := h3
    by_cases hj : j < i
    · have c1 : bsel (decide (((j : Nat) : Int) = (-1))) true (decide ((i : Int) ≤ (j : Int))) = false := by
        simp only [bsel_or, Bool.or_eq_false_iff, decide_eq_false_iff_not]; omega
      rcases hk with rfl | rfl
      · by_cases hu : u.2.1 = 0
        · have hs1 := b_Size_ev (hT j u hj h1 hu)
          have hs2 := b_Size_ev hty
          have b1 := sizeD_bounds (hT j u hj h1 hu)
          have b2 := sizeD_bounds hty
          have hw : w64 (sizeD u.2.2.1 - sizeD ty) = sizeD u.2.2.1 - sizeD ty := w64_id (by omega) (by omega)
          cases hi : inB off 0 (sizeD u.2.2.1 - sizeD ty) with
          | true =>
            refine ⟨0, Ev.bind hA ?_, fun _ => ⟨j, u, hj, h1, h3, fun _ => ⟨hu, ?_⟩, fun h => by cases h⟩⟩
            · rw [e]
              refine Ev.ff c1 (Ev.let ((rd_nat a j).trans h1) (Ev.ff (by simp [hu]) (Ev.tt rfl (Ev.bind hs1 (Ev.bind hs2 ?_)))))
              rw [hw]
              exact Ev.bind ((b_Within_ev _ _ _).eq hi) (Ev.ff rfl Ev.ret)
            · simpa [inB] using hi
          | false =>
            refine ⟨3, Ev.bind hA ?_, fun h => by cases h⟩
            rw [e]
            refine Ev.ff c1 (Ev.let ((rd_nat a j).trans h1) (Ev.ff (by simp [hu]) (Ev.tt rfl (Ev.bind hs1 (Ev.bind hs2 ?_)))))
            rw [hw]
            exact Ev.bind ((b_Within_ev _ _ _).eq hi) (Ev.tt rfl Ev.ret)
        · refine ⟨17, Ev.bind hA ?_, fun h => by cases h⟩
          rw [e]
          exact Ev.ff c1 (Ev.let ((rd_nat a j).trans h1) (Ev.tt (by simp [hu, bsel_or, bsel_and]) Ev.ret))
      · by_cases hu : u.2.1 = 3
        · cases hi : inB off 0 256 with
          | true =>
            refine ⟨0, Ev.bind hA ?_, fun _ => ⟨j, u, hj, h1, h3, (fun h => by cases h), fun _ => ⟨hu, ?_⟩⟩⟩
            · rw [e]
              exact Ev.ff c1 (Ev.let ((rd_nat a j).trans h1) (Ev.ff (by simp [hu]) (Ev.ff rfl (Ev.bind ((b_Within_ev _ _ _).eq hi) (Ev.ff rfl Ev.ret)))))
            · simpa [inB] using hi
          | false =>
            refine ⟨3, Ev.bind hA ?_, fun h => by cases h⟩
            rw [e]
            exact Ev.ff c1 (Ev.let ((rd_nat a j).trans h1) (Ev.ff (by simp [hu]) (Ev.ff rfl (Ev.bind ((b_Within_ev _ _ _).eq hi) (Ev.tt rfl Ev.ret)))))
        · refine ⟨17, Ev.bind hA ?_, fun h => by cases h⟩
          rw [e]
          exact Ev.ff c1 (Ev.let ((rd_nat a j).trans h1) (Ev.tt (by simp [hu, bsel_or, bsel_and]) Ev.ret))
    · refine ⟨11, Ev.bind hA ?_, fun h => by cases h⟩
      rw [e]
      exact Ev.tt (by simp only [bsel_or, Bool.or_eq_true, decide_eq_true_eq]; omega) Ev.ret

theorem inB_iff (n lo hi : Int) : inB n lo hi = true ↔ lo ≤ n ∧ n ≤ hi := by simp [inB]

/-- the part of OprOK that the last step looks at -/
def LastOK (a : List MiOperand) (n i : Nat) (o : MiOperand) : Prop :=
  ((o.2.1 = 0 ∨ o.2.1 = 4) → ValueOK o.2.2.1 o.2.2.2.1) ∧ ((o.2.1 = 1 ∨ o.2.1 = 2) → BaseIs a i o.2.1 o.2.2.2.2.2.1 o.2.2.1 o.2.2.2.2.1) ∧ (o.2.1 = 5 → 0 ≤ o.2.2.2.2.2.2.1 ∧ o.2.2.2.2.2.2.1 ≤ (n : Int) - 1)

theorem r_operandErr_32_ev (a : List MiOperand) (b : List MiInstruction) (c : List MiMonitor) (i : Nat) (o : MiOperand) (h0 : 0 ≤ o.2.1) (h5 : o.2.1 ≤ 5) (ha : a.length < 1000000) (hb : b.length < 1000000) (hT : ∀ (j : Nat) u, j < i → a[j]? = some u → u.2.1 = 0 → TypeOK u.2.2.1) (hd : dataK o.2.1 = true → TypeOK o.2.2.1) :
    ∃ e, Ev (fun k => r_operandErr_32 k (i : Int) a b c o.1 o.2.1 o.2.2.1.1 o.2.2.1.2.1 o.2.2.1.2.2.1 o.2.2.2.1.1 o.2.2.2.1.2.1 o.2.2.2.2.1 o.2.2.2.2.2.1 o.2.2.2.2.2.2.1) e ∧ (e = 0 → LastOK a b.length i o) := by
  obtain ⟨nm, kd, ⟨tk, tl, ts, _⟩, ⟨vn, vs, _⟩, bs, off, tg, _⟩ := o
  have hA := r_At_ev (a, b, c, ()) bs ha
  have hw : w64 ((b.length : Int) - 1) = (b.length : Int) - 1 := w64_id (by omega) (by omega)
  rcases kinds h0 h5 with h | h | h | h | h | h <;> (simp only at h; subst h)
  · obtain ⟨e, h1, h2⟩ := q_ValueErr_ev (tk, tl, ts, ()) (vn, vs, ())
    exact ⟨e, Ev.step (r_operandErr_32_eq · _ _ _ _ _ _ _ _ _ _ _ _ _ _) (Ev.bind hA (Ev.tt rfl (Ev.tt rfl (Ev.bind h1 Ev.ret)))), fun he => ⟨fun _ => h2 he, (fun h => by rcases h with h | h <;> cases h), fun h => by cases h⟩⟩
  · obtain ⟨e, ⟨N, h1⟩, h2⟩ := baseErr_r a b c i ha hT 1 off (tk, tl, ts, ()) bs (.inl rfl) (hd rfl)
    exact ⟨e, Ev.step (r_operandErr_32_eq · _ _ _ _ _ _ _ _ _ _ _ _ _ _) ⟨N, fun k hk => h1 k hk⟩, fun he => ⟨(fun h => by rcases h with h | h <;> cases h), (fun _ => h2 he), fun h => by cases h⟩⟩
  · obtain ⟨e, ⟨N, h1⟩, h2⟩ := baseErr_r a b c i ha hT 2 off (tk, tl, ts, ()) bs (.inr rfl) (hd rfl)
    exact ⟨e, Ev.step (r_operandErr_32_eq · _ _ _ _ _ _ _ _ _ _ _ _ _ _) ⟨N, fun k hk => h1 k hk⟩, fun he => ⟨(fun h => by rcases h with h | h <;> cases h), (fun _ => h2 he), fun h => by cases h⟩⟩
  · exact ⟨0, Ev.step (r_operandErr_32_eq · _ _ _ _ _ _ _ _ _ _ _ _ _ _) (Ev.bind hA (Ev.ff rfl (Ev.ff rfl (Ev.ff rfl (Ev.ff rfl (Ev.ff rfl Ev.ret)))))), fun _ => ⟨(fun h => by rcases h with h | h <;> cases h), (fun h => by rcases h with h | h <;> cases h), fun h => by cases h⟩⟩
  · obtain ⟨e, h1, h2⟩ := q_ValueErr_ev (tk, tl, ts, ()) (vn, vs, ())
    exact ⟨e, Ev.step (r_operandErr_32_eq · _ _ _ _ _ _ _ _ _ _ _ _ _ _) (Ev.bind hA (Ev.ff rfl (Ev.tt rfl (Ev.bind h1 Ev.ret)))), fun he => ⟨fun _ => h2 he, (fun h => by rcases h with h | h <;> cases h), fun h => by cases h⟩⟩
  · cases hi : inB tg 0 ((b.length : Int) - 1) with
    | true =>
      refine ⟨0, Ev.step (r_operandErr_32_eq · _ _ _ _ _ _ _ _ _ _ _ _ _ _) (Ev.bind hA (Ev.ff rfl (Ev.ff rfl (Ev.ff rfl (Ev.ff rfl (Ev.tt rfl (Ev.bind (y := true) ?_ (Ev.ff rfl Ev.ret)))))))), fun _ => ⟨(fun h => by rcases h with h | h <;> cases h), (fun h => by rcases h with h | h <;> cases h), fun _ => (inB_iff _ _ _).1 hi⟩⟩
      rw [hw]; exact (b_Within_ev _ _ _).eq hi
    | false =>
      refine ⟨3, Ev.step (r_operandErr_32_eq · _ _ _ _ _ _ _ _ _ _ _ _ _ _) (Ev.bind hA (Ev.ff rfl (Ev.ff rfl (Ev.ff rfl (Ev.ff rfl (Ev.tt rfl (Ev.bind (y := false) ?_ (Ev.tt rfl Ev.ret)))))))), fun h => by cases h⟩
      rw [hw]; exact (b_Within_ev _ _ _).eq hi
end Mini

/- Operands, in both checks. -/
namespace Mini
open Go
variable [MX]

def OprOK (a : List MiOperand) (n i : Nat) (o : MiOperand) : Prop :=
  isNameB o.1 = true ∧ ¬ (fIdx (pName o.1) 0 a < (i : Int)) ∧ (0 ≤ o.2.1 ∧ o.2.1 ≤ 5) ∧ Canon o ∧ (dataK o.2.1 = true → TypeOK o.2.2.1 ∧ o.2.2.1.1 ≠ 4) ∧ LastOK a n i o
def OprsOK (a : List MiOperand) (n m : Nat) : Prop := ∀ (j : Nat) u, j < m → a[j]? = some u → OprOK a n j u

theorem OprsOK.types {a : List MiOperand} {n m : Nat} (h : OprsOK a n m) : ∀ (j : Nat) u, j < m → a[j]? = some u → u.2.1 = 0 → TypeOK u.2.2.1 := fun j u hj hu h0 => ((h j u hj hu).2.2.2.2.1 (by rw [h0]; rfl)).1

theorem Ev.lift {α : Type} {Q : α → Prop} {f g : Nat → Option α} (hb : ∀ k, f (k + 1) = g k) (h : ∃ e, Ev g e ∧ Q e) : ∃ e, Ev f e ∧ Q e := by
  obtain ⟨e, h1, h2⟩ := h
  exact ⟨e, Ev.step hb h1, h2⟩
theorem Ev.liftB {α β : Type} {Q : β → Prop} {f : Nat → Option α} {g : Nat → α → Option β} {y : α} (h1 : Ev f y) (h : ∃ e, Ev (fun k => g k y) e ∧ Q e) : ∃ e, Ev (fun k => (f k).bind (g k)) e ∧ Q e := by
  obtain ⟨e, h2, h3⟩ := h
  exact ⟨e, Ev.bind h1 h2, h3⟩
theorem Ev.liftL {α β : Type} {Q : β → Prop} {a : Option α} {g : Nat → α → Option β} {y : α} (h1 : a = some y) (h : ∃ e, Ev (fun k => g k y) e ∧ Q e) : ∃ e, Ev (fun k => a.bind (g k)) e ∧ Q e := by
  rw [h1]; exact h
theorem Ev.liftC {α : Type} {Q : α → Prop} {c : Bool} {f g : Nat → Option α} (h1 : c = true → ∃ e, Ev f e ∧ Q e) (h2 : c = false → ∃ e, Ev g e ∧ Q e) : ∃ e, Ev (fun k => bsel c (f k) (g k)) e ∧ Q e := by
  cases c with
  | true => exact h1 rfl
  | false => exact h2 rfl

theorem r_operandErr_ev (a : List MiOperand) (b : List MiInstruction) (c : List MiMonitor) (i : Nat) (o : MiOperand) (hi : a[i]? = some o) (ha : a.length < 1000000) (hb : b.length < 1000000) (hn : o.1.length < 1000000) (hp : OprsOK a b.length i) :
    ∃ e, Ev (fun k => r_operandErr k (a, b, c, ()) (i : Int)) e ∧ (e = 0 → OprOK a b.length i o) := by
  refine Ev.lift (r_operandErr_eq · _ _) (Ev.liftL ((rd_nat a i).trans hi) (Ev.liftB (b_IsName_ev _ hn) (Ev.liftC (fun _ => ⟨7, Ev.ret, fun h => by cases h⟩) fun q1 => ?_)))
  refine Ev.liftB (r_At_ev (a, b, c, ()) o.1 ha) (Ev.liftC (fun _ => ⟨13, Ev.ret, fun h => by cases h⟩) fun q2 => ?_)
  refine Ev.liftB (b_Within_ev _ _ _) (Ev.liftC (fun _ => ⟨4, Ev.ret, fun h => by cases h⟩) fun q3 => ?_)
  have q1' : isNameB o.1 = true := by
    cases h : isNameB o.1 with
    | true => rfl
    | false => rw [h] at q1; cases q1
  have q2' : ¬ (fIdx (pName o.1) 0 a < (i : Int)) := of_decide_eq_false q2
  have q3' : 0 ≤ o.2.1 ∧ o.2.1 ≤ 5 := by
    rw [← inB_iff]
    cases h : inB o.2.1 0 5 with
    | true => rfl
    | false => rw [h] at q3; cases q3
  obtain ⟨bb, r1, r2⟩ := r_hasExtra_ev o q3'.1 q3'.2
  refine Ev.liftB r1 (Ev.liftC (fun _ => ⟨5, Ev.ret, fun h => by cases h⟩) fun q4 => ?_)
  have q4' := r2 q4
  refine Ev.liftB (r_IsData_ev _) (Ev.liftC (fun q5 => ?_) fun q5 => ?_)
  · obtain ⟨e1, t1, t2⟩ := q_TypeErr_ev o.2.2.1
    refine Ev.liftB t1 (Ev.liftC (fun h => ⟨e1, Ev.ret, fun h0 => by subst h0; cases h⟩) fun q6 => ?_)
    have hT := t2 (by simpa using q6)
    refine Ev.liftC (fun _ => ⟨17, Ev.ret, fun h => by cases h⟩) fun q7 => ?_
    obtain ⟨e, s1, s2⟩ := r_operandErr_32_ev a b c i o q3'.1 q3'.2 ha hb hp.types (fun _ => hT)
    exact ⟨e, s1, fun he => ⟨q1', q2', q3', q4', fun _ => ⟨hT, of_decide_eq_false q7⟩, s2 he⟩⟩
  · obtain ⟨e, s1, s2⟩ := r_operandErr_32_ev a b c i o q3'.1 q3'.2 ha hb hp.types (fun h => by rw [h] at q5; cases q5)
    exact ⟨e, s1, fun he => ⟨q1', q2', q3', q4', (fun h => by rw [h] at q5; cases q5), s2 he⟩⟩

/-! ### the same, by the program -/
theorem fIdx_take {α : Type} {p : α → Bool} {l : List α} {i : Nat} (h : ¬ (fIdx p 0 l < (i : Int)) ∨ fIdx p 0 l = -1) : fIdx p 0 (l.take i) = -1 := by
  refine fIdx_none fun x hx => ?_
  rcases fIdx_spec p l 0 with ⟨_, h2⟩ | ⟨j, u, h1, h2, h3, h4⟩
  · exact h2 x (List.mem_of_mem_take hx)
  · obtain ⟨m, hm⟩ := List.getElem?_of_mem hx
    rw [List.getElem?_take] at hm
    split at hm
    · rename_i hmi
      exact h4 m x (by omega) hm
    · cases hm
theorem fIdx_take_some {α : Type} {p : α → Bool} {l : List α} {i j : Nat} (h : fIdx p 0 l = (j : Int)) (hj : j < i) : fIdx p 0 (l.take i) = (j : Int) := by
  rcases fIdx_spec p l 0 with ⟨h1, _⟩ | ⟨j', u, h1, h2, h3, h4⟩
  · omega
  · have : j' = j := by omega
    subst this
    refine fIdx_some (u := u) (by rw [List.getElem?_take, if_pos hj]; exact h1) h2 fun i' v hi' hv => ?_
    rw [List.getElem?_take, if_pos (by omega)] at hv
    exact h4 i' v hi' hv

theorem p_baseErr_ev (a : List MiOperand) (i : Nat) (o : MiOperand) (ha : a.length < 1000000) (hi : i ≤ a.length) (hk : o.2.1 = 1 ∨ o.2.1 = 2) (hT : ∀ (j : Nat) u, j < i → a[j]? = some u → u.2.1 = 0 → TypeOK u.2.2.1) (hty : TypeOK o.2.2.1) (hB : BaseIs a i o.2.1 o.2.2.2.2.2.1 o.2.2.1 o.2.2.2.2.1) :
    Ev (fun k => p_baseErr k o (a.take i)) 0 := by
  obtain ⟨j, u, hj, hu, hx, h1, h2⟩ := hB
  have hN := p_named_ev (a.take i) o.2.2.2.2.1 (by rw [List.length_take]; omega)
  have hx' : fIdx (fun q : MiOperand => eqS q.1 o.2.2.2.2.1) 0 (a.take i) = (j : Int) := fIdx_take_some (p := pName o.2.2.2.2.1) hx hj
  have hu' : rd (a.take i) (j : Int) = some u := by rw [rd_nat, List.getElem?_take, if_pos hj]; exact hu
  refine Ev.step (p_baseErr_eq · _ _) (Ev.bind (hN.eq hx') (Ev.ff (by simp) (Ev.let hu' ?_)))
  rcases hk with hk | hk
  · obtain ⟨g1, g2, g3⟩ := h1 hk
    have b1 := sizeD_bounds (hT j u hj hu g1)
    have b2 := sizeD_bounds hty
    have hw : w64 (sizeD u.2.2.1 - sizeD o.2.2.1) = sizeD u.2.2.1 - sizeD o.2.2.1 := w64_id (by omega) (by omega)
    refine Ev.ff (by simp [hk]) (Ev.ff (by simp [g1]) (Ev.bind (p_size_ev (hT j u hj hu g1)) (Ev.bind (p_size_ev hty) (Ev.bind (y := true) ?_ (Ev.bind (p_cond_ev _ _) Ev.ret)))))
    rw [hw]
    exact (p_in_ev _ _ _).eq ((inB_iff _ _ _).2 ⟨g2, g3⟩)
  · obtain ⟨g1, g2, g3⟩ := h2 hk
    have hin : inB o.2.2.2.2.2.1 0 256 = true := (inB_iff _ _ _).2 ⟨g2, g3⟩
    refine Ev.tt (by simp [hk]) (Ev.bind (p_cond_ev _ _) (Ev.bind ((p_in_ev _ _ _).eq hin) (Ev.bind (p_cond_ev _ _) (Ev.bind (y := 0) ?_ Ev.ret))))
    exact (p_first_ev _ (by simp)).eq (by simp [firstN, g1])

theorem p_operandErr_18_ev (a : List MiOperand) (b : List MiInstruction) (c : List MiMonitor) (i : Nat) (o : MiOperand) (ha : a.length < 1000000) (hb : b.length < 1000000) (hi : i ≤ a.length) (hT : ∀ (j : Nat) u, j < i → a[j]? = some u → u.2.1 = 0 → TypeOK u.2.2.1) (hd : dataK o.2.1 = true → TypeOK o.2.2.1) (h05 : 0 ≤ o.2.1 ∧ o.2.1 ≤ 5) (hL : LastOK a b.length i o) :
    Ev (fun k => p_operandErr_18 k (a.take i) a b c o.1 o.2.1 o.2.2.1.1 o.2.2.1.2.1 o.2.2.1.2.2.1 o.2.2.2.1.1 o.2.2.2.1.2.1 o.2.2.2.2.1 o.2.2.2.2.2.1 o.2.2.2.2.2.2.1) 0 := by
  obtain ⟨nm, kd, ⟨tk, tl, ts, _⟩, ⟨vn, vs, _⟩, bs, off, tg, _⟩ := o
  obtain ⟨l1, l2, l3⟩ := hL
  rcases kinds h05.1 h05.2 with h | h | h | h | h | h <;> (simp only at h; subst h)
  · exact Ev.step (p_operandErr_18_eq · _ _ _ _ _ _ _ _ _ _ _ _ _ _) (Ev.tt rfl (Ev.tt rfl (Ev.bind (n_CheckValue_ev (l1 (.inl rfl))) Ev.ret)))
  · exact Ev.step (p_operandErr_18_eq · _ _ _ _ _ _ _ _ _ _ _ _ _ _) (Ev.ff rfl (Ev.ff rfl (Ev.tt rfl (Ev.tt rfl (Ev.bind (p_baseErr_ev a i (nm, 1, (tk, tl, ts, ()), (vn, vs, ()), bs, off, tg, ()) ha hi (.inl rfl) hT (hd rfl) (l2 (.inl rfl))) Ev.ret)))))
  · exact Ev.step (p_operandErr_18_eq · _ _ _ _ _ _ _ _ _ _ _ _ _ _) (Ev.ff rfl (Ev.ff rfl (Ev.ff rfl (Ev.tt rfl (Ev.bind (p_baseErr_ev a i (nm, 2, (tk, tl, ts, ()), (vn, vs, ()), bs, off, tg, ()) ha hi (.inr rfl) hT (hd rfl) (l2 (.inr rfl))) Ev.ret)))))
  · exact Ev.step (p_operandErr_18_eq · _ _ _ _ _ _ _ _ _ _ _ _ _ _) (Ev.ff rfl (Ev.ff rfl (Ev.ff rfl (Ev.ff rfl (Ev.ff rfl Ev.ret)))))
  · exact Ev.step (p_operandErr_18_eq · _ _ _ _ _ _ _ _ _ _ _ _ _ _) (Ev.ff rfl (Ev.tt rfl (Ev.bind (n_CheckValue_ev (l1 (.inr rfl))) Ev.ret)))
  · have hw : w64 ((b.length : Int) - 1) = (b.length : Int) - 1 := w64_id (by omega) (by omega)
    refine Ev.step (p_operandErr_18_eq · _ _ _ _ _ _ _ _ _ _ _ _ _ _) (Ev.ff rfl (Ev.ff rfl (Ev.ff rfl (Ev.ff rfl (Ev.tt rfl (Ev.bind (y := true) ?_ (Ev.bind (p_cond_ev _ _) Ev.ret)))))))
    rw [hw]
    exact (p_in_ev _ _ _).eq ((inB_iff _ _ _).2 (l3 rfl))

theorem p_operandErr_ev (a : List MiOperand) (b : List MiInstruction) (c : List MiMonitor) (i : Nat) (o : MiOperand) (hi : a[i]? = some o) (ha : a.length < 1000000) (hb : b.length < 1000000) (hn : o.1.length < 1000000) (hp : OprsOK a b.length i) (ho : OprOK a b.length i o) :
    Ev (fun k => p_operandErr k (a, b, c, ()) (i : Int)) 0 := by
  obtain ⟨q1, q2, q3, q4, q5, q6⟩ := ho
  have hlt : i < a.length := (List.getElem?_eq_some_iff.1 hi).1
  have hsub : subL a 0 (i : Int) = some (a.take i) := by
    have := subL_eq (xs := a) (a := 0) (b := i) (by omega) (by omega)
    simpa using this
  have hx : fIdx (fun q : MiOperand => eqS q.1 o.1) 0 (a.take i) = -1 := fIdx_take (p := pName o.1) (.inl q2)
  have hf : Ev (fun k => p_first k [0, 0, 0, 0]) 0 := (p_first_ev _ (by simp)).eq (by simp [firstN])
  refine Ev.step (p_operandErr_eq · _ _) (Ev.let ((rd_nat a i).trans hi) (Ev.let hsub (Ev.bind ((p_isName_ev _ hn).eq q1) (Ev.bind (p_cond_ev _ _) ?_))))
  refine Ev.bind ((p_named_ev (a.take i) o.1 (by rw [List.length_take]; omega)).eq hx) (Ev.bind (p_cond_ev _ _) (Ev.bind ((p_in_ev _ _ _).eq ((inB_iff _ _ _).2 q3)) (Ev.bind (p_cond_ev _ _) (Ev.bind (p_kept_ev q3.1 q3.2 q4) (Ev.bind (y := 0) ?_ (Ev.bind hf (Ev.ff rfl (Ev.bind (p_isData_ev _) ?_))))))))
  · refine (p_cond_ev _ _).eq ?_
    simp [eqS, eqI, nt]
  · have hfin := p_operandErr_18_ev a b c i o ha hb (by omega) hp.types (fun h => (q5 h).1) q3 q6
    cases hd : dataK o.2.1 with
    | true =>
      obtain ⟨t1, t2⟩ := q5 hd
      refine Ev.tt rfl (Ev.bind (n_CheckType_ev t1) (Ev.bind (p_cond_ev _ _) (Ev.bind (y := 0) ?_ (Ev.ff rfl hfin))))
      exact (p_first_ev _ (by simp)).eq (by simp [firstN, t2])
    | false => exact Ev.ff rfl hfin
end Mini

/- The library's functions, with fuel. -/
namespace Mini
open Go
variable [MX]
set_option maxRecDepth 100000
theorem s_Cut_eq (k : Nat) (s p : Str) : s_Cut (k + 1) s p = xCut s p :=
  (show s_Cut (k + 1) s p = (xCut s p).map (fun z => z) by kernel_rfl).trans (by cases xCut s p <;> rfl)
theorem s_HasPrefix_eq (k : Nat) (s p : Str) : s_HasPrefix (k + 1) s p = xHasPrefix s p :=
  (show s_HasPrefix (k + 1) s p = (xHasPrefix s p).map (fun z => z) by kernel_rfl).trans (by cases xHasPrefix s p <;> rfl)
theorem s_TrimPrefix_eq (k : Nat) (s p : Str) : s_TrimPrefix (k + 1) s p = xTrimPrefix s p :=
  (show s_TrimPrefix (k + 1) s p = (xTrimPrefix s p).map (fun z => z) by kernel_rfl).trans (by cases xTrimPrefix s p <;> rfl)
theorem s_CutPrefix_eq (k : Nat) (s p : Str) : s_CutPrefix (k + 1) s p = xCutPrefix s p :=
  (show s_CutPrefix (k + 1) s p = (xCutPrefix s p).map (fun z => z) by kernel_rfl).trans (by cases xCutPrefix s p <;> rfl)
theorem s_CutSuffix_eq (k : Nat) (s p : Str) : s_CutSuffix (k + 1) s p = xCutSuffix s p :=
  (show s_CutSuffix (k + 1) s p = (xCutSuffix s p).map (fun z => z) by kernel_rfl).trans (by cases xCutSuffix s p <;> rfl)
theorem s_Join_eq (k : Nat) (s : List Str) (p : Str) : s_Join (k + 1) s p = xJoin s p :=
  (show s_Join (k + 1) s p = (xJoin s p).map (fun z => z) by kernel_rfl).trans (by cases xJoin s p <;> rfl)
theorem s_Split_eq (k : Nat) (s p : Str) : s_Split (k + 1) s p = xSplit s p :=
  (show s_Split (k + 1) s p = (xSplit s p).map (fun z => z) by kernel_rfl).trans (by cases xSplit s p <;> rfl)
theorem s_ReplaceAll_eq (k : Nat) (s p q : Str) : s_ReplaceAll (k + 1) s p q = xReplaceAll s p q :=
  (show s_ReplaceAll (k + 1) s p q = (xReplaceAll s p q).map (fun z => z) by kernel_rfl).trans (by cases xReplaceAll s p q <;> rfl)
theorem s_Repeat_eq (k : Nat) (s : Str) (n : Int) : s_Repeat (k + 1) s n = xRepeat s n :=
  (show s_Repeat (k + 1) s n = (xRepeat s n).map (fun z => z) by kernel_rfl).trans (by cases xRepeat s n <;> rfl)
theorem s_TrimLeft_eq (k : Nat) (s p : Str) : s_TrimLeft (k + 1) s p = xTrimLeft s p :=
  (show s_TrimLeft (k + 1) s p = (xTrimLeft s p).map (fun z => z) by kernel_rfl).trans (by cases xTrimLeft s p <;> rfl)
theorem s_IndexByte_eq (k : Nat) (s : Str) (c : Int) : s_IndexByte (k + 1) s c = xIndexByte s c :=
  (show s_IndexByte (k + 1) s c = (xIndexByte s c).map (fun z => z) by kernel_rfl).trans (by cases xIndexByte s c <;> rfl)
theorem c_Itoa_eq (k : Nat) (n : Int) : c_Itoa (k + 1) n = xItoa n :=
  (show c_Itoa (k + 1) n = (xItoa n).map (fun z => z) by kernel_rfl).trans (by cases xItoa n <;> rfl)
theorem c_Atoi_eq (k : Nat) (s : Str) : c_Atoi (k + 1) s = xAtoi s :=
  (show c_Atoi (k + 1) s = (xAtoi s).map (fun z => z) by kernel_rfl).trans (by cases xAtoi s <;> rfl)
theorem x_Repeat_eq (k : Nat) (l : List Int) (n : Int) : x_Repeat (k + 1) l n = xFill l n :=
  (show x_Repeat (k + 1) l n = (xFill l n).map (fun z => z) by kernel_rfl).trans (by cases xFill l n <;> rfl)
theorem Ev.ext {α : Type} {f : Nat → Option α} {x : Option α} {z : α} (he : ∀ k, f (k + 1) = x) (h : x = some z) : Ev f z := Ev.step he (h ▸ Ev.ret)
end Mini

/- How many quadwords. -/
namespace Mini
open Go
variable [MX]

def lay1 : List MiOperand → Int
  | [] => 0
  | o :: l => (if o.2.1 = 3 then 16 else 0) + lay1 l
def lay2 : List MiOperand → Int
  | [] => 0
  | o :: l => (if o.2.1 = 0 then sizeD o.2.2.1 else 0) + lay2 l
def quads (a : List MiOperand) : Int := (lay1 a + lay2 a + 15) / 16

theorem lay1_bounds : ∀ l : List MiOperand, 0 ≤ lay1 l ∧ lay1 l ≤ 16 * l.length := by
  intro l
  induction l with
  | nil => simp [lay1]
  | cons o l ih =>
    unfold lay1
    rw [List.length_cons]
    split <;> omega
def Scal (l : List MiOperand) : Prop := ∀ o ∈ l, o.2.1 = 0 → TypeOK o.2.2.1
theorem lay2_bounds : ∀ l : List MiOperand, Scal l → 0 ≤ lay2 l ∧ lay2 l ≤ 256 * l.length := by
  intro l
  induction l with
  | nil => intro _; simp [lay2]
  | cons o l ih =>
    intro h
    have := ih (fun x hx => h x (List.mem_cons_of_mem _ hx))
    unfold lay2
    rw [List.length_cons]
    split
    · rename_i h0
      have := sizeD_bounds (h o (by simp) h0)
      omega
    · omega

/-- what a view stands on is there -/
def ViewsOK (a l : List MiOperand) : Prop := ∀ o ∈ l, o.2.1 = 1 → ∃ j : Nat, j < a.length ∧ fIdx (pName o.2.2.2.2.1) 0 a = (j : Int)

theorem quo16 {n : Int} (h0 : 0 ≤ n) (h1 : n ≤ 1000000) : quoI .i64 (w64 (w64 (n + 16) - 1)) 16 = some ((n + 15) / 16) := by
  rw [show w64 (n + 16) = n + 16 from w64_id (by omega) (by omega), show w64 (n + 16 - 1) = n + 16 - 1 from w64_id (by omega) (by omega), quo_nat (by omega) (by omega) (by omega)]
  congr 2
  omega

section
variable (a : List MiOperand) (b : List MiInstruction) (c : List MiMonitor)

theorem r_Layout_37_ev (ha : a.length < 1000) (nx : Int) (h0 : 0 ≤ nx) (h1 : nx ≤ 1000000) : ∀ (suf pre : List MiOperand) (x4 : List Int), pre ++ suf = a → ViewsOK a suf → x4.length = a.length → ∃ l, Ev (fun k => r_Layout_37 k x4 nx (pre.length : Int) a b c) (l, (nx + 15) / 16) := by
  intro suf
  induction suf with
  | nil =>
    intro pre x4 he _ _
    have hlt : decide ((pre.length : Int) < (a.length : Int)) = false := by rw [← he]; exact lt_end pre
    exact ⟨x4, Ev.step (r_Layout_37_eq · _ _ _ _ _ _) (Ev.ff hlt (Ev.let (quo16 h0 h1) Ev.ret))⟩
  | cons o suf ih =>
    intro pre x4 he hv hx
    have hp : pre.length + 1 ≤ 9223372036854775807 := by rw [← he] at ha; simp at ha; omega
    have hlt : decide ((pre.length : Int) < (a.length : Int)) = true := by rw [← he]; exact lt_mid pre o suf
    have hrd : rd a (pre.length : Int) = some o := by rw [← he]; exact rd_mid pre o suf
    have hpl : pre.length < a.length := by rw [← he]; simp
    have hv' : ViewsOK a suf := fun q hq => hv q (List.mem_cons_of_mem _ hq)
    by_cases h : o.2.1 = 1
    · obtain ⟨j, hj, hjx⟩ := hv o (by simp) h
      have hA := r_At_ev (a, b, c, ()) o.2.2.2.2.1 (show a.length < 1000000 by omega)
      have hjr : rd x4 (j : Int) = some x4[j] := by rw [rd_nat]; exact List.getElem?_eq_getElem (by omega)
      have hir : rd x4 (pre.length : Int) = some x4[pre.length] := by rw [rd_nat]; exact List.getElem?_eq_getElem (by omega)
      obtain ⟨l, hl⟩ := ih (pre ++ [o]) (List.set x4 (pre.length : Int).toNat (w64 (x4[j] + o.2.2.2.2.2.1))) (by rw [← he]; simp) hv' (by simp [hx])
      refine ⟨l, Ev.step (r_Layout_37_eq · _ _ _ _ _ _) (Ev.tt hlt (Ev.let hrd (Ev.tt (by simp [h]) (Ev.bind (hA.eq hjx) (Ev.let hjr (Ev.let hir ?_))))))⟩
      rw [next pre o hp]
      exact hl
    · obtain ⟨l, hl⟩ := ih (pre ++ [o]) x4 (by rw [← he]; simp) hv' hx
      refine ⟨l, Ev.step (r_Layout_37_eq · _ _ _ _ _ _) (Ev.tt hlt (Ev.let hrd (Ev.ff (by simp [h]) ?_)))⟩
      rw [next pre o hp]
      exact hl
theorem r_Layout_23_ev (ha : a.length < 1000) (hV : ViewsOK a a) : ∀ (suf pre : List MiOperand) (x4 : List Int) (nx : Int), pre ++ suf = a → Scal suf → x4.length = a.length → 0 ≤ nx → nx + 256 * suf.length ≤ 1000000 → ∃ l, Ev (fun k => r_Layout_23 k x4 nx (pre.length : Int) a b c) (l, (nx + lay2 suf + 15) / 16) := by
  intro suf
  induction suf with
  | nil =>
    intro pre x4 nx he _ hx h0 h1
    have hlt : decide ((pre.length : Int) < (a.length : Int)) = false := by rw [← he]; exact lt_end pre
    obtain ⟨l, hl⟩ := r_Layout_37_ev a b c ha nx h0 (by simpa using h1) a [] x4 rfl hV hx
    exact ⟨l, Ev.eq (x := (l, (nx + 15) / 16)) (Ev.step (r_Layout_23_eq · _ _ _ _ _ _) (Ev.ff hlt hl)) (by simp [lay2])⟩
  | cons o suf ih =>
    intro pre x4 nx he hv hx h0 h1
    have hp : pre.length + 1 ≤ 9223372036854775807 := by rw [← he] at ha; simp at ha; omega
    have hlt : decide ((pre.length : Int) < (a.length : Int)) = true := by rw [← he]; exact lt_mid pre o suf
    have hrd : rd a (pre.length : Int) = some o := by rw [← he]; exact rd_mid pre o suf
    have hpl : pre.length < a.length := by rw [← he]; simp
    have hv' : Scal suf := fun q hq => hv q (List.mem_cons_of_mem _ hq)
    rw [List.length_cons] at h1
    by_cases h : o.2.1 = 0
    · have hT := hv o (by simp) h
      have hb := sizeD_bounds hT
      have hir : rd x4 (pre.length : Int) = some x4[pre.length] := by rw [rd_nat]; exact List.getElem?_eq_getElem (by omega)
      obtain ⟨l, hl⟩ := ih (pre ++ [o]) (List.set x4 (pre.length : Int).toNat nx) (nx + sizeD o.2.2.1) (by rw [← he]; simp) hv' (by simp [hx]) (by omega) (by omega)
      refine ⟨l, Ev.eq (x := (l, (nx + sizeD o.2.2.1 + lay2 suf + 15) / 16)) (Ev.step (r_Layout_23_eq · _ _ _ _ _ _) (Ev.tt hlt (Ev.let hrd (Ev.tt (by simp [h]) (Ev.let hir (Ev.bind (b_Size_ev hT) ?_)))))) (by simp [lay2, h, Int.add_assoc])⟩
      rw [next pre o hp, show w64 (nx + sizeD o.2.2.1) = nx + sizeD o.2.2.1 from w64_id (by omega) (by omega)]
      exact hl
    · obtain ⟨l, hl⟩ := ih (pre ++ [o]) x4 nx (by rw [← he]; simp) hv' hx h0 (by omega)
      refine ⟨l, Ev.eq (x := (l, (nx + lay2 suf + 15) / 16)) (Ev.step (r_Layout_23_eq · _ _ _ _ _ _) (Ev.tt hlt (Ev.let hrd (Ev.ff (by simp [h]) ?_)))) (by simp [lay2, h])⟩
      rw [next pre o hp]
      exact hl
theorem r_Layout_9_ev (ha : a.length < 1000) (hV : ViewsOK a a) (hS : Scal a) : ∀ (suf pre : List MiOperand) (x4 : List Int) (nx : Int), pre ++ suf = a → x4.length = a.length → 0 ≤ nx → nx + 16 * suf.length ≤ 500000 → ∃ l, Ev (fun k => r_Layout_9 k x4 nx (pre.length : Int) a b c) (l, (nx + lay1 suf + lay2 a + 15) / 16) := by
  intro suf
  induction suf with
  | nil =>
    intro pre x4 nx he hx h0 h1
    have hlt : decide ((pre.length : Int) < (a.length : Int)) = false := by rw [← he]; exact lt_end pre
    obtain ⟨l, hl⟩ := r_Layout_23_ev a b c ha hV a [] x4 nx rfl hS hx h0 (by simp at h1; omega)
    exact ⟨l, Ev.eq (x := (l, (nx + lay2 a + 15) / 16)) (Ev.step (r_Layout_9_eq · _ _ _ _ _ _) (Ev.ff hlt hl)) (by simp [lay1])⟩
  | cons o suf ih =>
    intro pre x4 nx he hx h0 h1
    have hp : pre.length + 1 ≤ 9223372036854775807 := by rw [← he] at ha; simp at ha; omega
    have hlt : decide ((pre.length : Int) < (a.length : Int)) = true := by rw [← he]; exact lt_mid pre o suf
    have hrd : rd a (pre.length : Int) = some o := by rw [← he]; exact rd_mid pre o suf
    have hpl : pre.length < a.length := by rw [← he]; simp
    have hir : rd x4 (pre.length : Int) = some x4[pre.length] := by rw [rd_nat]; exact List.getElem?_eq_getElem (by omega)
    rw [List.length_cons] at h1
    by_cases h : o.2.1 = 3
    · have hir2 : rd (List.set x4 (pre.length : Int).toNat (-1)) (pre.length : Int) = some (-1) := by
        rw [rd_nat, Int.toNat_natCast, List.getElem?_set_self (by omega)]
      obtain ⟨l, hl⟩ := ih (pre ++ [o]) (List.set (List.set x4 (pre.length : Int).toNat (-1)) (pre.length : Int).toNat nx) (nx + 16) (by rw [← he]; simp) (by simp [hx]) (by omega) (by omega)
      refine ⟨l, Ev.eq (x := (l, (nx + 16 + lay1 suf + lay2 a + 15) / 16)) (Ev.step (r_Layout_9_eq · _ _ _ _ _ _) (Ev.tt hlt (Ev.let hir (Ev.let hrd (Ev.tt (by simp [h]) (Ev.let hir2 ?_)))))) (by simp [lay1, h, Int.add_assoc])⟩
      rw [next pre o hp, show w64 (nx + 16) = nx + 16 from w64_id (by omega) (by omega)]
      exact hl
    · obtain ⟨l, hl⟩ := ih (pre ++ [o]) (List.set x4 (pre.length : Int).toNat (-1)) nx (by rw [← he]; simp) (by simp [hx]) h0 (by omega)
      refine ⟨l, Ev.eq (x := (l, (nx + lay1 suf + lay2 a + 15) / 16)) (Ev.step (r_Layout_9_eq · _ _ _ _ _ _) (Ev.tt hlt (Ev.let hir (Ev.let hrd (Ev.ff (by simp [h]) ?_))))) (by simp [lay1, h])⟩
      rw [next pre o hp]
      exact hl
theorem r_Layout_ev (ha : a.length < 1000) (hV : ViewsOK a a) (hS : Scal a) : ∃ l, Ev (fun k => r_Layout k (a, b, c, ())) (l, quads a) := by
  obtain ⟨l, hl⟩ := r_Layout_9_ev a b c ha hV hS a [] (List.replicate a.length 0) 0 rfl (by simp) (by omega) (by omega)
  refine ⟨l, Ev.eq (x := (l, (0 + lay1 a + lay2 a + 15) / 16)) (Ev.step (r_Layout_eq · _) (Ev.let (y := List.replicate a.length 0) ?_ hl)) (by simp [quads])⟩
  show mkL (α := Int) (a.length : Int) (a.length : Int) 0 = _
  unfold mkL LIM
  rw [if_pos ⟨by omega, by omega, by omega⟩]
  simp
end
end Mini

/- The program's layout; instructions and monitors in both checks. -/
namespace Mini
open Go
variable [MX]

section
variable (a : List MiOperand) (b : List MiInstruction) (c : List MiMonitor)

theorem p_layout_33_ev (ha : a.length < 1000) (nx : Int) (h0 : 0 ≤ nx) (h1 : nx ≤ 1000000) : ∀ (suf pre : List MiOperand) (x4 : List Int), pre ++ suf = a → ViewsOK a suf → x4.length = a.length → ∃ l, Ev (fun k => p_layout_33 k a x4 nx a (a.length : Int) (pre.length : Int)) (l, (nx + 15) / 16) := by
  intro suf
  induction suf with
  | nil =>
    intro pre x4 he _ _
    have hlt : decide ((pre.length : Int) < (a.length : Int)) = false := by rw [← he]; exact lt_end pre
    exact ⟨x4, Ev.step (p_layout_33_eq · _ _ _ _ _ _) (Ev.ff hlt (Ev.let (quo16 h0 h1) Ev.ret))⟩
  | cons o suf ih =>
    intro pre x4 he hv hx
    have hp : pre.length + 1 ≤ 9223372036854775807 := by rw [← he] at ha; simp at ha; omega
    have hlt : decide ((pre.length : Int) < (a.length : Int)) = true := by rw [← he]; exact lt_mid pre o suf
    have hrd : rd a (pre.length : Int) = some o := by rw [← he]; exact rd_mid pre o suf
    have hpl : pre.length < a.length := by rw [← he]; simp
    have hv' : ViewsOK a suf := fun q hq => hv q (List.mem_cons_of_mem _ hq)
    by_cases h : o.2.1 = 1
    · obtain ⟨j, hj, hjx⟩ := hv o (by simp) h
      have hA := p_named_ev a o.2.2.2.2.1 (show a.length < 1000000 by omega)
      have hjr : rd x4 (j : Int) = some x4[j] := by rw [rd_nat]; exact List.getElem?_eq_getElem (by omega)
      have hir : rd x4 (pre.length : Int) = some x4[pre.length] := by rw [rd_nat]; exact List.getElem?_eq_getElem (by omega)
      obtain ⟨l, hl⟩ := ih (pre ++ [o]) (List.set x4 (pre.length : Int).toNat (w64 (x4[j] + o.2.2.2.2.2.1))) (by rw [← he]; simp) hv' (by simp [hx])
      refine ⟨l, Ev.step (p_layout_33_eq · _ _ _ _ _ _) (Ev.tt hlt (Ev.let hrd (Ev.tt (by simp [h]) (Ev.bind (hA.eq hjx) (Ev.let hjr (Ev.let hir ?_))))))⟩
      rw [next pre o hp]
      exact hl
    · obtain ⟨l, hl⟩ := ih (pre ++ [o]) x4 (by rw [← he]; simp) hv' hx
      refine ⟨l, Ev.step (p_layout_33_eq · _ _ _ _ _ _) (Ev.tt hlt (Ev.let hrd (Ev.ff (by simp [h]) ?_)))⟩
      rw [next pre o hp]
      exact hl
theorem p_layout_21_ev (ha : a.length < 1000) (hV : ViewsOK a a) : ∀ (suf pre : List MiOperand) (x4 : List Int) (nx : Int), pre ++ suf = a → Scal suf → x4.length = a.length → 0 ≤ nx → nx + 256 * suf.length ≤ 1000000 → ∃ l, Ev (fun k => p_layout_21 k a x4 nx a (a.length : Int) (pre.length : Int)) (l, (nx + lay2 suf + 15) / 16) := by
  intro suf
  induction suf with
  | nil =>
    intro pre x4 nx he _ hx h0 h1
    have hlt : decide ((pre.length : Int) < (a.length : Int)) = false := by rw [← he]; exact lt_end pre
    obtain ⟨l, hl⟩ := p_layout_33_ev a ha nx h0 (by simpa using h1) a [] x4 rfl hV hx
    exact ⟨l, Ev.eq (x := (l, (nx + 15) / 16)) (Ev.step (p_layout_21_eq · _ _ _ _ _ _) (Ev.ff hlt hl)) (by simp [lay2])⟩
  | cons o suf ih =>
    intro pre x4 nx he hv hx h0 h1
    have hp : pre.length + 1 ≤ 9223372036854775807 := by rw [← he] at ha; simp at ha; omega
    have hlt : decide ((pre.length : Int) < (a.length : Int)) = true := by rw [← he]; exact lt_mid pre o suf
    have hrd : rd a (pre.length : Int) = some o := by rw [← he]; exact rd_mid pre o suf
    have hpl : pre.length < a.length := by rw [← he]; simp
    have hv' : Scal suf := fun q hq => hv q (List.mem_cons_of_mem _ hq)
    rw [List.length_cons] at h1
    by_cases h : o.2.1 = 0
    · have hT := hv o (by simp) h
      have hb := sizeD_bounds hT
      have hir : rd x4 (pre.length : Int) = some x4[pre.length] := by rw [rd_nat]; exact List.getElem?_eq_getElem (by omega)
      obtain ⟨l, hl⟩ := ih (pre ++ [o]) (List.set x4 (pre.length : Int).toNat nx) (nx + sizeD o.2.2.1) (by rw [← he]; simp) hv' (by simp [hx]) (by omega) (by omega)
      refine ⟨l, Ev.eq (x := (l, (nx + sizeD o.2.2.1 + lay2 suf + 15) / 16)) (Ev.step (p_layout_21_eq · _ _ _ _ _ _) (Ev.tt hlt (Ev.let hrd (Ev.tt (by simp [h]) (Ev.bind (p_size_ev hT) (Ev.let hir ?_)))))) (by simp [lay2, h, Int.add_assoc])⟩
      rw [next pre o hp, show w64 (nx + sizeD o.2.2.1) = nx + sizeD o.2.2.1 from w64_id (by omega) (by omega)]
      exact hl
    · obtain ⟨l, hl⟩ := ih (pre ++ [o]) x4 nx (by rw [← he]; simp) hv' hx h0 (by omega)
      refine ⟨l, Ev.eq (x := (l, (nx + lay2 suf + 15) / 16)) (Ev.step (p_layout_21_eq · _ _ _ _ _ _) (Ev.tt hlt (Ev.let hrd (Ev.ff (by simp [h]) ?_)))) (by simp [lay2, h])⟩
      rw [next pre o hp]
      exact hl
theorem p_layout_9_ev (ha : a.length < 1000) (hV : ViewsOK a a) (hS : Scal a) : ∀ (suf pre : List MiOperand) (x4 : List Int) (nx : Int), pre ++ suf = a → x4.length = a.length → 0 ≤ nx → nx + 16 * suf.length ≤ 500000 → ∃ l, Ev (fun k => p_layout_9 k a x4 nx a (a.length : Int) (pre.length : Int)) (l, (nx + lay1 suf + lay2 a + 15) / 16) := by
  intro suf
  induction suf with
  | nil =>
    intro pre x4 nx he hx h0 h1
    have hlt : decide ((pre.length : Int) < (a.length : Int)) = false := by rw [← he]; exact lt_end pre
    obtain ⟨l, hl⟩ := p_layout_21_ev a ha hV a [] x4 nx rfl hS hx h0 (by simp at h1; omega)
    exact ⟨l, Ev.eq (x := (l, (nx + lay2 a + 15) / 16)) (Ev.step (p_layout_9_eq · _ _ _ _ _ _) (Ev.ff hlt hl)) (by simp [lay1])⟩
  | cons o suf ih =>
    intro pre x4 nx he hx h0 h1
    have hp : pre.length + 1 ≤ 9223372036854775807 := by rw [← he] at ha; simp at ha; omega
    have hlt : decide ((pre.length : Int) < (a.length : Int)) = true := by rw [← he]; exact lt_mid pre o suf
    have hrd : rd a (pre.length : Int) = some o := by rw [← he]; exact rd_mid pre o suf
    have hpl : pre.length < a.length := by rw [← he]; simp
    have hir : rd x4 (pre.length : Int) = some x4[pre.length] := by rw [rd_nat]; exact List.getElem?_eq_getElem (by omega)
    rw [List.length_cons] at h1
    by_cases h : o.2.1 = 3
    · obtain ⟨l, hl⟩ := ih (pre ++ [o]) (List.set x4 (pre.length : Int).toNat nx) (nx + 16) (by rw [← he]; simp) (by simp [hx]) (by omega) (by omega)
      refine ⟨l, Ev.eq (x := (l, (nx + 16 + lay1 suf + lay2 a + 15) / 16)) (Ev.step (p_layout_9_eq · _ _ _ _ _ _) (Ev.tt hlt (Ev.let hrd (Ev.tt (by simp [h]) (Ev.let hir ?_))))) (by simp [lay1, h, Int.add_assoc])⟩
      rw [next pre o hp, show w64 (nx + 16) = nx + 16 from w64_id (by omega) (by omega)]
      exact hl
    · obtain ⟨l, hl⟩ := ih (pre ++ [o]) x4 nx (by rw [← he]; simp) hx h0 (by omega)
      refine ⟨l, Ev.eq (x := (l, (nx + lay1 suf + lay2 a + 15) / 16)) (Ev.step (p_layout_9_eq · _ _ _ _ _ _) (Ev.tt hlt (Ev.let hrd (Ev.ff (by simp [h]) ?_)))) (by simp [lay1, h])⟩
      rw [next pre o hp]
      exact hl
theorem p_layout_ev (ha : a.length < 1000) (hV : ViewsOK a a) (hS : Scal a) : ∃ l, Ev (fun k => p_layout k a) (l, quads a) := by
  obtain ⟨l, hl⟩ := p_layout_9_ev a ha hV hS a [] (List.replicate a.length (-1)) 0 rfl (by simp) (by omega) (by omega)
  refine ⟨l, Ev.eq (x := (l, (0 + lay1 a + lay2 a + 15) / 16)) (Ev.step (p_layout_eq · _) (Ev.bind (y := List.replicate a.length (-1)) (Ev.ext (x_Repeat_eq · _ _) ?_) hl)) (by simp [quads])⟩
  unfold xFill
  rw [if_pos ⟨by omega, by omega, rfl⟩]
  simp
end

/-! ### instructions -/
def rolesL : List (List Int) := [[0, 4], [1, 3], [1, 3, 3], [1, 3, 3], [1, 3, 3], [1, 3, 3], [1, 3, 3], [2, 4, 6], [2, 4, 6], [6], [5, 0], [5, 5], [5, 3], [6], [], [3], [1], [2], []]
def cls (r : Int) : Int := if r = 1 then 2 else if r = 2 then 1 else r
theorem ops_roles : gOperations = rolesL.map (·.map cls) := by decide
theorem r_roles_ev (op : Nat) (h : op < 19) : Ev (fun k => r_roles k (op : Int)) (rolesL.getD op []) := by
  refine Ev.step (r_roles_eq · _) ?_
  have h' : op = 0 ∨ op = 1 ∨ op = 2 ∨ op = 3 ∨ op = 4 ∨ op = 5 ∨ op = 6 ∨ op = 7 ∨ op = 8 ∨ op = 9 ∨ op = 10 ∨ op = 11 ∨ op = 12 ∨ op = 13 ∨ op = 14 ∨ op = 15 ∨ op = 16 ∨ op = 17 ∨ op = 18 := by omega
  rcases h' with rfl | rfl | rfl | rfl | rfl | rfl | rfl | rfl | rfl | rfl | rfl | rfl | rfl | rfl | rfl | rfl | rfl | rfl | rfl <;> exact ⟨0, fun _ _ => rfl⟩

def numR (o : MiOperand) : Bool := inB o.2.2.1.1 1 3
def fitR (prev : Option MiOperand) (o : MiOperand) (r : Int) : Bool :=
  if r = 0 then scalarB o.2.1 else if r = 1 then scalarB o.2.1 && numR o else if r = 2 then dataK o.2.1 else if r = 3 then dataK o.2.1 && numR o
  else if r = 4 then dataK o.2.1 && (match prev with | some q => eqB (numR o) (numR q) | none => false) else if r = 5 then decide (o.2.1 = 3) else if r = 6 then decide (o.2.1 = 5) else false
def ArgsOK (a : List MiOperand) : Option MiOperand → List Int → List Int → Prop
  | _, [], [] => True
  | prev, r :: rs, x :: xs => ∃ (j : Nat) (o : MiOperand), x = (j : Int) ∧ a[j]? = some o ∧ fitR prev o r = true ∧ ArgsOK a (some o) rs xs
  | _, _, _ => False
def InsOK (a : List MiOperand) (x : MiInstruction) : Prop := ∃ op : Nat, op < 19 ∧ x.1 = (op : Int) ∧ x.2.1.length = (rolesL.getD op []).length ∧ ArgsOK a none (rolesL.getD op []) x.2.1

/-- the operand of the last argument -/
def LastArg (a : List MiOperand) (s : List Int) (prev : Option MiOperand) : Prop := match s.getLast? with
  | none => prev = none
  | some x => ∃ (j : Nat) (o : MiOperand), x = (j : Int) ∧ a[j]? = some o ∧ prev = some o
def noAlike : List Int → Bool
  | r :: _ => !decide (r = 4)
  | [] => true

theorem r_instructionErr_15_ev (a : List MiOperand) (b : List MiInstruction) (c : List MiMonitor) (op : Int) (ha : a.length < 1000) : ∀ (r2 s2 r1 s1 : List Int) (prev : Option MiOperand), (∀ r ∈ r2, 0 ≤ r ∧ r ≤ 6) → r2.length = s2.length → r1.length = s1.length → (r1 ++ r2).length < 1000 → LastArg a s1 prev → (prev = none → noAlike r2 = true) →
    ∃ e, Ev (fun k => r_instructionErr_15 k (r1 ++ r2) (r1.length : Int) a b c op (s1 ++ s2)) e ∧ (e = 0 → ArgsOK a prev r2 s2) := by
  intro r2
  induction r2 with
  | nil =>
    intro s2 r1 s1 prev _ h2 h1 hl _ _
    have : s2 = [] := List.eq_nil_of_length_eq_zero h2.symm
    subst this
    exact ⟨0, Ev.step (r_instructionErr_15_eq · _ _ _ _ _ _ _) (Ev.ff (lt_end r1) Ev.ret), fun _ => trivial⟩
  | cons r r2 ih =>
    intro s2 r1 s1 prev hr h2 h1 hl hP hN
    cases s2 with
    | nil => cases h2
    | cons x s2 =>
      have hw : w64 ((a.length : Int) - 1) = (a.length : Int) - 1 := w64_id (by omega) (by omega)
      have hx : rd (s1 ++ x :: s2) (r1.length : Int) = some x := by rw [h1]; exact rd_mid s1 x s2
      refine Ev.lift (r_instructionErr_15_eq · _ _ _ _ _ _ _) (Ev.liftC (fun _ => ?_) fun h => by rw [lt_mid r1 r r2] at h; cases h)
      refine Ev.liftL hx (Ev.liftB (b_Within_ev _ _ _) (Ev.liftC (fun _ => ⟨3, Ev.ret, fun h => by cases h⟩) fun q1 => ?_))
      rw [hw] at q1
      have hin : 0 ≤ x ∧ x ≤ (a.length : Int) - 1 := by
        rw [← inB_iff]
        cases h : inB x 0 ((a.length : Int) - 1) with
        | true => rfl
        | false => rw [h] at q1; cases q1
      obtain ⟨j, rfl⟩ := Int.eq_ofNat_of_zero_le hin.1
      have hj : j < a.length := by omega
      obtain ⟨o, ho⟩ : ∃ o, a[j]? = some o := ⟨a[j], List.getElem?_eq_getElem hj⟩
      refine Ev.liftL hx (Ev.liftL ((rd_nat a j).trans ho) (Ev.liftL (rd_mid r1 r r2) ?_))
      have hp : r1.length + 1 ≤ 9223372036854775807 := by simp at hl; omega
      obtain ⟨e, i1, i2⟩ := ih s2 (r1 ++ [r]) (s1 ++ [(j : Int)]) (some o) (fun q hq => hr q (List.mem_cons_of_mem _ hq)) (by simpa using h2) (by simp [h1]) (by simpa using hl)
        (by unfold LastArg; simp only [List.getLast?_append, List.getLast?_singleton, Option.some_or]; exact ⟨j, o, rfl, ho, rfl⟩) (fun h => by cases h)
      rw [← next r1 r hp, ← mid_next r1 r r2, ← mid_next s1 (j : Int) s2] at i1
      have fin : ∀ t : Bool, fitR prev o r = t → ∃ e, Ev (fun k => bsel (nt t) (some 17) (r_instructionErr_15 k (r1 ++ r :: r2) (w64 ((r1.length : Int) + 1)) a b c op (s1 ++ (j : Int) :: s2))) e ∧ (e = 0 → ArgsOK a prev (r :: r2) ((j : Int) :: s2)) := by
        intro t ht
        cases t with
        | false => exact ⟨17, Ev.tt rfl Ev.ret, fun h => by cases h⟩
        | true => exact ⟨e, Ev.ff rfl i1, fun h => ⟨j, o, rfl, ho, ht, i2 h⟩⟩
      have hr' := hr r (by simp)
      have hk : r = 0 ∨ r = 1 ∨ r = 2 ∨ r = 3 ∨ r = 4 ∨ r = 5 ∨ r = 6 := by omega
      rcases hk with rfl | rfl | rfl | rfl | rfl | rfl | rfl
      · obtain ⟨e, z1, z2⟩ := fin _ rfl
        exact ⟨e, Ev.tt rfl (Ev.bind (r_IsScalar_ev _) z1), z2⟩
      · obtain ⟨e, z1, z2⟩ := fin _ rfl
        refine ⟨e, Ev.ff rfl (Ev.tt rfl (Ev.bind (r_IsScalar_ev _) ?_)), z2⟩
        cases hs : scalarB o.2.1 with
        | true => 
          refine Ev.bind (Ev.tt rfl (r_isNumeric_ev o)) ?_
          have e2 : fitR prev o 1 = bsel true (inB o.2.2.1.1 1 3) false := by simp [fitR, hs, numR]
          rw [e2] at z1; exact z1
        | false =>
          refine Ev.bind (Ev.ff rfl Ev.ret) ?_
          have e2 : fitR prev o 1 = bsel false false false := by simp [fitR, hs]
          rw [e2] at z1; exact z1
      · obtain ⟨e, z1, z2⟩ := fin _ rfl
        exact ⟨e, Ev.ff rfl (Ev.ff rfl (Ev.tt rfl (Ev.bind (r_IsData_ev _) z1))), z2⟩
      · obtain ⟨e, z1, z2⟩ := fin _ rfl
        refine ⟨e, Ev.ff rfl (Ev.ff rfl (Ev.ff rfl (Ev.tt rfl (Ev.bind (r_IsData_ev _) ?_)))), z2⟩
        cases hs : dataK o.2.1 with
        | true =>
          refine Ev.bind (Ev.tt rfl (r_isNumeric_ev o)) ?_
          have e2 : fitR prev o 3 = bsel true (inB o.2.2.1.1 1 3) false := by simp [fitR, hs, numR]
          rw [e2] at z1; exact z1
        | false =>
          refine Ev.bind (Ev.ff rfl Ev.ret) ?_
          have e2 : fitR prev o 3 = bsel false false false := by simp [fitR, hs]
          rw [e2] at z1; exact z1
      · obtain ⟨e, z1, z2⟩ := fin _ rfl
        refine ⟨e, Ev.ff rfl (Ev.ff rfl (Ev.ff rfl (Ev.ff rfl (Ev.tt rfl (Ev.bind (r_IsData_ev _) ?_))))), z2⟩
        cases hs : dataK o.2.1 with
        | true =>
          have hne : s1 ≠ [] := fun h => by
            subst h
            have hpn : prev = none := hP
            have := hN hpn
            simp [noAlike] at this
          obtain ⟨t1, y, rfl⟩ : ∃ t1 y, s1 = t1 ++ [y] := ⟨s1.dropLast, s1.getLast hne, (List.dropLast_concat_getLast hne).symm⟩
          unfold LastArg at hP
          simp only [List.getLast?_append, List.getLast?_singleton, Option.some_or] at hP
          obtain ⟨j', o', rfl, ho', hpo⟩ := hP
          have hw2 : w64 ((r1.length : Int) - 1) = (t1.length : Int) := by
            have : r1.length = t1.length + 1 := by rw [h1]; simp
            rw [w64_id (by omega) (by simp at hl; omega)]; omega
          have hy : rd (t1 ++ [(j' : Int)] ++ (j : Int) :: s2) (w64 ((r1.length : Int) - 1)) = some (j' : Int) := by
            rw [hw2, List.append_assoc]; exact rd_mid t1 _ _
          refine Ev.bind (Ev.tt rfl (r_isNumeric_ev o)) (Ev.bind (y := (j' : Int)) (Ev.tt rfl ⟨0, fun _ _ => hy⟩) (Ev.bind (y := o') (Ev.tt rfl ⟨0, fun _ _ => (rd_nat a j').trans ho'⟩) (Ev.bind (Ev.tt rfl (r_isNumeric_ev o')) ?_)))
          have e2 : fitR prev o 4 = bsel true (eqB (inB o.2.2.1.1 1 3) (inB o'.2.2.1.1 1 3)) false := by simp [fitR, hs, hpo, numR]
          rw [e2] at z1; exact z1
        | false =>
          refine Ev.bind (Ev.ff rfl Ev.ret) (Ev.bind (Ev.ff rfl Ev.ret) (Ev.bind (Ev.ff rfl Ev.ret) (Ev.bind (Ev.ff rfl Ev.ret) ?_)))
          have e2 : fitR prev o 4 = bsel false (eqB false false) false := by simp [fitR, hs]
          rw [e2] at z1; exact z1
      · obtain ⟨e, z1, z2⟩ := fin _ rfl
        exact ⟨e, Ev.ff rfl (Ev.ff rfl (Ev.ff rfl (Ev.ff rfl (Ev.ff rfl (Ev.tt rfl z1))))), z2⟩
      · obtain ⟨e, z1, z2⟩ := fin _ rfl
        exact ⟨e, Ev.ff rfl (Ev.ff rfl (Ev.ff rfl (Ev.ff rfl (Ev.ff rfl (Ev.ff rfl (Ev.tt rfl z1)))))), z2⟩
end Mini

/- Both checks. -/
namespace Mini
open Go
variable [MX]

theorem roles_good (op : Nat) : (∀ r ∈ rolesL.getD op [], 0 ≤ r ∧ r ≤ 6) ∧ noAlike (rolesL.getD op []) = true ∧ (rolesL.getD op []).length < 10 := by
  by_cases h : op < 19
  · have h' : op = 0 ∨ op = 1 ∨ op = 2 ∨ op = 3 ∨ op = 4 ∨ op = 5 ∨ op = 6 ∨ op = 7 ∨ op = 8 ∨ op = 9 ∨ op = 10 ∨ op = 11 ∨ op = 12 ∨ op = 13 ∨ op = 14 ∨ op = 15 ∨ op = 16 ∨ op = 17 ∨ op = 18 := by omega
    rcases h' with rfl | rfl | rfl | rfl | rfl | rfl | rfl | rfl | rfl | rfl | rfl | rfl | rfl | rfl | rfl | rfl | rfl | rfl | rfl <;> decide
  · have : rolesL.getD op [] = [] := by
      rw [List.getD_eq_getElem?_getD, List.getElem?_eq_none (by show 19 ≤ op; omega)]; rfl
    rw [this]; decide

theorem r_instructionErr_ev (a : List MiOperand) (b : List MiInstruction) (c : List MiMonitor) (x : MiInstruction) (ha : a.length < 1000) : ∃ e, Ev (fun k => r_instructionErr k (a, b, c, ()) x) e ∧ (e = 0 → InsOK a x) := by
  obtain ⟨op, args, _⟩ := x
  refine Ev.lift (r_instructionErr_eq · _ _) (Ev.liftB (b_Within_ev _ _ _) (Ev.liftC (fun _ => ⟨4, Ev.ret, fun h => by cases h⟩) fun q1 => ?_))
  have hin : 0 ≤ op ∧ op ≤ 18 := by
    rw [← inB_iff]
    cases h : inB op 0 18 with
    | true => rfl
    | false => rw [h] at q1; cases q1
  obtain ⟨n, rfl⟩ := Int.eq_ofNat_of_zero_le hin.1
  have hn : n < 19 := by omega
  refine Ev.liftB (r_roles_ev n hn) (Ev.liftC (fun _ => ⟨37, Ev.ret, fun h => by cases h⟩) fun q2 => ?_)
  have hl : args.length = (rolesL.getD n []).length := by
    simp only [Bool.not_eq_false', decide_eq_true_eq] at q2
    omega
  obtain ⟨g1, g2, g3⟩ := roles_good n
  obtain ⟨e, h1, h2⟩ := r_instructionErr_15_ev a b c n ha (rolesL.getD n []) args [] [] none g1 hl.symm rfl (by rw [List.nil_append]; omega) rfl (fun _ => g2)
  exact ⟨e, h1, fun he => ⟨n, hn, rfl, hl, h2 he⟩⟩

/-! ### instructions, by the program -/
def NumEq (o : MiOperand) : Prop := numR o = !decide (o.2.2.1.1 = 0)
theorem OprOK.numEq {a : List MiOperand} {n i : Nat} {o : MiOperand} (h : OprOK a n i o) : NumEq o := by
  obtain ⟨_, _, h3, h4, h5, _⟩ := h
  unfold NumEq numR
  cases hd : dataK o.2.1 with
  | true =>
    obtain ⟨t1, t2⟩ := h5 hd
    have hb := t1.bounds
    have : o.2.2.1.1 = 0 ∨ o.2.2.1.1 = 1 ∨ o.2.2.1.1 = 2 ∨ o.2.2.1.1 = 3 := by omega
    rcases this with h | h | h | h <;> rw [h] <;> rfl
  | false =>
    have hk : o.2.1 = 3 ∨ o.2.1 = 5 := by
      rcases kinds h3.1 h3.2 with h | h | h | h | h | h <;> rw [h] at hd <;> first | (cases hd; done) | (left; exact h) | (right; exact h)
    have h0 : o.2.2.1.1 = 0 := by
      rcases hk with h | h
      · exact (h4.2.2.1 h).1.1
      · exact (h4.2.2.2 h).1.1
    rw [h0]; rfl

theorem p_fits_ev {prev : Option MiOperand} {o bo : MiOperand} {r : Int} (hr : 0 ≤ r ∧ r ≤ 6) (h : fitR prev o r = true) (ho : NumEq o) (hb : ∀ q, prev = some q → bo = q ∧ NumEq q) : Ev (fun k => p_fits k o bo (cls r)) true := by
  have hk : r = 0 ∨ r = 1 ∨ r = 2 ∨ r = 3 ∨ r = 4 ∨ r = 5 ∨ r = 6 := by omega
  have sc : scalarB o.2.1 = true → dataK o.2.1 = true ∧ decide (o.2.1 = 4) = false := fun hs => by
    refine ⟨by simp [dataK, hs], ?_⟩
    simp only [scalarB, Bool.or_eq_true, decide_eq_true_eq] at hs
    simp only [decide_eq_false_iff_not]; omega
  have hnum := p_isNumeric_ev o
  rw [← ho] at hnum
  rcases hk with rfl | rfl | rfl | rfl | rfl | rfl | rfl
  · have h' : scalarB o.2.1 = true := h
    obtain ⟨s1, s2⟩ := sc h'
    refine Ev.step (p_fits_eq · _ _ _) (Ev.ff rfl (Ev.ff rfl (Ev.bind ((p_isData_ev o).eq s1) (Ev.bind (y := false) (Ev.ff ?_ Ev.ret) (Ev.bind (y := false) (Ev.ff ?_ Ev.ret) (Ev.bind (y := false) (Ev.ff ?_ Ev.ret) (Ev.ret.eq ?_)))))))
    all_goals (rw [s2]; rfl)
  · have h' : (scalarB o.2.1 && numR o) = true := h
    rw [Bool.and_eq_true] at h'
    obtain ⟨s1, s2⟩ := sc h'.1
    refine Ev.step (p_fits_eq · _ _ _) (Ev.ff rfl (Ev.ff rfl (Ev.bind ((p_isData_ev o).eq s1) (Ev.bind (y := true) (Ev.tt ?_ (hnum.eq h'.2)) (Ev.bind (y := false) (Ev.ff ?_ Ev.ret) (Ev.bind (y := false) (Ev.ff ?_ Ev.ret) (Ev.ret.eq ?_)))))))
    all_goals (rw [s2]; rfl)
  · have s1 : dataK o.2.1 = true := h
    exact Ev.step (p_fits_eq · _ _ _) (Ev.ff rfl (Ev.ff rfl (Ev.bind ((p_isData_ev o).eq s1) (Ev.bind (y := false) (Ev.ff rfl Ev.ret) (Ev.bind (y := false) (Ev.ff rfl Ev.ret) (Ev.bind (y := false) (Ev.ff rfl Ev.ret) (Ev.ret.eq rfl)))))))
  · have h' : (dataK o.2.1 && numR o) = true := h
    rw [Bool.and_eq_true] at h'
    exact Ev.step (p_fits_eq · _ _ _) (Ev.ff rfl (Ev.ff rfl (Ev.bind ((p_isData_ev o).eq h'.1) (Ev.bind (y := true) (Ev.tt rfl (hnum.eq h'.2)) (Ev.bind (y := false) (Ev.ff rfl Ev.ret) (Ev.bind (y := false) (Ev.ff rfl Ev.ret) (Ev.ret.eq rfl)))))))
  · cases prev with
    | none =>
      have h' : (dataK o.2.1 && false) = true := h
      simp at h'
    | some q =>
      have h' : (dataK o.2.1 && eqB (numR o) (numR q)) = true := h
      rw [Bool.and_eq_true] at h'
      obtain ⟨rfl, hq⟩ := hb q rfl
      have hnq := p_isNumeric_ev bo
      rw [← hq] at hnq
      refine Ev.step (p_fits_eq · _ _ _) (Ev.ff rfl (Ev.ff rfl (Ev.bind ((p_isData_ev o).eq h'.1) (Ev.bind (y := false) (Ev.ff rfl Ev.ret) (Ev.bind (y := numR o) (Ev.tt rfl hnum) (Ev.bind (y := numR bo) (Ev.tt rfl hnq) (Ev.ret.eq ?_)))))))
      rw [h'.2]; rfl
  · have h' : decide (o.2.1 = 3) = true := h
    exact Ev.step (p_fits_eq · _ _ _) (Ev.tt rfl (Ev.ret.eq h'))
  · have h' : decide (o.2.1 = 5) = true := h
    exact Ev.step (p_fits_eq · _ _ _) (Ev.ff rfl (Ev.tt rfl (Ev.ret.eq h')))

theorem p_instructionErr_15_ev (a : List MiOperand) (b : List MiInstruction) (c : List MiMonitor) (op : Nat) (args : List Int) (hop : op < 19) (ha : a.length < 1000) (hN : ∀ (j : Nat) o, a[j]? = some o → NumEq o) : ∀ (r2 s2 r1 s1 : List Int) (prev : Option MiOperand) (bo : MiOperand), r1 ++ r2 = rolesL.getD op [] → r1.length = s1.length → (∀ r ∈ r2, 0 ≤ r ∧ r ≤ 6) → (s1 ++ s2).length < 1000 → ArgsOK a prev r2 s2 → (∀ q, prev = some q → bo = q ∧ NumEq q) →
    Ev (fun k => p_instructionErr_15 k (s1 ++ s2) ((s1 ++ s2).length : Int) (s1.length : Int) a b c (op : Int) args bo.1 bo.2.1 bo.2.2.1.1 bo.2.2.1.2.1 bo.2.2.1.2.2.1 bo.2.2.2.1.1 bo.2.2.2.1.2.1 bo.2.2.2.2.1 bo.2.2.2.2.2.1 bo.2.2.2.2.2.2.1) 0 := by
  intro r2
  induction r2 with
  | nil =>
    intro s2 r1 s1 prev bo _ _ _ _ hA _
    cases s2 with
    | nil => exact Ev.step (p_instructionErr_15_eq · _ _ _ _ _ _ _ _ _ _ _ _ _ _ _ _ _ _) (Ev.ff (lt_end s1) Ev.ret)
    | cons x s2 => exact hA.elim
  | cons r r2 ih =>
    intro s2 r1 s1 prev bo hR h1 hr hl hA hB
    cases s2 with
    | nil => exact hA.elim
    | cons x s2 =>
      obtain ⟨j, o, rfl, ho, hf, hA'⟩ := hA
      have hj : j < a.length := (List.getElem?_eq_some_iff.1 ho).1
      have hw : w64 ((a.length : Int) - 1) = (a.length : Int) - 1 := w64_id (by omega) (by omega)
      have hp : s1.length + 1 ≤ 9223372036854775807 := by simp at hl; omega
      have hops : rd gOperations (op : Int) = some ((rolesL.getD op []).map cls) := by
        rw [rd_nat, ops_roles, List.getElem?_map]
        have hlt : op < rolesL.length := hop
        rw [List.getElem?_eq_getElem hlt]
        simp [List.getD_eq_getElem?_getD, hlt]
      have hcl : rd ((rolesL.getD op []).map cls) (s1.length : Int) = some (cls r) := by
        rw [rd_nat, ← hR, List.getElem?_map, ← h1]
        simp
      have hoj := (rd_nat a j).trans ho
      refine Ev.step (p_instructionErr_15_eq · _ _ _ _ _ _ _ _ _ _ _ _ _ _ _ _ _ _) (Ev.tt (lt_mid s1 _ s2) (Ev.let (rd_mid s1 _ s2) (Ev.bind (y := true) ?_ (Ev.ff rfl (Ev.let hoj (Ev.let hops (Ev.let hcl (Ev.bind (p_fits_ev (bo := (bo.1, bo.2.1, (bo.2.2.1.1, bo.2.2.1.2.1, bo.2.2.1.2.2.1, ()), (bo.2.2.2.1.1, bo.2.2.2.1.2.1, ()), bo.2.2.2.2.1, bo.2.2.2.2.2.1, bo.2.2.2.2.2.2.1, ())) (hr r (by simp)) hf (hN j o ho) (fun q hq => hB q hq)) (Ev.ff rfl (Ev.let hoj ?_))))))))))
      · rw [hw]
        exact (p_in_ev _ _ _).eq ((inB_iff _ _ _).2 ⟨by omega, by omega⟩)
      · have hi := ih s2 (r1 ++ [r]) (s1 ++ [(j : Int)]) (some o) o (by rw [← hR]; simp) (by simp [h1]) (fun q hq => hr q (List.mem_cons_of_mem _ hq)) (by simpa using hl) hA' (fun q hq => by obtain rfl := Option.some.inj hq; exact ⟨rfl, hN j _ ho⟩)
        rw [← next s1 (j : Int) hp, ← mid_next s1 (j : Int) s2] at hi
        exact hi
theorem p_instructionErr_ev (a : List MiOperand) (b : List MiInstruction) (c : List MiMonitor) (x : MiInstruction) (ha : a.length < 1000) (hN : ∀ (j : Nat) o, a[j]? = some o → NumEq o) (h : InsOK a x) : Ev (fun k => p_instructionErr k (a, b, c, ()) x) 0 := by
  obtain ⟨op', args, _⟩ := x
  obtain ⟨op, hop, hx, hl, hA⟩ := h
  simp only at hx hl hA
  subst hx
  obtain ⟨g1, g2, g3⟩ := roles_good op
  have hops : rd gOperations (op : Int) = some ((rolesL.getD op []).map cls) := by
    rw [rd_nat, ops_roles, List.getElem?_map]
    have hlt : op < rolesL.length := hop
    rw [List.getElem?_eq_getElem hlt]
    simp [List.getD_eq_getElem?_getD, hlt]
  refine Ev.step (p_instructionErr_eq · _ _) (Ev.bind ((p_in_ev _ _ _).eq ((inB_iff _ _ _).2 ⟨by omega, by omega⟩)) (Ev.ff rfl (Ev.let hops (Ev.ff ?_ ?_))))
  · rw [List.length_map]
    simp [hl]
  · exact p_instructionErr_15_ev a b c op args hop ha hN (rolesL.getD op []) args [] [] none ([], 0, (0, 0, 0, ()), (0, [], ()), [], 0, 0, ()) rfl rfl g1 (by simp; omega) hA (fun q h => by cases h)
end Mini

/- Valid programs: what both checks say. -/
namespace Mini
open Go
variable [MX]

def MonOK (n : Nat) (m : MiMonitor) : Prop := 0 ≤ m.1 ∧ m.1 < m.2.1 ∧ m.2.1 ≤ (n : Int) ∧ (0 ≤ m.2.2.1 ∧ m.2.2.1 ≤ 999) ∧ (0 ≤ m.2.2.2.1 ∧ m.2.2.2.1 ≤ (n : Int) - 1)
structure Valid (p : MiProgram) : Prop where
  ops : p.1.length ≤ 24
  ins : p.2.1.length ≤ 40
  mons : p.2.2.1.length ≤ 6
  some_ : p.2.1.length ≠ 0
  opr : OprsOK p.1 p.2.1.length p.1.length
  quad : quads p.1 ≤ 24
  inst : ∀ x ∈ p.2.1, InsOK p.1 x
  mon : ∀ m ∈ p.2.2.1, MonOK p.2.1.length m

theorem OprsOK.views {a : List MiOperand} {n : Nat} (h : OprsOK a n a.length) : ViewsOK a a := by
  intro o ho hk
  obtain ⟨i, hi⟩ := List.getElem?_of_mem ho
  have hlt : i < a.length := (List.getElem?_eq_some_iff.1 hi).1
  obtain ⟨j, u, hj, hu, hx, _⟩ := (h i o hlt hi).2.2.2.2.2.2.1 (.inl hk)
  exact ⟨j, by omega, hx⟩
theorem OprsOK.scal {a : List MiOperand} {n : Nat} (h : OprsOK a n a.length) : Scal a := by
  intro o ho hk
  obtain ⟨i, hi⟩ := List.getElem?_of_mem ho
  have hlt : i < a.length := (List.getElem?_eq_some_iff.1 hi).1
  exact ((h i o hlt hi).2.2.2.2.1 (by rw [hk]; rfl)).1
theorem OprsOK.num {a : List MiOperand} {n : Nat} (h : OprsOK a n a.length) (j : Nat) (o : MiOperand) (ho : a[j]? = some o) : NumEq o := (h j o (List.getElem?_eq_some_iff.1 ho).1 ho).numEq

section
variable (a : List MiOperand) (b : List MiInstruction) (c : List MiMonitor)

theorem r_Check_43_ev (hb : b.length < 1000) (u v : Int) : ∀ (suf pre : List MiMonitor), pre ++ suf = c → c.length < 1000 → ∃ e, Ev (fun k => r_Check_43 k (pre.length : Int) a b c u v) e ∧ (e.2 = 0 → ∀ m ∈ suf, MonOK b.length m) := by
  intro suf
  induction suf with
  | nil =>
    intro pre he _
    have hlt : decide ((pre.length : Int) < (c.length : Int)) = false := by rw [← he]; exact lt_end pre
    exact ⟨_, Ev.step (r_Check_43_eq · _ _ _ _ _ _) (Ev.ff hlt Ev.ret), fun _ m hm => by cases hm⟩
  | cons m suf ih =>
    intro pre he hc
    have hp : pre.length + 1 ≤ 9223372036854775807 := by rw [← he] at hc; simp at hc; omega
    have hlt : decide ((pre.length : Int) < (c.length : Int)) = true := by rw [← he]; exact lt_mid pre m suf
    have hrd : rd c (pre.length : Int) = some m := by rw [← he]; exact rd_mid pre m suf
    have hw : w64 ((b.length : Int) - 1) = (b.length : Int) - 1 := w64_id (by omega) (by omega)
    by_cases h1 : 0 ≤ m.1 ∧ m.1 < m.2.1 ∧ m.2.1 ≤ (b.length : Int)
    · have c1 : (bsel (bsel (decide (m.1 < 0)) true (decide (m.2.1 ≤ m.1))) true (decide ((b.length : Int) < m.2.1))) = false := by
        simp only [bsel_or, Bool.or_eq_false_iff, decide_eq_false_iff_not]; omega
      cases h2 : inB m.2.2.1 0 999 with
      | false =>
        refine ⟨_, Ev.step (r_Check_43_eq · _ _ _ _ _ _) (Ev.tt hlt (Ev.let hrd (Ev.bind (Ev.tt (by rw [c1]; rfl) ((b_Within_ev _ _ _).eq h2)) (Ev.bind (Ev.ff (by rw [c1]; rfl) Ev.ret) (Ev.tt (by rw [c1]; rfl) Ev.ret))))), fun h => by cases h⟩
      | true =>
        cases h3 : inB m.2.2.2.1 0 ((b.length : Int) - 1) with
        | false =>
          refine ⟨_, Ev.step (r_Check_43_eq · _ _ _ _ _ _) (Ev.tt hlt (Ev.let hrd (Ev.bind (Ev.tt (by rw [c1]; rfl) ((b_Within_ev _ _ _).eq h2)) (Ev.bind (y := false) (Ev.tt (by rw [c1]; rfl) ?_) (Ev.tt (by rw [c1]; rfl) Ev.ret))))), fun h => by cases h⟩
          rw [hw]; exact (b_Within_ev _ _ _).eq h3
        | true =>
          obtain ⟨e, i1, i2⟩ := ih (pre ++ [m]) (by rw [← he]; simp) hc
          rw [← next pre m hp] at i1
          refine ⟨e, Ev.step (r_Check_43_eq · _ _ _ _ _ _) (Ev.tt hlt (Ev.let hrd (Ev.bind (Ev.tt (by rw [c1]; rfl) ((b_Within_ev _ _ _).eq h2)) (Ev.bind (y := true) (Ev.tt (by rw [c1]; rfl) ?_) (Ev.ff (by rw [c1]; rfl) i1))))), fun h q hq => ?_⟩
          · rw [hw]; exact (b_Within_ev _ _ _).eq h3
          · rcases List.mem_cons.1 hq with rfl | hq
            · exact ⟨h1.1, h1.2.1, h1.2.2, (inB_iff _ _ _).1 h2, (inB_iff _ _ _).1 h3⟩
            · exact i2 h q hq
    · have c1 : (bsel (bsel (decide (m.1 < 0)) true (decide (m.2.1 ≤ m.1))) true (decide ((b.length : Int) < m.2.1))) = true := by
        simp only [bsel_or, Bool.or_eq_true, decide_eq_true_eq]; omega
      exact ⟨_, Ev.step (r_Check_43_eq · _ _ _ _ _ _) (Ev.tt hlt (Ev.let hrd (Ev.bind (Ev.ff (by rw [c1]; rfl) Ev.ret) (Ev.bind (Ev.ff (by rw [c1]; rfl) Ev.ret) (Ev.tt (by rw [c1]; rfl) Ev.ret))))), fun h => by cases h⟩

theorem r_Check_31_ev (ha : a.length < 1000) (hb : b.length < 1000) (hc : c.length < 1000) (u v : Int) : ∀ (suf pre : List MiInstruction), pre ++ suf = b → ∃ e, Ev (fun k => r_Check_31 k (pre.length : Int) a b c u v) e ∧ (e.2 = 0 → (∀ x ∈ suf, InsOK a x) ∧ ∀ m ∈ c, MonOK b.length m) := by
  intro suf
  induction suf with
  | nil =>
    intro pre he
    have hlt : decide ((pre.length : Int) < (b.length : Int)) = false := by rw [← he]; exact lt_end pre
    obtain ⟨e, h1, h2⟩ := r_Check_43_ev a b c hb u v c [] rfl hc
    exact ⟨e, Ev.step (r_Check_31_eq · _ _ _ _ _ _) (Ev.ff hlt h1), fun h => ⟨(fun x hx => by cases hx), h2 h⟩⟩
  | cons x suf ih =>
    intro pre he
    have hp : pre.length + 1 ≤ 9223372036854775807 := by rw [← he] at hb; simp at hb; omega
    have hlt : decide ((pre.length : Int) < (b.length : Int)) = true := by rw [← he]; exact lt_mid pre x suf
    have hrd : rd b (pre.length : Int) = some x := by rw [← he]; exact rd_mid pre x suf
    obtain ⟨e1, t1, t2⟩ := r_instructionErr_ev a b c x ha
    by_cases h1 : e1 = 0
    · obtain ⟨e, i1, i2⟩ := ih (pre ++ [x]) (by rw [← he]; simp)
      rw [← next pre x hp] at i1
      refine ⟨e, Ev.step (r_Check_31_eq · _ _ _ _ _ _) (Ev.tt hlt (Ev.let hrd (Ev.bind t1 (Ev.ff (by simp [h1]) i1)))), fun h => ⟨fun q hq => ?_, (i2 h).2⟩⟩
      rcases List.mem_cons.1 hq with rfl | hq
      · exact t2 h1
      · exact (i2 h).1 q hq
    · exact ⟨_, Ev.step (r_Check_31_eq · _ _ _ _ _ _) (Ev.tt hlt (Ev.let hrd (Ev.bind t1 (Ev.tt (by simp [h1]) Ev.ret)))), fun h => absurd h h1⟩

theorem r_Check_13_ev (ha : a.length < 1000) (hb : b.length < 1000) (hc : c.length < 1000) (hn : ∀ o ∈ a, o.1.length < 1000000) (u v : Int) : ∀ (suf pre : List MiOperand), pre ++ suf = a → OprsOK a b.length pre.length → ∃ e, Ev (fun k => r_Check_13 k (pre.length : Int) a b c u v) e ∧ (e.2 = 0 → OprsOK a b.length a.length ∧ quads a ≤ 24 ∧ (∀ x ∈ b, InsOK a x) ∧ ∀ m ∈ c, MonOK b.length m) := by
  intro suf
  induction suf with
  | nil =>
    intro pre he hO
    have hlt : decide ((pre.length : Int) < (a.length : Int)) = false := by rw [← he]; exact lt_end pre
    have hO' : OprsOK a b.length a.length := by
      have : pre.length = a.length := by rw [← he]; simp
      rw [← this]; exact hO
    obtain ⟨l, hl⟩ := r_Layout_ev a b c ha hO'.views hO'.scal
    by_cases hq : quads a ≤ 24
    · obtain ⟨e, h1, h2⟩ := r_Check_31_ev a b c ha hb hc u v b [] rfl
      exact ⟨e, Ev.step (r_Check_13_eq · _ _ _ _ _ _) (Ev.ff hlt (Ev.bind hl (Ev.ff (by simp; omega) h1))), fun h => ⟨hO', hq, h2 h⟩⟩
    · exact ⟨_, Ev.step (r_Check_13_eq · _ _ _ _ _ _) (Ev.ff hlt (Ev.bind hl (Ev.tt (by simp; omega) Ev.ret))), fun h => by cases h⟩
  | cons o suf ih =>
    intro pre he hO
    have hp : pre.length + 1 ≤ 9223372036854775807 := by rw [← he] at ha; simp at ha; omega
    have hlt : decide ((pre.length : Int) < (a.length : Int)) = true := by rw [← he]; exact lt_mid pre o suf
    have hoi : a[pre.length]? = some o := by rw [← he]; simp
    obtain ⟨e1, t1, t2⟩ := r_operandErr_ev a b c pre.length o hoi (by omega) (by omega) (hn o (by rw [← he]; simp)) hO
    by_cases h1 : e1 = 0
    · obtain ⟨e, i1, i2⟩ := ih (pre ++ [o]) (by rw [← he]; simp) (fun j q hj hq => by
        by_cases hj' : j < pre.length
        · exact hO j q hj' hq
        · have : j = pre.length := by simp at hj; omega
          subst this
          obtain rfl := Option.some.inj (hoi.symm.trans hq)
          exact t2 h1)
      rw [← next pre o hp] at i1
      exact ⟨e, Ev.step (r_Check_13_eq · _ _ _ _ _ _) (Ev.tt hlt (Ev.bind t1 (Ev.ff (by simp [h1]) i1))), i2⟩
    · exact ⟨_, Ev.step (r_Check_13_eq · _ _ _ _ _ _) (Ev.tt hlt (Ev.bind t1 (Ev.tt (by simp [h1]) Ev.ret))), fun h => absurd h h1⟩
end

theorem r_Err_ev (p : MiProgram) (h1 : p.1.length < 1000) (h2 : p.2.1.length < 1000) (h3 : p.2.2.1.length < 1000) (hn : ∀ o ∈ p.1, o.1.length < 1000000) : ∃ e, Ev (fun k => r_Err k p) e ∧ (e = 0 → Valid p) := by
  obtain ⟨a, b, c, _⟩ := p
  have key : ∃ e, Ev (fun k => r_Check k (a, b, c, ())) e ∧ (e.2 = 0 → Valid (a, b, c, ())) := by
    by_cases hl : a.length ≤ 24 ∧ b.length ≤ 40 ∧ c.length ≤ 6
    · have c1 : bsel (bsel (decide (24 < (a.length : Int))) true (decide (40 < (b.length : Int)))) true (decide (6 < (c.length : Int))) = false := by
        simp only [bsel_or, Bool.or_eq_false_iff, decide_eq_false_iff_not]; omega
      by_cases h0 : b.length = 0
      · exact ⟨_, Ev.step (r_Check_eq · _) (Ev.ff c1 (Ev.tt (by simp [h0]) Ev.ret)), fun h => by cases h⟩
      · obtain ⟨e, t1, t2⟩ := r_Check_13_ev a b c h1 h2 h3 hn 0 0 a [] rfl (fun j q hj => by cases hj)
        refine ⟨e, Ev.step (r_Check_eq · _) (Ev.ff c1 (Ev.ff (by simp; exact fun h => h0 (by rw [h]; rfl)) t1)), fun h => ?_⟩
        obtain ⟨g1, g2, g3, g4⟩ := t2 h
        exact ⟨hl.1, hl.2.1, hl.2.2, h0, g1, g2, g3, g4⟩
    · have c1 : bsel (bsel (decide (24 < (a.length : Int))) true (decide (40 < (b.length : Int)))) true (decide (6 < (c.length : Int))) = true := by
        simp only [bsel_or, Bool.or_eq_true, decide_eq_true_eq]; omega
      exact ⟨_, Ev.step (r_Check_eq · _) (Ev.tt c1 Ev.ret), fun h => by cases h⟩
  obtain ⟨e, t1, t2⟩ := key
  exact ⟨e.2, Ev.step (r_Err_eq · _) (Ev.bind t1 Ev.ret), t2⟩

/-! ### the program's check of a valid program -/
section
variable (a : List MiOperand) (b : List MiInstruction) (c : List MiMonitor)
theorem p_monitorErr_ev (m : MiMonitor) (hb : b.length < 1000) (h : MonOK b.length m) : Ev (fun k => p_monitorErr k (a, b, c, ()) m) 0 := by
  obtain ⟨h1, h2, h3, h4, h5⟩ := h
  have hw : w64 ((b.length : Int) - 1) = (b.length : Int) - 1 := w64_id (by omega) (by omega)
  have c1 : (bsel (bsel (decide (0 ≤ m.1)) (decide (m.1 < m.2.1)) false) (decide (m.2.1 ≤ (b.length : Int))) false) = true := by
    simp [bsel_and, h1, h2, h3]
  refine Ev.step (p_monitorErr_eq · _ _) (Ev.bind (y := true) (Ev.tt c1 ((p_in_ev _ _ _).eq ((inB_iff _ _ _).2 h4))) (Ev.bind (y := true) (Ev.tt (by rw [c1]; rfl) ?_) (Ev.bind (y := 0) ?_ Ev.ret)))
  · rw [hw]; exact (p_in_ev _ _ _).eq ((inB_iff _ _ _).2 h5)
  · refine (p_cond_ev _ _).eq ?_
    rw [c1]; rfl
theorem p_CheckProgram_47_ev (hb : b.length < 1000) (hM : ∀ m ∈ c, MonOK b.length m) (u v : Int) : ∀ (suf pre : List MiMonitor), pre ++ suf = c → c.length < 1000 → Ev (fun k => p_CheckProgram_47 k c (c.length : Int) (pre.length : Int) a b c u v) ((0, 0, ()), 0) := by
  intro suf
  induction suf with
  | nil =>
    intro pre he _
    have hlt : decide ((pre.length : Int) < (c.length : Int)) = false := by rw [← he]; exact lt_end pre
    exact Ev.step (p_CheckProgram_47_eq · _ _ _ _ _ _ _ _) (Ev.ff hlt Ev.ret)
  | cons m suf ih =>
    intro pre he hc
    have hp : pre.length + 1 ≤ 9223372036854775807 := by rw [← he] at hc; simp at hc; omega
    have hlt : decide ((pre.length : Int) < (c.length : Int)) = true := by rw [← he]; exact lt_mid pre m suf
    have hrd : rd c (pre.length : Int) = some m := by rw [← he]; exact rd_mid pre m suf
    have hi := ih (pre ++ [m]) (by rw [← he]; simp) hc
    rw [← next pre m hp] at hi
    exact Ev.step (p_CheckProgram_47_eq · _ _ _ _ _ _ _ _) (Ev.tt hlt (Ev.let hrd (Ev.bind (p_monitorErr_ev a b c m hb (hM m (by rw [← he]; simp))) (Ev.ff rfl hi))))
theorem p_CheckProgram_33_ev (ha : a.length < 1000) (hb : b.length < 1000) (hc : c.length < 1000) (hN : ∀ (j : Nat) o, a[j]? = some o → NumEq o) (hI : ∀ x ∈ b, InsOK a x) (hM : ∀ m ∈ c, MonOK b.length m) (u v : Int) : ∀ (suf pre : List MiInstruction), pre ++ suf = b → Ev (fun k => p_CheckProgram_33 k b (b.length : Int) (pre.length : Int) a b c u v) ((0, 0, ()), 0) := by
  intro suf
  induction suf with
  | nil =>
    intro pre he
    have hlt : decide ((pre.length : Int) < (b.length : Int)) = false := by rw [← he]; exact lt_end pre
    exact Ev.step (p_CheckProgram_33_eq · _ _ _ _ _ _ _ _) (Ev.ff hlt (p_CheckProgram_47_ev a b c hb hM u v c [] rfl hc))
  | cons x suf ih =>
    intro pre he
    have hp : pre.length + 1 ≤ 9223372036854775807 := by rw [← he] at hb; simp at hb; omega
    have hlt : decide ((pre.length : Int) < (b.length : Int)) = true := by rw [← he]; exact lt_mid pre x suf
    have hrd : rd b (pre.length : Int) = some x := by rw [← he]; exact rd_mid pre x suf
    have hi := ih (pre ++ [x]) (by rw [← he]; simp)
    rw [← next pre x hp] at hi
    exact Ev.step (p_CheckProgram_33_eq · _ _ _ _ _ _ _ _) (Ev.tt hlt (Ev.let hrd (Ev.bind (p_instructionErr_ev a b c x ha hN (hI x (by rw [← he]; simp))) (Ev.ff rfl hi))))
theorem p_CheckProgram_13_ev (ha : a.length < 1000) (hb : b.length < 1000) (hc : c.length < 1000) (hn : ∀ o ∈ a, o.1.length < 1000000) (hO : OprsOK a b.length a.length) (hq : quads a ≤ 24) (hI : ∀ x ∈ b, InsOK a x) (hM : ∀ m ∈ c, MonOK b.length m) (u v : Int) : ∀ (suf pre : List MiOperand), pre ++ suf = a → Ev (fun k => p_CheckProgram_13 k (a.length : Int) (pre.length : Int) a b c u v) ((0, 0, ()), 0) := by
  intro suf
  induction suf with
  | nil =>
    intro pre he
    have hlt : decide ((pre.length : Int) < (a.length : Int)) = false := by rw [← he]; exact lt_end pre
    obtain ⟨l, hl⟩ := p_layout_ev a ha hO.views hO.scal
    exact Ev.step (p_CheckProgram_13_eq · _ _ _ _ _ _ _) (Ev.ff hlt (Ev.bind hl (Ev.ff (by simp; omega) (p_CheckProgram_33_ev a b c ha hb hc hO.num hI hM u v b [] rfl))))
  | cons o suf ih =>
    intro pre he
    have hp : pre.length + 1 ≤ 9223372036854775807 := by rw [← he] at ha; simp at ha; omega
    have hlt : decide ((pre.length : Int) < (a.length : Int)) = true := by rw [← he]; exact lt_mid pre o suf
    have hoi : a[pre.length]? = some o := by rw [← he]; simp
    have hpl : pre.length < a.length := by rw [← he]; simp
    have hi := ih (pre ++ [o]) (by rw [← he]; simp)
    rw [← next pre o hp] at hi
    exact Ev.step (p_CheckProgram_13_eq · _ _ _ _ _ _ _) (Ev.tt hlt (Ev.bind (p_operandErr_ev a b c pre.length o hoi (by omega) (by omega) (hn o (by rw [← he]; simp)) (fun j q hj hq => hO j q (by omega) hq) (hO _ o hpl hoi)) (Ev.ff rfl hi)))
end
theorem isName_len {s : Str} (h : isNameB s = true) : s ≠ [] ∧ s.length ≤ 10 := by
  unfold isNameB at h
  simp only [Bool.and_eq_true, decide_eq_true_eq] at h
  exact h.1
theorem Valid.names {p : MiProgram} (h : Valid p) : ∀ o ∈ p.1, isNameB o.1 = true := by
  intro o ho
  obtain ⟨i, hi⟩ := List.getElem?_of_mem ho
  exact (h.opr i o (List.getElem?_eq_some_iff.1 hi).1 hi).1
theorem p_CheckProgram_ev {p : MiProgram} (h : Valid p) : Ev (fun k => p_CheckProgram k p) ((0, 0, ()), 0) := by
  have hn : ∀ o ∈ p.1, o.1.length < 1000000 := fun o ho => by have := (isName_len (h.names o ho)).2; omega
  obtain ⟨a, b, c, _⟩ := p
  obtain ⟨v1, v2, v3, v4, v5, v6, v7, v8⟩ := h
  simp only at v1 v2 v3 v4 v5 v6 v7 v8 hn
  have c1 : bsel (bsel (decide (24 < (a.length : Int))) true (decide (40 < (b.length : Int)))) true (decide (6 < (c.length : Int))) = false := by
    simp only [bsel_or, Bool.or_eq_false_iff, decide_eq_false_iff_not]; omega
  refine Ev.step (p_CheckProgram_eq · _) (Ev.bind (y := 0) ((p_cond_ev _ _).eq (by rw [c1]; rfl)) (Ev.bind (y := 0) ((p_cond_ev _ _).eq ?_) (Ev.bind (y := 0) ((p_first_ev _ (by simp)).eq (by simp [firstN])) (Ev.ff rfl ?_))))
  · have : ¬ ((b.length : Int) = 0) := by omega
    simp [this]
    intro h
    exact absurd (by rw [h]; rfl) v4
  · exact p_CheckProgram_13_ev a b c (by omega) (by omega) (by omega) hn v5 v6 v7 v8 0 0 a [] rfl
theorem p_programErr_ev {p : MiProgram} (h : Valid p) : Ev (fun k => p_programErr k p) 0 := Ev.step (p_programErr_eq · p) (Ev.bind (p_CheckProgram_ev h) Ev.ret)
end Mini

/- Numerals. -/
namespace Mini
open Go

abbrev dd (n : Nat) : Str := Lib.decDigits n
theorem dd_small {n : Nat} (h : n < 10) : dd n = [UInt8.ofNat (48 + n)] := by unfold dd; rw [Lib.decDigits, dif_pos h]
theorem dd_big {n : Nat} (h : ¬ n < 10) : dd n = dd (n / 10) ++ [UInt8.ofNat (48 + n % 10)] := by
  show Lib.decDigits n = _
  rw [Lib.decDigits, dif_neg h]
theorem dig_val {n : Nat} (h : n < 10) : (UInt8.ofNat (48 + n)).toNat = 48 + n := by
  rw [UInt8.toNat_ofNat']; omega
theorem dd_digits : ∀ (n : Nat) (c : UInt8), c ∈ dd n → 48 ≤ c.toNat ∧ c.toNat ≤ 57 := by
  intro n
  induction n using Nat.strongRecOn with
  | ind n ih =>
    intro c hc
    by_cases h : n < 10
    · rw [dd_small h, List.mem_singleton] at hc
      rw [hc, dig_val h]; omega
    · rw [dd_big h, List.mem_append, List.mem_singleton] at hc
      rcases hc with hc | hc
      · exact ih (n / 10) (by omega) c hc
      · rw [hc, dig_val (by omega)]; omega
theorem dd_ne (n : Nat) : dd n ≠ [] := by
  by_cases h : n < 10
  · rw [dd_small h]; simp
  · rw [dd_big h]; simp
theorem dd_len : ∀ (k n : Nat), n < 10 ^ (k + 1) → (dd n).length ≤ k + 1 := by
  intro k
  induction k with
  | zero => intro n h; rw [dd_small (by simpa using h)]; simp
  | succ k ih =>
    intro n h
    by_cases h' : n < 10
    · rw [dd_small h']; simp
    · rw [dd_big h', List.length_append, List.length_singleton]
      have : n / 10 < 10 ^ (k + 1) := by
        rw [Nat.div_lt_iff_lt_mul (by decide)]
        rw [Nat.pow_succ] at h; exact h
      have := ih (n / 10) this
      omega
theorem parse_app : ∀ (l r : List UInt8) (acc u : Nat), Lib.parseUint10 acc l = .ok u → Lib.parseUint10 acc (l ++ r) = Lib.parseUint10 u r := by
  intro l
  induction l with
  | nil =>
    intro r acc u h
    have : acc = u := by simpa [Lib.parseUint10] using h
    rw [this]; rfl
  | cons c l ih =>
    intro r acc u h
    simp only [List.cons_append]
    unfold Lib.parseUint10 at h
    conv => lhs; unfold Lib.parseUint10
    split at h
    · rename_i h1
      rw [if_pos h1]
      split at h
      · cases h
      · rename_i h2
        rw [if_neg h2]
        split at h
        · cases h
        · rename_i h3
          rw [if_neg h3]
          exact ih r _ _ h
    · cases h
theorem parse_dd : ∀ (n : Nat), n < 1000000000000000000 → Lib.parseUint10 0 (dd n) = .ok n := by
  intro n
  induction n using Nat.strongRecOn with
  | ind n ih =>
    intro hn
    by_cases h : n < 10
    · rw [dd_small h]
      unfold Lib.parseUint10
      rw [dig_val h, if_pos (by omega), if_neg (by omega), if_neg (by omega)]
      simp only [Lib.parseUint10]
      congr 1; omega
    · rw [dd_big h, parse_app _ _ 0 (n / 10) (ih (n / 10) (by omega) (by omega))]
      unfold Lib.parseUint10
      rw [dig_val (by omega), if_pos (by omega), if_neg (by omega), if_neg (by omega)]
      simp only [Lib.parseUint10]
      congr 1; omega
theorem atoi_dd (n : Nat) (h : n < 1000000000000000000) : Lib.atoiAll (dd n) = .ok (n : Int) := by
  cases hd : dd n with
  | nil => exact absurd hd (dd_ne n)
  | cons c l =>
    have hc := dd_digits n c (by rw [hd]; simp)
    unfold Lib.atoiAll
    simp only
    rw [if_neg (by omega)]
    have hp : Lib.parseMag (c :: l) = .ok n := by
      unfold Lib.parseMag
      rw [if_neg (by simp), ← hd]
      exact parse_dd n h
    rw [hp]
    simp only
    rw [if_neg (by omega), if_neg (by omega), if_neg (by omega)]
theorem itoa_dd (n : Nat) : Lib.itoa (n : Int) = dd n := by
  unfold Lib.itoa
  rw [if_neg (by omega)]; simp

variable [MX]
theorem c_Itoa_ev (n : Nat) (h : n < 1000000000000000000) : Ev (fun k => c_Itoa k (n : Int)) (dd n) := by
  refine Ev.ext (c_Itoa_eq · _) ?_
  unfold xItoa
  rw [if_pos ⟨by omega, by omega⟩, itoa_dd]
theorem b_Digits_ev : ∀ (n : Nat), n < 1000000000000000000 → Ev (fun k => b_Digits k (n : Int)) (dd n) := by
  intro n
  induction n using Nat.strongRecOn with
  | ind n ih =>
    intro hn
    have wr : ∀ m : Nat, m < 10 → textT [IntKind.u8.wrap (w64 (48 + (m : Int)))] = [UInt8.ofNat (48 + m)] := by
      intro m hm
      have : m = 0 ∨ m = 1 ∨ m = 2 ∨ m = 3 ∨ m = 4 ∨ m = 5 ∨ m = 6 ∨ m = 7 ∨ m = 8 ∨ m = 9 := by omega
      rcases this with rfl | rfl | rfl | rfl | rfl | rfl | rfl | rfl | rfl | rfl <;> rfl
    by_cases h : n < 10
    · refine Ev.step (b_Digits_eq · _) (Ev.ff (decide_eq_false (by omega)) (Ev.ff (decide_eq_false (by omega)) (Ev.tt (decide_eq_true (by omega)) (Ev.ret.eq ?_))))
      rw [dd_small h, wr n h]
    · have hq : quoI .i64 (n : Int) 10 = some ((n / 10 : Nat) : Int) := by
        unfold quoI
        rw [if_neg (by decide), Int.tdiv_eq_ediv_of_nonneg (by omega)]
        rw [show IntKind.i64.wrap ((n : Int) / 10) = (n : Int) / 10 from w64_id (by omega) (by omega)]
        rfl
      have hr : remI (n : Int) 10 = some ((n % 10 : Nat) : Int) := by
        unfold remI
        rw [if_neg (by decide), Int.tmod_eq_emod_of_nonneg (by omega)]
        rfl
      have hl := dd_len 18 (n / 10) (by omega)
      refine Ev.step (b_Digits_eq · _) (Ev.ff (decide_eq_false (by omega)) (Ev.ff (decide_eq_false (by omega)) (Ev.ff (decide_eq_false (by omega)) (Ev.let hq (Ev.bind (ih (n / 10) (by omega) (by omega)) (Ev.let hr (Ev.let (y := dd n) ?_ Ev.ret)))))))
      rw [wr _ (by omega), catL_eq (by simp; omega), ← dd_big h]

theorem p_natural_dd (n : Nat) (h : n < 1000000000000000) : Ev (fun k => p_natural k (dd n)) ((n : Int), true) := by
  have hl := dd_len 14 n (by omega)
  have hA : Ev (fun k => c_Atoi k (dd n)) ((n : Int), true) := by
    refine Ev.ext (c_Atoi_eq · _) ?_
    unfold xAtoi
    rw [if_pos (by omega), atoi_dd n (by omega)]
  refine Ev.step (p_natural_eq · _) (Ev.bind hA (Ev.bind (Ev.tt ?_ (c_Itoa_ev n (by omega))) (Ev.ret.eq ?_)))
  · simp; omega
  · have h1 : decide (((dd n).length : Int) ≤ 15) = true := by simp; omega
    rw [h1, eqS_self]
    simp
theorem p_natural_ev (s : Str) (h : s.length < 1000000) : ∃ n ok, Ev (fun k => p_natural k s) (n, ok) ∧ (ok = true → ∃ m : Nat, n = (m : Int) ∧ s = dd m ∧ m < 1000000000000000000) := by
  have hA : ∃ n e, Ev (fun k => c_Atoi k s) (n, e) ∧ (e = true → Lib.atoiAll s = .ok n) := by
    cases hr : Lib.atoiAll s with
    | ok v => exact ⟨v, true, Ev.ext (c_Atoi_eq · _) (by unfold xAtoi; rw [if_pos (by omega), hr]), fun _ => rfl⟩
    | range => exact ⟨_, false, Ev.ext (c_Atoi_eq · _) (by unfold xAtoi; rw [if_pos (by omega), hr]), fun h => by cases h⟩
    | _ => exact ⟨0, false, Ev.ext (c_Atoi_eq · _) (by unfold xAtoi; rw [if_pos (by omega), hr]), fun h => by cases h⟩
  obtain ⟨n, e, h1, h2⟩ := hA
  cases hc : (e && decide ((s.length : Int) ≤ 15)) with
  | false =>
    refine ⟨n, _, Ev.step (p_natural_eq · _) (Ev.bind h1 (Ev.bind (Ev.ff (by rw [bsel_and]; exact hc) Ev.ret) Ev.ret)), fun h => ?_⟩
    simp only [bsel_and, hc, Bool.false_and] at h
    cases h
  | true =>
    rw [Bool.and_eq_true, decide_eq_true_eq] at hc
    have hb := Lib.atoiAll_bounds (h2 hc.1)
    have hI : Ev (fun k => c_Itoa k n) (Lib.itoa n) := Ev.ext (c_Itoa_eq · _) (by unfold xItoa; rw [if_pos hb])
    refine ⟨n, _, Ev.step (p_natural_eq · _) (Ev.bind h1 (Ev.bind (Ev.tt (by rw [bsel_and, hc.1]; simpa using hc.2) hI) Ev.ret)), fun h => ?_⟩
    simp only [bsel_and, Bool.and_eq_true, decide_eq_true_eq] at h
    obtain ⟨⟨_, h3⟩, h4⟩ := h
    obtain ⟨m, rfl⟩ := Int.eq_ofNat_of_zero_le h4
    have hs : s = dd m := by rw [← (eqS_iff _ _).1 h3, itoa_dd]
    refine ⟨m, rfl, hs, ?_⟩
    refine Classical.byContradiction fun hm => ?_
    have : 16 ≤ s.length := by
      rw [hs]
      have key : ∀ (k q : Nat), 10 ^ k ≤ q → k + 1 ≤ (dd q).length := by
        intro k
        induction k with
        | zero => intro q _; exact List.length_pos_iff.2 (dd_ne q)
        | succ k ih =>
          intro q hq
          have h10 : ¬ q < 10 := by
            have : 10 ^ 1 ≤ 10 ^ (k + 1) := Nat.pow_le_pow_right (by decide) (by omega)
            omega
          rw [dd_big h10, List.length_append, List.length_singleton]
          have : 10 ^ k ≤ q / 10 := by
            rw [Nat.le_div_iff_mul_le (by decide)]
            rw [Nat.pow_succ] at hq; exact hq
          have := ih _ this
          omega
      have := key 15 m (by omega)
      omega
    omega
end Mini

/- The texts of types and numbers. -/
namespace Mini
open Go
variable [MX]

def typeT (t : DataType) : Str := gTypes.getD t.1.toNat [] ++ [40] ++ dd t.2.1.toNat ++ (if t.1 = 0 then [] else 44 :: dd t.2.2.1.toNat) ++ [41]
theorem gTypes_len : gTypes.length = 4 := rfl
theorem gTypes_small (n : Nat) (h : n < 4) : ∃ s, gTypes[n]? = some s ∧ s.length ≤ 6 ∧ gTypes.getD n [] = s := by
  have : n = 0 ∨ n = 1 ∨ n = 2 ∨ n = 3 := by omega
  rcases this with rfl | rfl | rfl | rfl <;> exact ⟨_, rfl, by decide, rfl⟩

theorem nat_of {x : Int} (h : 0 ≤ x) : ((x.toNat : Nat) : Int) = x := Int.toNat_of_nonneg h
theorem c_Itoa_ev' {x : Int} (h0 : 0 ≤ x) (h1 : x < 1000000000000000000) : Ev (fun k => c_Itoa k x) (dd x.toNat) := by
  have := c_Itoa_ev x.toNat (by omega)
  rwa [nat_of h0] at this
theorem b_Digits_ev' {x : Int} (h0 : 0 ≤ x) (h1 : x < 1000000000000000000) : Ev (fun k => b_Digits k x) (dd x.toNat) := by
  have := b_Digits_ev x.toNat (by omega)
  rwa [nat_of h0] at this
theorem dd_len3 {x : Int} (h1 : x < 1000) : (dd x.toNat).length ≤ 3 := dd_len 2 x.toNat (by omega)

theorem p_typeText_ev {t : DataType} (hT : TypeOK t) (h4 : t.1 ≠ 4) : Ev (fun k => p_typeText k t) (typeT t) := by
  have hb := hT.bounds
  obtain ⟨s, h1, h2, h3⟩ := gTypes_small t.1.toNat (by omega)
  have hr : rd gTypes t.1 = some s := by
    have := rd_nat gTypes t.1.toNat
    rw [nat_of hb.1] at this
    rw [this, h1]
  have l1 := dd_len3 (x := t.2.1) (by omega)
  have l2 := dd_len3 (x := t.2.2.1) (by omega)
  refine Ev.step (p_typeText_eq · t) (Ev.let hr (Ev.let (catL_eq (by simp; omega)) (Ev.bind (c_Itoa_ev' hb.2.2.1 (by omega)) (Ev.let (catL_eq (by simp; omega)) ?_))))
  by_cases h0 : t.1 = 0
  · refine Ev.ff (by simp [h0]) (Ev.let (catL_eq (by simp; omega)) (Ev.ret.eq ?_))
    unfold typeT; rw [h3, if_pos h0]; simp
  · refine Ev.tt (by simp [h0]) (Ev.bind (c_Itoa_ev' hb.2.2.2.2.1 (by omega)) (Ev.let (catL_eq (by simp; omega)) (Ev.let (catL_eq (by simp; omega)) (Ev.let (catL_eq (by simp; omega)) (Ev.ret.eq ?_)))))
    unfold typeT; rw [h3, if_neg h0]; simp
theorem r_typeText_ev {t : DataType} (hT : TypeOK t) (h4 : t.1 ≠ 4) : Ev (fun k => r_typeText k t) (typeT t) := by
  have hb := hT.bounds
  obtain ⟨s, h1, h2, h3⟩ := gTypes_small t.1.toNat (by omega)
  have hr : rd gTypes t.1 = some s := by
    have := rd_nat gTypes t.1.toNat
    rw [nat_of hb.1] at this
    rw [this, h1]
  have l1 := dd_len3 (x := t.2.1) (by omega)
  have l2 := dd_len3 (x := t.2.2.1) (by omega)
  refine Ev.step (r_typeText_eq · t) (Ev.let hr ?_)
  by_cases h0 : t.1 = 0
  · refine Ev.tt (by simp [h0]) (Ev.let (catL_eq (by simp; omega)) (Ev.bind (b_Digits_ev' hb.2.2.1 (by omega)) (Ev.let (catL_eq (by simp; omega)) (Ev.let (catL_eq (by simp; omega)) (Ev.ret.eq ?_)))))
    unfold typeT; rw [h3, if_pos h0]; simp
  · refine Ev.ff (by simp [h0]) (Ev.let (catL_eq (by simp; omega)) (Ev.bind (b_Digits_ev' hb.2.2.1 (by omega)) (Ev.let (catL_eq (by simp; omega)) (Ev.let (catL_eq (by simp; omega)) (Ev.bind (b_Digits_ev' hb.2.2.2.2.1 (by omega)) (Ev.let (catL_eq (by simp; omega)) (Ev.let (catL_eq (by simp; omega)) (Ev.ret.eq ?_))))))))
    unfold typeT; rw [h3, if_neg h0]; simp

/-! ### numbers -/
def padZ (s : Str) (sc : Nat) : Str := List.replicate (sc + 1 - s.length) 48 ++ s
def pointT (s : Str) (sc : Nat) : Str := if 0 < sc then s.take (s.length - sc) ++ [46] ++ s.drop (s.length - sc) else s
def signT (n : Int) (s : Str) : Str := if n < 0 then 45 :: s else s
def numT (n : Int) (sc : Nat) : Str := signT n (pointT (padZ (dd n.natAbs) sc) sc)

theorem amount {n : Int} (h0 : -1000000000000000 ≤ n) (h1 : n ≤ 1000000000000000) : maxI n (negI .i64 n) = (n.natAbs : Int) := by
  have e : negI .i64 n = -n := by
    show w64 (0 - n) = -n
    rw [w64_id (by omega) (by omega)]; omega
  rw [e]
  unfold maxI
  split <;> omega
theorem padZ_len (s : Str) (sc : Nat) : (padZ s sc).length = max s.length (sc + 1) := by
  unfold padZ; rw [List.length_append, List.length_replicate]; omega
theorem padZ_done {s : Str} {sc : Nat} (h : sc < s.length) : padZ s sc = s := by
  unfold padZ
  rw [show sc + 1 - s.length = 0 by omega]; rfl
theorem padZ_more {s : Str} {sc : Nat} (h : s.length ≤ sc) : padZ (48 :: s) sc = padZ s sc := by
  unfold padZ
  rw [List.length_cons, show sc + 1 - s.length = (sc + 1 - (s.length + 1)) + 1 by omega, List.replicate_succ']
  simp

theorem q_Text_5_ev (n : Int) (sc : Nat) (hsc : sc ≤ 15) : ∀ (m : Nat) (s : Str), sc + 1 - s.length = m → s.length ≤ 20 → Ev (fun k => q_Text_5 k s n (sc : Int)) (signT n (pointT (padZ s sc) sc)) := by
  intro m
  induction m with
  | zero =>
    intro s hm hs
    have h : sc < s.length := by omega
    rw [padZ_done h]
    refine Ev.step (q_Text_5_eq · _ _ _) (Ev.ff (by simp; omega) ?_)
    by_cases h0 : 0 < sc
    · have hw : w64 ((s.length : Int) - (sc : Int)) = ((s.length - sc : Nat) : Int) := by rw [w64_id (by omega) (by omega)]; omega
      have e1 : subL s 0 (w64 ((s.length : Int) - (sc : Int))) = some (s.take (s.length - sc)) := by
        rw [hw]
        have := subL_eq (xs := s) (a := 0) (b := s.length - sc) (by omega) (by omega)
        simpa using this
      have e2 : subL s (w64 ((s.length : Int) - (sc : Int))) (s.length : Int) = some (s.drop (s.length - sc)) := by
        rw [hw]
        have := subL_eq (xs := s) (a := s.length - sc) (b := s.length) (by omega) (by omega)
        simpa using this
      refine Ev.tt (by simpa using h0) (Ev.let e1 (Ev.let (catL_eq (by simp; omega)) (Ev.let e2 (Ev.let (catL_eq (by simp; omega)) ?_))))
      by_cases hn : n < 0
      · refine Ev.tt (by simpa using hn) (Ev.let (catL_eq (by simp; omega)) (Ev.ret.eq ?_))
        simp [signT, pointT, hn, h0]
      · refine Ev.ff (by simpa using hn) (Ev.ret.eq ?_)
        simp [signT, pointT, hn, h0]
    · refine Ev.ff (by simpa using h0) ?_
      by_cases hn : n < 0
      · refine Ev.tt (by simpa using hn) (Ev.let (catL_eq (by simp; omega)) (Ev.ret.eq ?_))
        simp [signT, pointT, hn, h0]
      · refine Ev.ff (by simpa using hn) (Ev.ret.eq ?_)
        simp [signT, pointT, hn, h0]
  | succ m ih =>
    intro s hm hs
    refine Ev.step (q_Text_5_eq · _ _ _) (Ev.tt (by simp; omega) (Ev.let (catL_eq (by simp; omega)) ?_))
    rw [← padZ_more (by omega)]
    exact ih (48 :: s) (by rw [List.length_cons]; omega) (by rw [List.length_cons]; omega)
theorem abs_len {n : Int} (h0 : -999999999999999 ≤ n) (h1 : n ≤ 999999999999999) : (dd n.natAbs).length ≤ 15 := dd_len 14 n.natAbs (by omega)
theorem q_Text_ev {n : Int} (sc : Nat) (hsc : sc ≤ 15) (h0 : -999999999999999 ≤ n) (h1 : n ≤ 999999999999999) : Ev (fun k => q_Text k (n, (sc : Int), ())) (numT n sc) := by
  have hl := abs_len h0 h1
  refine Ev.step (q_Text_eq · _) (Ev.bind ((q_Amount_ev _).eq (amount (by show (-1000000000000000 : Int) ≤ n; omega) (by show n ≤ 1000000000000000; omega))) (Ev.bind (b_Digits_ev n.natAbs (by omega)) ?_))
  exact q_Text_5_ev n sc hsc _ _ rfl (by omega)

theorem n_FormatNumber_14_ev (s : Str) (n : Int) (sc : Nat) (h : sc < s.length) (hs : s.length ≤ 20) : Ev (fun k => n_FormatNumber_14 k s n (sc : Int)) (signT n (pointT s sc), 0) := by
  refine Ev.step (n_FormatNumber_14_eq · _ _ _) ?_
  by_cases h0 : 0 < sc
  · have hw : w64 ((s.length : Int) - (sc : Int)) = ((s.length - sc : Nat) : Int) := by rw [w64_id (by omega) (by omega)]; omega
    have e1 : subL s 0 (w64 ((s.length : Int) - (sc : Int))) = some (s.take (s.length - sc)) := by
      rw [hw]
      have := subL_eq (xs := s) (a := 0) (b := s.length - sc) (by omega) (by omega)
      simpa using this
    have e2 : subL s (w64 ((s.length : Int) - (sc : Int))) (s.length : Int) = some (s.drop (s.length - sc)) := by
      rw [hw]
      have := subL_eq (xs := s) (a := s.length - sc) (b := s.length) (by omega) (by omega)
      simpa using this
    refine Ev.tt (by simpa using h0) (Ev.let e1 (Ev.let (catL_eq (by simp; omega)) (Ev.let e2 (Ev.let (catL_eq (by simp; omega)) ?_))))
    by_cases hn : n < 0
    · refine Ev.tt (by simpa using hn) (Ev.let (catL_eq (by simp; omega)) (Ev.ret.eq ?_))
      simp [signT, pointT, hn, h0]
    · refine Ev.ff (by simpa using hn) (Ev.ret.eq ?_)
      simp [signT, pointT, hn, h0]
  · refine Ev.ff (by simpa using h0) ?_
    by_cases hn : n < 0
    · refine Ev.tt (by simpa using hn) (Ev.let (catL_eq (by simp; omega)) (Ev.ret.eq ?_))
      simp [signT, pointT, hn, h0]
    · refine Ev.ff (by simpa using hn) (Ev.ret.eq ?_)
      simp [signT, pointT, hn, h0]
theorem repeatL_one' (b : UInt8) : ∀ n, Lib.repeatL [b] n = List.replicate n b := by
  intro n
  induction n with
  | zero => rfl
  | succ n ih => simp only [Lib.repeatL, ih, List.replicate_succ]; rfl
theorem n_FormatNumber_ev {n : Int} (sc : Nat) (hsc : sc ≤ 15) (h0 : -999999999999999 ≤ n) (h1 : n ≤ 999999999999999) : Ev (fun k => n_FormatNumber k (n, (sc : Int), ())) (numT n sc, 0) := by
  have hl := abs_len h0 h1
  have hC : Ev (fun k => n_CheckNumber k (n, (sc : Int), ())) 0 := by
    refine Ev.step (n_CheckNumber_eq · _) (Ev.bind ((n_in_ev _ _ _).eq ((inB_iff _ _ _).2 ⟨h0, h1⟩)) (Ev.bind (y := true) (Ev.tt rfl ((n_in_ev _ _ _).eq ((inB_iff _ _ _).2 ⟨by show (0 : Int) ≤ sc; omega, by show (sc : Int) ≤ 15; omega⟩))) (Ev.bind (n_cond_ev _ _) Ev.ret)))
  have hm : maxI n (negI .i64 n) = (n.natAbs : Int) := amount (by omega) (by omega)
  have hI := c_Itoa_ev n.natAbs (by omega)
  rw [← hm] at hI
  refine Ev.step (n_FormatNumber_eq · _) (Ev.bind hC (Ev.ff rfl (Ev.bind hI ?_)))
  by_cases h : (dd n.natAbs).length ≤ sc
  · have hR : Ev (fun k => s_Repeat k [48] (w64 (w64 ((sc : Int) + 1) - ((dd n.natAbs).length : Int)))) (List.replicate (sc + 1 - (dd n.natAbs).length) 48) := by
      refine Ev.ext (s_Repeat_eq · _ _) ?_
      rw [show w64 ((sc : Int) + 1) = (sc : Int) + 1 from w64_id (by omega) (by omega), show w64 ((sc : Int) + 1 - ((dd n.natAbs).length : Int)) = (sc : Int) + 1 - ((dd n.natAbs).length : Int) from w64_id (by omega) (by omega)]
      unfold xRepeat
      rw [if_pos ⟨by omega, by omega, by simp; omega⟩, repeatL_one']
      congr 2; omega
    refine Ev.tt (by simp; omega) (Ev.bind hR (Ev.let (catL_eq (by simp; omega)) ?_))
    exact n_FormatNumber_14_ev _ n sc (by rw [List.length_append, List.length_replicate]; omega) (by rw [List.length_append, List.length_replicate]; omega)
  · refine Ev.ff (by simp; omega) ?_
    have := n_FormatNumber_14_ev (dd n.natAbs) n sc (by omega) (by omega)
    refine this.eq ?_
    unfold numT
    rw [padZ_done (by omega)]
end Mini
