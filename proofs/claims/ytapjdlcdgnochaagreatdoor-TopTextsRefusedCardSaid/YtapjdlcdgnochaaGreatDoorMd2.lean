/- The plain law: what the equations answer, whatever the program. -/
import Derived.Test.YtapjdlcdgnochaaGreatDoorMd1
import Derived.Lib.Replace
import Derived.Lib.CountLaws
import Derived.Lib.Split
set_option linter.unusedSectionVars false
set_option linter.unusedSimpArgs false
set_option linter.unusedVariables false

/- The texts of values. -/
namespace Mini
open Go

/-! ### replacing -/
def R (old new s : Str) : Str := Lib.replaceK old new (Lib.count s old) s
theorem R_nil {old new : Str} (h : old ≠ []) : R old new [] = [] := by
  unfold R
  have : Lib.index [] old = -1 := by
    unfold Lib.index
    cases old with
    | nil => exact absurd rfl h
    | cons => rfl
  rw [Lib.count_miss this]; rfl
theorem index_skip {old m : Str} {c : UInt8} (h : old.isPrefixOf (c :: m) = false) : Lib.index (c :: m) old = if Lib.index m old == -1 then -1 else Lib.index m old + 1 := by
  rw [Lib.index, h]; rfl
theorem R_skip {old new m : Str} {c : UInt8} (hn : old ≠ []) (h : old.isPrefixOf (c :: m) = false) : R old new (c :: m) = c :: R old new m := by
  have hi := index_skip h
  unfold R
  by_cases hm : Lib.index m old = -1
  · rw [Lib.count_miss hm, Lib.count_miss (by rw [hi, hm]; rfl)]; rfl
  · have hge := Lib.index_ge m old
    obtain ⟨i, hi'⟩ : ∃ i : Nat, Lib.index m old = i := ⟨(Lib.index m old).toNat, by omega⟩
    have hi2 : Lib.index (c :: m) old = ((i + 1 : Nat) : Int) := by
      rw [hi, if_neg (by simpa using hm), hi']; rfl
    rw [Lib.count_hit hn hi', Lib.count_hit hn hi2]
    have e : (c :: m).drop (i + 1 + old.length) = m.drop (i + old.length) := by
      rw [show i + 1 + old.length = (i + old.length) + 1 by omega]; rfl
    rw [e, Nat.add_comm 1, Lib.replaceK_hit _ _ _ _ _ hi2, Lib.replaceK_hit _ _ _ _ _ hi', e]
    rfl
theorem R_hit {old new m : Str} (hn : old ≠ []) : R old new (old ++ m) = new ++ R old new m := by
  have hi : Lib.index (old ++ m) old = ((0 : Nat) : Int) := by
    cases old with
    | nil => exact absurd rfl hn
    | cons q l =>
      rw [List.cons_append, Lib.index, show (q :: l).isPrefixOf (q :: (l ++ m)) = true by
        rw [List.isPrefixOf_iff_prefix]; exact ⟨m, rfl⟩]
      rfl
  unfold R
  rw [Lib.count_hit hn hi, Nat.add_comm 1, Lib.replaceK_hit _ _ _ _ _ hi]
  simp
theorem replaceAll_R {old new : Str} (h : old ≠ new) (s : Str) : Lib.replaceAll s old new = R old new s := by
  unfold Lib.replaceAll Lib.replace Lib.replaceNum R
  rw [if_neg (by simpa using h), if_pos (.inl (by decide))]

def dbl : Str → Str
  | [] => []
  | c :: l => if c = 39 then 39 :: 39 :: dbl l else c :: dbl l
theorem R_dbl : ∀ s : Str, R [39] [39, 39] s = dbl s := by
  intro s
  induction s with
  | nil => exact R_nil (by simp)
  | cons c l ih =>
    by_cases h : c = 39
    · subst h
      rw [show (39 : UInt8) :: l = [39] ++ l from rfl, R_hit (by simp), ih]
      simp [dbl]
    · rw [R_skip (by simp) (by simp [List.isPrefixOf, Ne.symm h]), ih]
      simp [dbl, h]
theorem R_undbl : ∀ s : Str, R [39, 39] [39] (dbl s) = s := by
  intro s
  induction s with
  | nil => exact R_nil (by simp)
  | cons c l ih =>
    by_cases h : c = 39
    · subst h
      rw [show dbl (39 :: l) = [39, 39] ++ dbl l by simp [dbl], R_hit (by simp), ih]
      rfl
    · rw [show dbl (c :: l) = c :: dbl l by simp [dbl, h], R_skip (by simp) (by simp [List.isPrefixOf, Ne.symm h]), ih]
theorem dbl_len (s : Str) : (dbl s).length ≤ 2 * s.length := by
  induction s with
  | nil => simp [dbl]
  | cons c l ih => unfold dbl; split <;> simp <;> omega

def shownC (c : UInt8) : Bool := inB c.toNat 32 126
def hexD : Str := [48, 49, 50, 51, 52, 53, 54, 55, 56, 57, 65, 66, 67, 68, 69, 70]
def hexT : Str → Str
  | [] => []
  | c :: l => hexD.getD (c.toNat / 16) 0 :: hexD.getD (c.toNat % 16) 0 :: hexT l
theorem hexT_len (s : Str) : (hexT s).length = 2 * s.length := by
  induction s with
  | nil => rfl
  | cons c l ih => simp [hexT, ih]; omega
def valueT (t : DataType) (v : Val) : Str :=
  if t.1 = 0 then (if v.2.1.all shownC = true then 39 :: (dbl v.2.1 ++ [39]) else [88, 39] ++ hexT v.2.1 ++ [39]) else numT v.1 t.2.2.1.toNat

theorem byte_ops : ∀ n : _root_.Fin 256, shrI .u8 ((n.val : Nat) : Int) 4 = some ((n.val / 16 : Nat) : Int) ∧ andI .u8 ((n.val : Nat) : Int) 15 = ((n.val % 16 : Nat) : Int) ∧ quoI .u8 ((n.val : Nat) : Int) 16 = some ((n.val / 16 : Nat) : Int) ∧ remI ((n.val : Nat) : Int) 16 = some ((n.val % 16 : Nat) : Int) := by decide +kernel
theorem hex_rd (n : Nat) (h : n < 16) : rdb hexD (n : Int) = some ((hexD.getD n 0).toNat : Int) := by
  rw [rdb_nat]
  have : n = 0 ∨ n = 1 ∨ n = 2 ∨ n = 3 ∨ n = 4 ∨ n = 5 ∨ n = 6 ∨ n = 7 ∨ n = 8 ∨ n = 9 ∨ n = 10 ∨ n = 11 ∨ n = 12 ∨ n = 13 ∨ n = 14 ∨ n = 15 := by omega
  rcases this with rfl | rfl | rfl | rfl | rfl | rfl | rfl | rfl | rfl | rfl | rfl | rfl | rfl | rfl | rfl | rfl <;> rfl
theorem textT_bytesT (s : Str) : textT (bytesT s) = s := by
  unfold textT bytesT
  rw [List.map_map]
  refine (List.map_congr_left fun c _ => ?_).trans (List.map_id s)
  show UInt8.ofNat ((c.toNat : Int).toNat) = c
  rw [Int.toNat_natCast]
  exact UInt8.ofNat_toNat

variable [MX]
theorem x_IndexFunc3_5_ev : ∀ (suf pre : Str), (pre ++ suf).length < 1000000 → Ev (fun k => x_IndexFunc3_5 k (bytesT pre ++ bytesT suf) ((bytesT pre ++ bytesT suf).length : Int) ((bytesT pre).length : Int)) (fIdx (fun c => !shownC c) (bytesT pre).length suf) := by
  intro suf
  induction suf with
  | nil => intro pre _; exact Ev.step (x_IndexFunc3_5_eq · _ _ _) (Ev.ff (lt_end _) Ev.ret)
  | cons x suf ih =>
    intro pre hl
    rw [show bytesT (x :: suf) = (x.toNat : Int) :: bytesT suf from rfl]
    have hp : (bytesT pre).length + 1 ≤ 9223372036854775807 := by rw [bytesT_len]; simp at hl; omega
    refine Ev.step (x_IndexFunc3_5_eq · _ _ _) (Ev.tt (lt_mid _ _ _) (Ev.let (rd_mid _ _ _) (Ev.bind (y := !shownC x) (Ev.step (p_isShown_1_eq · _) (Ev.ret.eq ?_)) ?_)))
    · simp only [bsel_or, shownC, inB]
      rw [Bool.eq_iff_iff]
      simp only [Bool.or_eq_true, decide_eq_true_eq, Bool.not_eq_true', Bool.and_eq_false_iff, decide_eq_false_iff_not]
      omega
    · cases hs : shownC x with
      | false => exact Ev.tt rfl (Ev.ret.eq (by simp [fIdx, hs]))
      | true =>
        refine Ev.ff rfl ?_
        have hi := ih (pre ++ [x]) (by simpa using hl)
        rw [show bytesT (pre ++ [x]) = bytesT pre ++ [(x.toNat : Int)] by simp [bytesT]] at hi
        rw [next _ _ hp, mid_next (bytesT pre) _ (bytesT suf)]
        exact hi.eq (by simp [fIdx, hs])
theorem p_isShown_ev (s : Str) (h : s.length < 1000000) : Ev (fun k => p_isShown k s) (s.all shownC) := by
  have h1 := x_IndexFunc3_5_ev s [] h
  refine Ev.step (p_isShown_eq · s) (Ev.let (bytesL_eq h) (Ev.bind (Ev.step (x_ContainsFunc2_eq · _) (Ev.bind (Ev.step (x_IndexFunc3_eq · _) h1) Ev.ret)) (Ev.ret.eq ?_)))
  show nt (decide (0 ≤ fIdx (fun c => !shownC c) 0 s)) = _
  rcases fIdx_spec (fun c => !shownC c) s 0 with ⟨e1, e2⟩ | ⟨j, u, e1, e2, e3, _⟩
  · rw [e1]
    have : s.all shownC = true := List.all_eq_true.2 fun x hx => by simpa using e2 x hx
    rw [this]; rfl
  · rw [e3]
    have : s.all shownC = false := by
      rw [Bool.eq_false_iff]
      intro hh
      have := List.all_eq_true.1 hh u (List.mem_of_getElem? e1)
      rw [this] at e2; cases e2
    rw [this, nt_not]
    simp
theorem r_isPlain_5_ev : ∀ (suf pre : Str), (pre ++ suf).length < 1000000 → Ev (fun k => r_isPlain_5 k (pre ++ suf) (pre.length : Int)) (suf.all shownC) := by
  intro suf
  induction suf with
  | nil => intro pre _; exact Ev.step (r_isPlain_5_eq · _ _) (Ev.ff (lt_end pre) Ev.ret)
  | cons x suf ih =>
    intro pre hl
    have hp : pre.length + 1 ≤ 9223372036854775807 := by simp at hl; omega
    have hx : x.toNat < 256 := UInt8.toNat_lt x
    have hw : w64 ((x.toNat : Nat) : Int) = ((x.toNat : Nat) : Int) := w64_id (by omega) (by omega)
    refine Ev.step (r_isPlain_5_eq · _ _) (Ev.tt (lt_mid pre _ suf) (Ev.let (rdb_mid pre _ suf) ?_))
    rw [hw]
    refine Ev.bind (b_Within_ev _ _ _) ?_
    cases hs : shownC x with
    | false => 
      have hs' : inB (x.toNat : Int) 32 126 = false := hs
      exact Ev.tt (by rw [hs']; rfl) (Ev.ret.eq (by simp [hs]))
    | true =>
      have hs' : inB (x.toNat : Int) 32 126 = true := hs
      refine Ev.ff (by rw [hs']; rfl) ?_
      rw [next pre x hp, mid_next pre x suf]
      rw [mid_next pre _ suf] at hl
      exact (ih _ hl).eq (by simp [hs])
theorem r_isPlain_ev (s : Str) (h : s.length < 1000000) : Ev (fun k => r_isPlain k s) (s.all shownC) := Ev.step (r_isPlain_eq · s) (r_isPlain_5_ev s [] h)
theorem s_Replace_ev {s old new : Str} (h1 : old ≠ []) (h2 : old ≠ new) (h3 : s.length < 1000000) (h4 : new.length ≤ 2) : Ev (fun k => s_ReplaceAll k s old new) (R old new s) := by
  refine Ev.ext (s_ReplaceAll_eq · _ _ _) ?_
  unfold xReplaceAll
  have hc := Lib.countB_le ⟨⟨old⟩⟩ (show 1 ≤ ByteArray.size ⟨⟨old⟩⟩ from List.length_pos_iff.2 h1) s.length ⟨⟨s⟩⟩ (Nat.le_refl _)
  have hc' : Lib.countB ⟨⟨s⟩⟩ ⟨⟨old⟩⟩ ≤ s.length := hc
  have : Lib.countB ⟨⟨s⟩⟩ ⟨⟨old⟩⟩ * new.length ≤ s.length * 2 := Nat.mul_le_mul hc' h4
  rw [if_pos ⟨by omega, List.length_pos_iff.2 h1, by omega⟩, replaceAll_R h2]
end Mini

/- The texts of values and operands. -/
namespace Mini
open Go
variable [MX]

theorem textT_app (a b : List Int) : textT (a ++ b) = textT a ++ textT b := by simp [textT]
theorem textT_two (x y : UInt8) : textT [(x.toNat : Int), (y.toNat : Int)] = [x, y] := textT_bytesT [x, y]
theorem p_valueText_17_ev : ∀ (suf pre : Str) (out : List Int), (pre ++ suf).length < 1000000 → out.length ≤ 2 + 2 * pre.length → Ev (fun k => p_valueText_17 k out (bytesT pre ++ bytesT suf) ((bytesT pre ++ bytesT suf).length : Int) ((bytesT pre).length : Int)) (textT out ++ hexT suf ++ [39]) := by
  intro suf
  induction suf with
  | nil =>
    intro pre out hl ho
    have : pre.length < 1000000 := by simpa using hl
    refine Ev.step (p_valueText_17_eq · _ _ _ _) (Ev.ff (lt_end _) (Ev.let (catL_eq (by simp; omega)) (Ev.ret.eq ?_)))
    rw [textT_app]
    simp [hexT]
    rfl
  | cons x suf ih =>
    intro pre out hl ho
    rw [show bytesT (x :: suf) = (x.toNat : Int) :: bytesT suf from rfl]
    have hp : (bytesT pre).length + 1 ≤ 9223372036854775807 := by rw [bytesT_len]; simp at hl; omega
    have hpl : pre.length < 1000000 := by simp at hl; omega
    have hx : x.toNat < 256 := UInt8.toNat_lt x
    obtain ⟨b1, b2, _, _⟩ := byte_ops ⟨x.toNat, hx⟩
    simp only at b1 b2
    have r1 := hex_rd (x.toNat / 16) (by omega)
    have r2 := hex_rd (x.toNat % 16) (by omega)
    rw [← b2] at r2
    refine Ev.step (p_valueText_17_eq · _ _ _ _) (Ev.tt (lt_mid _ _ _) (Ev.let (rd_mid _ _ _) (Ev.let b1 (Ev.let r1 (Ev.let r2 (Ev.let (catL_eq (by simp; omega)) ?_))))))
    have hi := ih (pre ++ [x]) (out ++ [((hexD.getD (x.toNat / 16) 0).toNat : Int), ((hexD.getD (x.toNat % 16) 0).toNat : Int)]) (by simpa using hl) (by simp; omega)
    rw [show bytesT (pre ++ [x]) = bytesT pre ++ [(x.toNat : Int)] by simp [bytesT]] at hi
    rw [next _ _ hp, mid_next (bytesT pre) _ (bytesT suf)]
    refine hi.eq ?_
    rw [textT_app, textT_two]
    simp [hexT]
theorem p_valueText_ev {t : DataType} {v : Val} (h : ValueOK t v) : Ev (fun k => p_valueText k t v) (valueT t v) := by
  obtain ⟨hT, h4, hc, hn⟩ := h
  have hb := hT.bounds
  by_cases h0 : t.1 = 0
  · obtain ⟨q1, q2⟩ := hc h0
    have hl : v.2.1.length ≤ 256 := by omega
    have hd := dbl_len v.2.1
    cases hs : v.2.1.all shownC with
    | true =>
      refine Ev.step (p_valueText_eq · t v) (Ev.ff (by simp [h0]) (Ev.bind ((p_isShown_ev _ (by omega)).eq hs) (Ev.tt rfl (Ev.bind (s_Replace_ev (by simp) (by simp) (by omega) (by simp)) ?_))))
      rw [R_dbl]
      refine Ev.let (catL_eq (by simp; omega)) (Ev.let (catL_eq (by simp; omega)) (Ev.ret.eq ?_))
      unfold valueT; rw [if_pos h0, hs]; simp
    | false =>
      refine Ev.step (p_valueText_eq · t v) (Ev.ff (by simp [h0]) (Ev.bind ((p_isShown_ev _ (by omega)).eq hs) (Ev.ff rfl (Ev.let (bytesL_eq (by omega)) ?_))))
      refine (p_valueText_17_ev v.2.1 [] [88, 39] (by simpa using (show v.2.1.length < 1000000 by omega)) (by simp)).eq ?_
      unfold valueT; rw [if_pos h0, hs]; rfl
  · obtain ⟨q1, q2, q3⟩ := hn h0
    have hl15 : t.2.1.toNat ≤ 15 := by unfold TypeOK at hT; omega
    have hpw : (10 : Int) ^ t.2.1.toNat ≤ 1000000000000000 := by
      have : (10 : Nat) ^ t.2.1.toNat ≤ 10 ^ 15 := Nat.pow_le_pow_right (by decide) hl15
      have h2 : ((10 ^ t.2.1.toNat : Nat) : Int) ≤ ((10 ^ 15 : Nat) : Int) := by exact_mod_cast this
      simpa using h2
    have hF := n_FormatNumber_ev (n := v.1) t.2.2.1.toNat (by omega) (by omega) (by omega)
    rw [nat_of hb.2.2.2.2.1] at hF
    refine Ev.step (p_valueText_eq · t v) (Ev.tt (by simp [h0]) (Ev.bind hF (Ev.ret.eq ?_)))
    unfold valueT; rw [if_neg h0]

theorem r_hexDigits_7_ev : ∀ (suf pre : Str) (out : List Int), (pre ++ suf).length < 1000000 → out.length ≤ 2 * pre.length → Ev (fun k => r_hexDigits_7 k (pre ++ suf) out (pre.length : Int)) (textT out ++ hexT suf) := by
  intro suf
  induction suf with
  | nil => intro pre out _ _; exact Ev.step (r_hexDigits_7_eq · _ _ _) (Ev.ff (lt_end pre) (Ev.ret.eq (by simp [hexT])))
  | cons x suf ih =>
    intro pre out hl ho
    have hp : pre.length + 1 ≤ 9223372036854775807 := by simp at hl; omega
    have hpl : pre.length < 1000000 := by simp at hl; omega
    have hx : x.toNat < 256 := UInt8.toNat_lt x
    obtain ⟨_, _, b1, b2⟩ := byte_ops ⟨x.toNat, hx⟩
    simp only at b1 b2
    have r1 := hex_rd (x.toNat / 16) (by omega)
    have r2 := hex_rd (x.toNat % 16) (by omega)
    refine Ev.step (r_hexDigits_7_eq · _ _ _) (Ev.tt (lt_mid pre _ suf) (Ev.let (rdb_mid pre _ suf) (Ev.let b1 (Ev.let r1 (Ev.let (rdb_mid pre _ suf) (Ev.let b2 (Ev.let r2 (Ev.let (catL_eq (by simp; omega)) ?_))))))))
    rw [next pre x hp, mid_next pre x suf]
    rw [mid_next pre _ suf] at hl
    refine (ih _ _ hl (by simp; omega)).eq ?_
    rw [textT_app, textT_two]
    simp [hexT]
theorem r_valueText_15_ev (n : Int) : ∀ (suf pre out : Str), (pre ++ suf).length < 1000000 → out.length ≤ 1 + 2 * pre.length → Ev (fun k => r_valueText_15 k out (pre.length : Int) n (pre ++ suf)) (out ++ dbl suf ++ [39]) := by
  intro suf
  induction suf with
  | nil =>
    intro pre out hl ho
    have : pre.length < 1000000 := by simpa using hl
    exact Ev.step (r_valueText_15_eq · _ _ _ _) (Ev.ff (lt_end pre) (Ev.let (catL_eq (by simp; omega)) (Ev.ret.eq (by simp [dbl]))))
  | cons x suf ih =>
    intro pre out hl ho
    have hp : pre.length + 1 ≤ 9223372036854775807 := by simp at hl; omega
    have hpl : pre.length < 1000000 := by simp at hl; omega
    have hl2 := hl
    rw [mid_next pre _ suf] at hl2
    have hsub : subL (pre ++ x :: suf) (pre.length : Int) (w64 ((pre.length : Int) + 1)) = some [x] := by
      rw [w64_id (by omega) (by omega)]
      have := subL_eq (xs := pre ++ x :: suf) (a := pre.length) (b := pre.length + 1) (by omega) (by simp)
      rw [show ((pre.length : Nat) : Int) + 1 = ((pre.length + 1 : Nat) : Int) from rfl, this]
      simp [List.take_append]
    have step : ∀ o : Str, o.length ≤ 2 + 2 * pre.length → Ev (fun k => r_valueText_22 k o (pre.length : Int) n (pre ++ x :: suf)) (o ++ [x] ++ dbl suf ++ [39]) := by
      intro o ho
      refine Ev.step (r_valueText_22_eq · _ _ _ _) (Ev.let hsub (Ev.let (catL_eq (by simp; omega)) ?_))
      rw [next pre x hp, mid_next pre x suf]
      exact ih _ _ hl2 (by simp; omega)
    refine Ev.step (r_valueText_15_eq · _ _ _ _) (Ev.tt (lt_mid pre _ suf) (Ev.let (rdb_mid pre _ suf) ?_))
    by_cases hx : x = 39
    · subst hx
      refine Ev.tt rfl (Ev.let (catL_eq (by simp; omega)) ((step _ (by simp; omega)).eq ?_))
      simp [dbl]
    · have : ¬ ((x.toNat : Int) = 39) := fun h => by
        have h39 : x.toNat = 39 := by omega
        exact hx (UInt8.toNat_inj.1 h39)
      refine Ev.ff (by simpa using this) ((step _ (by omega)).eq ?_)
      simp [dbl, hx]
theorem r_valueText_ev {t : DataType} {v : Val} (h : ValueOK t v) : Ev (fun k => r_valueText k t v) (valueT t v) := by
  obtain ⟨hT, h4, hc, hn⟩ := h
  have hb := hT.bounds
  by_cases h0 : t.1 = 0
  · obtain ⟨q1, q2⟩ := hc h0
    have hl : v.2.1.length ≤ 256 := by omega
    cases hs : v.2.1.all shownC with
    | true =>
      refine Ev.step (r_valueText_eq · t v) (Ev.ff (by simp [h0]) (Ev.bind ((r_isPlain_ev _ (by omega)).eq hs) (Ev.ff rfl ?_)))
      refine (r_valueText_15_ev v.1 v.2.1 [] [39] (by simpa using (show v.2.1.length < 1000000 by omega)) (by simp)).eq ?_
      unfold valueT; rw [if_pos h0, hs]; simp
    | false =>
      have hh := hexT_len v.2.1
      have hx : Ev (fun k => r_hexDigits k v.2.1) (hexT v.2.1) := Ev.step (r_hexDigits_eq · _) ((r_hexDigits_7_ev v.2.1 [] [] (by simpa using (show v.2.1.length < 1000000 by omega)) (by simp)).eq (by simp [textT]))
      refine Ev.step (r_valueText_eq · t v) (Ev.ff (by simp [h0]) (Ev.bind ((r_isPlain_ev _ (by omega)).eq hs) (Ev.tt rfl (Ev.bind hx (Ev.let (catL_eq (by simp; omega)) (Ev.let (catL_eq (by simp; omega)) (Ev.ret.eq ?_)))))))
      unfold valueT; rw [if_pos h0, hs]; simp
  · obtain ⟨q1, q2, q3⟩ := hn h0
    have hl15 : t.2.1.toNat ≤ 15 := by unfold TypeOK at hT; omega
    have hpw : (10 : Int) ^ t.2.1.toNat ≤ 1000000000000000 := by
      have : (10 : Nat) ^ t.2.1.toNat ≤ 10 ^ 15 := Nat.pow_le_pow_right (by decide) hl15
      have h2 : ((10 ^ t.2.1.toNat : Nat) : Int) ≤ ((10 ^ 15 : Nat) : Int) := by exact_mod_cast this
      simpa using h2
    have hF := q_Text_ev (n := v.1) t.2.2.1.toNat (by omega) (by omega) (by omega)
    rw [nat_of hb.2.2.2.2.1] at hF
    refine Ev.step (r_valueText_eq · t v) (Ev.tt (by simp [h0]) (Ev.bind hF (Ev.ret.eq ?_)))
    unfold valueT; rw [if_neg h0]
end Mini

/- The lines of operands. -/
namespace Mini
open Go
variable [MX]

def sDD : Str := [68, 67, 76, 32, 68, 68, 32]
def sCON : Str := [68, 67, 76, 32, 67, 79, 78, 32]
def sPTR : Str := [68, 67, 76, 32, 80, 84, 82, 32]
def sLAB : Str := [68, 67, 76, 32, 76, 65, 66, 69, 76, 32]
def opLine (o : MiOperand) : Str :=
  if o.2.1 = 0 then sDD ++ (o.1 ++ 32 :: (typeT o.2.2.1 ++ [32, 73, 78, 73, 84, 40] ++ (valueT o.2.2.1 o.2.2.2.1 ++ [41])))
  else if o.2.1 = 1 then sDD ++ (o.1 ++ 32 :: (typeT o.2.2.1 ++ [32, 68, 69, 70, 40] ++ (o.2.2.2.2.1 ++ 44 :: (dd o.2.2.2.2.2.1.toNat ++ [41]))))
  else if o.2.1 = 2 then sDD ++ (o.1 ++ 32 :: (typeT o.2.2.1 ++ [32, 66, 65, 83, 40] ++ (o.2.2.2.2.1 ++ 44 :: (dd o.2.2.2.2.2.1.toNat ++ [41]))))
  else if o.2.1 = 3 then sPTR ++ o.1
  else if o.2.1 = 4 then sCON ++ (o.1 ++ 32 :: (typeT o.2.2.1 ++ [32, 73, 78, 73, 84, 40] ++ (valueT o.2.2.1 o.2.2.2.1 ++ [41])))
  else sLAB ++ (o.1 ++ 32 :: dd o.2.2.2.2.2.2.1.toNat)

theorem typeT_len {t : DataType} (hT : TypeOK t) (h4 : t.1 ≠ 4) : (typeT t).length ≤ 20 := by
  have hb := hT.bounds
  obtain ⟨s, h1, h2, h3⟩ := gTypes_small t.1.toNat (by omega)
  have l1 := dd_len3 (x := t.2.1) (by omega)
  have l2 := dd_len3 (x := t.2.2.1) (by omega)
  unfold typeT
  rw [h3]
  split <;> simp <;> omega
theorem numT_len (n : Int) (sc : Nat) (h : (dd n.natAbs).length ≤ 15) (hs : sc ≤ 15) : (numT n sc).length ≤ 20 := by
  have := padZ_len (dd n.natAbs) sc
  have hp : (pointT (padZ (dd n.natAbs) sc) sc).length ≤ 18 := by
    unfold pointT
    split
    · simp; omega
    · omega
  unfold numT signT
  split <;> simp <;> omega
theorem valueT_len {t : DataType} {v : Val} (h : ValueOK t v) : (valueT t v).length ≤ 520 := by
  obtain ⟨hT, h4, hc, hn⟩ := h
  have hb := hT.bounds
  unfold valueT
  by_cases h0 : t.1 = 0
  · rw [if_pos h0]
    have hl : v.2.1.length ≤ 256 := by have := (hc h0).2; omega
    have h1 := dbl_len v.2.1
    have h2 := hexT_len v.2.1
    split <;> simp <;> omega
  · rw [if_neg h0]
    obtain ⟨q1, q2, q3⟩ := hn h0
    have hl15 : t.2.1.toNat ≤ 15 := by unfold TypeOK at hT; omega
    have hpw : (10 : Int) ^ t.2.1.toNat ≤ 1000000000000000 := by
      have : (10 : Nat) ^ t.2.1.toNat ≤ 10 ^ 15 := Nat.pow_le_pow_right (by decide) hl15
      have h2 : ((10 ^ t.2.1.toNat : Nat) : Int) ≤ ((10 ^ 15 : Nat) : Int) := by exact_mod_cast this
      simpa using h2
    have := numT_len v.1 t.2.2.1.toNat (abs_len (by omega) (by omega)) (by omega)
    omega

/-- what an operand's line is made of -/
structure LineIn (o : MiOperand) : Prop where
  name : isNameB o.1 = true
  kind : 0 ≤ o.2.1 ∧ o.2.1 ≤ 5
  canon : Canon o
  type : dataK o.2.1 = true → TypeOK o.2.2.1 ∧ o.2.2.1.1 ≠ 4
  value : (o.2.1 = 0 ∨ o.2.1 = 4) → ValueOK o.2.2.1 o.2.2.2.1
  base : (o.2.1 = 1 ∨ o.2.1 = 2) → isNameB o.2.2.2.2.1 = true ∧ 0 ≤ o.2.2.2.2.2.1 ∧ o.2.2.2.2.2.1 ≤ 256
  target : o.2.1 = 5 → 0 ≤ o.2.2.2.2.2.2.1 ∧ o.2.2.2.2.2.2.1 ≤ 40

theorem Valid.line {p : MiProgram} (h : Valid p) : ∀ o ∈ p.1, LineIn o := by
  intro o ho
  obtain ⟨i, hi⟩ := List.getElem?_of_mem ho
  have hlt : i < p.1.length := (List.getElem?_eq_some_iff.1 hi).1
  obtain ⟨q1, q2, q3, q4, q5, q6, q7, q8⟩ := h.opr i o hlt hi
  refine ⟨q1, q3, q4, q5, q6, fun hk => ?_, fun hk => ?_⟩
  · obtain ⟨j, u, hj, hu, hx, h1, h2⟩ := q7 hk
    have hn : u.1 = o.2.2.2.2.1 := by
      rcases fIdx_spec (pName o.2.2.2.2.1) p.1 0 with ⟨e1, _⟩ | ⟨j', u', e1, e2, e3, _⟩
      · omega
      · have : j' = j := by omega
        subst this
        obtain rfl := Option.some.inj (hu.symm.trans e1)
        exact (eqS_iff _ _).1 e2
    refine ⟨hn ▸ h.names u (List.mem_of_getElem? hu), ?_⟩
    rcases hk with hk | hk
    · obtain ⟨g1, g2, g3⟩ := h1 hk
      have b1 := sizeD_bounds (h.opr.scal u (List.mem_of_getElem? hu) g1)
      have b2 := sizeD_bounds (q5 (by rw [hk]; rfl)).1
      omega
    · exact (h2 hk).2
  · have := q8 hk
    have := h.ins
    omega

theorem p_operandLine_ev {o : MiOperand} (h : LineIn o) : Ev (fun k => p_operandLine k o) (opLine o) := by
  obtain ⟨nm, kd, ty, vl, bs, off, tg, _⟩ := o
  obtain ⟨h1, h2, h3, h4, h5, h6, h7⟩ := h
  simp only at h1 h2 h4 h5 h6 h7
  have ln := (isName_len h1).2
  rcases kinds h2.1 h2.2 with h | h | h | h | h | h <;> subst h
  · obtain ⟨t1, t2⟩ := h4 rfl
    have lt := typeT_len t1 t2
    have lv := valueT_len (h5 (.inl rfl))
    exact Ev.step (p_operandLine_eq · _) (Ev.tt rfl (Ev.let (catL_eq (by simp; omega)) (Ev.let (catL_eq (by simp; omega)) (Ev.bind (p_typeText_ev t1 t2) (Ev.let (catL_eq (by simp; omega)) (Ev.let (catL_eq (by simp; omega)) (Ev.bind (p_valueText_ev (h5 (.inl rfl))) (Ev.let (catL_eq (by simp; omega)) (Ev.let (catL_eq (by simp; omega)) (Ev.ret.eq (by simp [opLine, sDD])))))))))))
  · obtain ⟨t1, t2⟩ := h4 rfl
    have lt := typeT_len t1 t2
    obtain ⟨b1, b2, b3⟩ := h6 (.inl rfl)
    have lb := (isName_len b1).2
    have ld := dd_len3 (x := off) (by omega)
    have hb18 : off < 1000000000000000000 := by omega
    exact Ev.step (p_operandLine_eq · _) (Ev.ff rfl (Ev.tt rfl (Ev.let (catL_eq (by simp; omega)) (Ev.let (catL_eq (by simp; omega)) (Ev.bind (p_typeText_ev t1 t2) (Ev.let (catL_eq (by simp; omega)) (Ev.let (catL_eq (by simp; omega)) (Ev.let (catL_eq (by simp; omega)) (Ev.let (catL_eq (by simp; omega)) (Ev.bind (c_Itoa_ev' b2 hb18) (Ev.let (catL_eq (by simp; omega)) (Ev.let (catL_eq (by simp; omega)) (Ev.ret.eq (by simp [opLine, sDD]))))))))))))))
  · obtain ⟨t1, t2⟩ := h4 rfl
    have lt := typeT_len t1 t2
    obtain ⟨b1, b2, b3⟩ := h6 (.inr rfl)
    have lb := (isName_len b1).2
    have ld := dd_len3 (x := off) (by omega)
    have hb18 : off < 1000000000000000000 := by omega
    exact Ev.step (p_operandLine_eq · _) (Ev.ff rfl (Ev.ff rfl (Ev.tt rfl (Ev.let (catL_eq (by simp; omega)) (Ev.let (catL_eq (by simp; omega)) (Ev.bind (p_typeText_ev t1 t2) (Ev.let (catL_eq (by simp; omega)) (Ev.let (catL_eq (by simp; omega)) (Ev.let (catL_eq (by simp; omega)) (Ev.let (catL_eq (by simp; omega)) (Ev.bind (c_Itoa_ev' b2 hb18) (Ev.let (catL_eq (by simp; omega)) (Ev.let (catL_eq (by simp; omega)) (Ev.ret.eq (by simp [opLine, sDD])))))))))))))))
  · exact Ev.step (p_operandLine_eq · _) (Ev.ff rfl (Ev.ff rfl (Ev.ff rfl (Ev.tt rfl (Ev.let (catL_eq (by simp; omega)) (Ev.ret.eq (by simp [opLine, sPTR])))))))
  · obtain ⟨t1, t2⟩ := h4 rfl
    have lt := typeT_len t1 t2
    have lv := valueT_len (h5 (.inr rfl))
    exact Ev.step (p_operandLine_eq · _) (Ev.ff rfl (Ev.ff rfl (Ev.ff rfl (Ev.ff rfl (Ev.tt rfl (Ev.let (catL_eq (by simp; omega)) (Ev.let (catL_eq (by simp; omega)) (Ev.bind (p_typeText_ev t1 t2) (Ev.let (catL_eq (by simp; omega)) (Ev.let (catL_eq (by simp; omega)) (Ev.bind (p_valueText_ev (h5 (.inr rfl))) (Ev.let (catL_eq (by simp; omega)) (Ev.let (catL_eq (by simp; omega)) (Ev.ret.eq (by simp [opLine, sCON])))))))))))))))
  · obtain ⟨b2, b3⟩ := h7 rfl
    have ld := dd_len3 (x := tg) (by omega)
    have hb18 : tg < 1000000000000000000 := by omega
    exact Ev.step (p_operandLine_eq · _) (Ev.ff rfl (Ev.ff rfl (Ev.ff rfl (Ev.ff rfl (Ev.ff rfl (Ev.let (catL_eq (by simp; omega)) (Ev.let (catL_eq (by simp; omega)) (Ev.bind (c_Itoa_ev' b2 hb18) (Ev.let (catL_eq (by simp; omega)) (Ev.ret.eq (by simp [opLine, sLAB])))))))))))
theorem r_operandText_ev {o : MiOperand} (h : LineIn o) : Ev (fun k => r_operandText k o) (opLine o) := by
  obtain ⟨nm, kd, ty, vl, bs, off, tg, _⟩ := o
  obtain ⟨h1, h2, h3, h4, h5, h6, h7⟩ := h
  simp only at h1 h2 h4 h5 h6 h7
  have ln := (isName_len h1).2
  rcases kinds h2.1 h2.2 with h | h | h | h | h | h <;> subst h
  · obtain ⟨t1, t2⟩ := h4 rfl
    have lt := typeT_len t1 t2
    have lv := valueT_len (h5 (.inl rfl))
    exact Ev.step (r_operandText_eq · _) (Ev.tt rfl (Ev.let (catL_eq (by simp; omega)) (Ev.let (catL_eq (by simp; omega)) (Ev.bind (r_typeText_ev t1 t2) (Ev.let (catL_eq (by simp; omega)) (Ev.let (catL_eq (by simp; omega)) (Ev.bind (r_valueText_ev (h5 (.inl rfl))) (Ev.let (catL_eq (by simp; omega)) (Ev.let (catL_eq (by simp; omega)) (Ev.ret.eq (by simp [opLine, sDD])))))))))))
  · obtain ⟨t1, t2⟩ := h4 rfl
    have lt := typeT_len t1 t2
    obtain ⟨b1, b2, b3⟩ := h6 (.inl rfl)
    have lb := (isName_len b1).2
    have ld := dd_len3 (x := off) (by omega)
    have hb18 : off < 1000000000000000000 := by omega
    exact Ev.step (r_operandText_eq · _) (Ev.ff rfl (Ev.tt rfl (Ev.let (catL_eq (by simp; omega)) (Ev.let (catL_eq (by simp; omega)) (Ev.bind (r_typeText_ev t1 t2) (Ev.let (catL_eq (by simp; omega)) (Ev.let (catL_eq (by simp; omega)) (Ev.let (catL_eq (by simp; omega)) (Ev.let (catL_eq (by simp; omega)) (Ev.bind (b_Digits_ev' b2 hb18) (Ev.let (catL_eq (by simp; omega)) (Ev.let (catL_eq (by simp; omega)) (Ev.ret.eq (by simp [opLine, sDD]))))))))))))))
  · obtain ⟨t1, t2⟩ := h4 rfl
    have lt := typeT_len t1 t2
    obtain ⟨b1, b2, b3⟩ := h6 (.inr rfl)
    have lb := (isName_len b1).2
    have ld := dd_len3 (x := off) (by omega)
    have hb18 : off < 1000000000000000000 := by omega
    exact Ev.step (r_operandText_eq · _) (Ev.ff rfl (Ev.ff rfl (Ev.tt rfl (Ev.let (catL_eq (by simp; omega)) (Ev.let (catL_eq (by simp; omega)) (Ev.bind (r_typeText_ev t1 t2) (Ev.let (catL_eq (by simp; omega)) (Ev.let (catL_eq (by simp; omega)) (Ev.let (catL_eq (by simp; omega)) (Ev.let (catL_eq (by simp; omega)) (Ev.bind (b_Digits_ev' b2 hb18) (Ev.let (catL_eq (by simp; omega)) (Ev.let (catL_eq (by simp; omega)) (Ev.ret.eq (by simp [opLine, sDD])))))))))))))))
  · exact Ev.step (r_operandText_eq · _) (Ev.ff rfl (Ev.ff rfl (Ev.ff rfl (Ev.tt rfl (Ev.let (catL_eq (by simp; omega)) (Ev.ret.eq (by simp [opLine, sPTR])))))))
  · obtain ⟨t1, t2⟩ := h4 rfl
    have lt := typeT_len t1 t2
    have lv := valueT_len (h5 (.inr rfl))
    exact Ev.step (r_operandText_eq · _) (Ev.ff rfl (Ev.ff rfl (Ev.ff rfl (Ev.ff rfl (Ev.tt rfl (Ev.let (catL_eq (by simp; omega)) (Ev.let (catL_eq (by simp; omega)) (Ev.bind (r_typeText_ev t1 t2) (Ev.let (catL_eq (by simp; omega)) (Ev.let (catL_eq (by simp; omega)) (Ev.bind (r_valueText_ev (h5 (.inr rfl))) (Ev.let (catL_eq (by simp; omega)) (Ev.let (catL_eq (by simp; omega)) (Ev.ret.eq (by simp [opLine, sCON])))))))))))))))
  · obtain ⟨b2, b3⟩ := h7 rfl
    have ld := dd_len3 (x := tg) (by omega)
    have hb18 : tg < 1000000000000000000 := by omega
    exact Ev.step (r_operandText_eq · _) (Ev.ff rfl (Ev.ff rfl (Ev.ff rfl (Ev.ff rfl (Ev.ff rfl (Ev.let (catL_eq (by simp; omega)) (Ev.let (catL_eq (by simp; omega)) (Ev.bind (b_Digits_ev' b2 hb18) (Ev.let (catL_eq (by simp; omega)) (Ev.ret.eq (by simp [opLine, sLAB])))))))))))
end Mini

/- The lines of instructions and monitors. -/
namespace Mini
open Go
variable [MX]

def insT (nm : Str) (ws : List Str) : Str := if ws = [] then nm else nm ++ 32 :: Lib.join ws [44]
def argNames (a : List MiOperand) (args : List Int) : List Str := args.map fun j => ((a[j.toNat]?).map (·.1)).getD []
def insLine (a : List MiOperand) (x : MiInstruction) : Str := insT (gNames.getD x.1.toNat []) (argNames a x.2.1)
def sMON : Str := [77, 79, 78, 73, 84, 79, 82]
def monLine (m : MiMonitor) : Str := sMON ++ 32 :: (dd m.1.toNat ++ 32 :: (dd m.2.1.toNat ++ 32 :: (dd m.2.2.1.toNat ++ 32 :: dd m.2.2.2.1.toNat)))

theorem p_monitorLine_ev {n : Nat} {m : MiMonitor} (hn : n ≤ 40) (h : MonOK n m) : Ev (fun k => p_monitorLine k m) (monLine m) := by
  obtain ⟨h1, h2, h3, h4, h5⟩ := h
  have l1 := dd_len3 (x := m.1) (by omega)
  have l2 := dd_len3 (x := m.2.1) (by omega)
  have l3 := dd_len3 (x := m.2.2.1) (by omega)
  have l4 := dd_len3 (x := m.2.2.2.1) (by omega)
  have i1 := c_Itoa_ev' (x := m.1) (by omega) (by omega)
  have i2 := c_Itoa_ev' (x := m.2.1) (by omega) (by omega)
  have i3 := c_Itoa_ev' (x := m.2.2.1) (by omega) (by omega)
  have i4 := c_Itoa_ev' (x := m.2.2.2.1) (by omega) (by omega)
  refine Ev.step (p_monitorLine_eq · _) ?_
  refine Ev.step (p_monitorLine_7_eq · _ _ _ _) (Ev.tt rfl (Ev.let rfl (Ev.bind i1 (Ev.let (catL_eq (by simp; omega)) (Ev.let (catL_eq (by simp; omega)) ?_)))))
  refine Ev.step (p_monitorLine_7_eq · _ _ _ _) (Ev.tt rfl (Ev.let rfl (Ev.bind i2 (Ev.let (catL_eq (by simp; omega)) (Ev.let (catL_eq (by simp; omega)) ?_)))))
  refine Ev.step (p_monitorLine_7_eq · _ _ _ _) (Ev.tt rfl (Ev.let rfl (Ev.bind i3 (Ev.let (catL_eq (by simp; omega)) (Ev.let (catL_eq (by simp; omega)) ?_)))))
  refine Ev.step (p_monitorLine_7_eq · _ _ _ _) (Ev.tt rfl (Ev.let rfl (Ev.bind i4 (Ev.let (catL_eq (by simp; omega)) (Ev.let (catL_eq (by simp; omega)) ?_)))))
  exact Ev.step (p_monitorLine_7_eq · _ _ _ _) (Ev.ff rfl (Ev.ret.eq (by simp [monLine, sMON])))

/-! ### instructions -/
def Small (ws : List Str) : Prop := ws.length ≤ 10 ∧ ∀ s ∈ ws, s.length ≤ 10
theorem join_len (sep : Str) (hs : sep.length ≤ 2) (n : Nat) : ∀ ws : List Str, (∀ s ∈ ws, s.length ≤ n) → (Lib.join ws sep).length ≤ (n + 2) * ws.length := by
  intro ws
  induction ws with
  | nil => intro _; rw [Lib.join_nil]; simp
  | cons x r ih =>
    intro h
    have hx := h x (by simp)
    have hr : (Lib.joinTail sep r).length ≤ (n + 2) * r.length := by
      clear ih
      unfold Lib.joinTail
      induction r with
      | nil => simp
      | cons y r ih =>
        have hy := h y (by simp)
        have := ih (fun s hs => by
          rcases List.mem_cons.1 hs with rfl | hs
          · exact hx
          · exact h s (by simp [hs]))
        simp only [List.map_cons, List.flatten_cons, List.length_append, List.length_cons, Nat.mul_add, Nat.mul_one]
        omega
    rw [Lib.join_cons, List.length_append, List.length_cons, Nat.mul_add, Nat.mul_one]
    omega
theorem s_Join_ev {ws : List Str} {sep : Str} (hs : sep.length ≤ 2) {n : Nat} (hn : n ≤ 1000) (h1 : ws.length ≤ 1000) (h2 : ∀ s ∈ ws, s.length ≤ n) : Ev (fun k => s_Join k ws sep) (Lib.join ws sep) := by
  refine Ev.ext (s_Join_eq · _ _) ?_
  have := join_len sep hs n ws h2
  have h3 : (n + 2) * ws.length ≤ 1002 * 1000 := Nat.mul_le_mul (by omega) h1
  unfold xJoin
  rw [if_pos ⟨by omega, by omega⟩]
theorem gNames_small (n : Nat) (h : n < 19) : ∃ s, gNames[n]? = some s ∧ s.length ≤ 9 ∧ gNames.getD n [] = s := by
  have h' : n = 0 ∨ n = 1 ∨ n = 2 ∨ n = 3 ∨ n = 4 ∨ n = 5 ∨ n = 6 ∨ n = 7 ∨ n = 8 ∨ n = 9 ∨ n = 10 ∨ n = 11 ∨ n = 12 ∨ n = 13 ∨ n = 14 ∨ n = 15 ∨ n = 16 ∨ n = 17 ∨ n = 18 := by omega
  rcases h' with rfl | rfl | rfl | rfl | rfl | rfl | rfl | rfl | rfl | rfl | rfl | rfl | rfl | rfl | rfl | rfl | rfl | rfl | rfl <;> exact ⟨_, rfl, by decide, rfl⟩
theorem p_instructionLine_ev {op : Nat} {ws : List Str} (hop : op < 19) (h : Small ws) : Ev (fun k => p_instructionLine k (op : Int) ws) (insT (gNames.getD op []) ws) := by
  obtain ⟨s, h1, h2, h3⟩ := gNames_small op hop
  have hr : rd gNames (op : Int) = some s := (rd_nat _ _).trans h1
  rw [h3]
  by_cases h0 : ws = []
  · subst h0
    exact Ev.step (p_instructionLine_eq · _ _) (Ev.tt rfl (Ev.let hr (Ev.ret.eq rfl)))
  · have hJ := s_Join_ev (ws := ws) (sep := [44]) (by decide) (n := 10) (by omega) (by have := h.1; omega) h.2
    have hl := join_len [44] (by decide) 10 ws h.2
    have h4 : (10 + 2) * ws.length ≤ 12 * 10 := Nat.mul_le_mul (by omega) h.1
    have hpos : 0 < ws.length := List.length_pos_iff.2 h0
    refine Ev.step (p_instructionLine_eq · _ _) (Ev.ff (by simp; omega) (Ev.let hr (Ev.let (catL_eq (by simp; omega)) (Ev.bind hJ (Ev.let (catL_eq (by simp; omega)) (Ev.ret.eq ?_))))))
    simp [insT, h0]

/-- the arguments of a right instruction -/
def ArgIn (a : List MiOperand) (args : List Int) : Prop := args.length ≤ 3 ∧ ∀ x ∈ args, ∃ (j : Nat) (o : MiOperand), x = (j : Int) ∧ a[j]? = some o ∧ o.1.length ≤ 10
theorem roles_len (op : Nat) : (rolesL.getD op []).length ≤ 3 := by
  by_cases h : op < 19
  · have h' : op = 0 ∨ op = 1 ∨ op = 2 ∨ op = 3 ∨ op = 4 ∨ op = 5 ∨ op = 6 ∨ op = 7 ∨ op = 8 ∨ op = 9 ∨ op = 10 ∨ op = 11 ∨ op = 12 ∨ op = 13 ∨ op = 14 ∨ op = 15 ∨ op = 16 ∨ op = 17 ∨ op = 18 := by omega
    rcases h' with rfl | rfl | rfl | rfl | rfl | rfl | rfl | rfl | rfl | rfl | rfl | rfl | rfl | rfl | rfl | rfl | rfl | rfl | rfl <;> decide
  · have : rolesL.getD op [] = [] := by
      rw [List.getD_eq_getElem?_getD, List.getElem?_eq_none (by show 19 ≤ op; omega)]; rfl
    rw [this]; decide
theorem ArgsOK.mem {a : List MiOperand} : ∀ {rs xs : List Int} {prev : Option MiOperand}, ArgsOK a prev rs xs → ∀ x ∈ xs, ∃ (j : Nat) (o : MiOperand), x = (j : Int) ∧ a[j]? = some o := by
  intro rs
  induction rs with
  | nil => intro xs prev h x hx; cases xs with
    | nil => cases hx
    | cons => exact h.elim
  | cons r rs ih =>
    intro xs prev h x hx
    cases xs with
    | nil => cases hx
    | cons y xs =>
      obtain ⟨j, o, h1, h2, _, h4⟩ := h
      rcases List.mem_cons.1 hx with rfl | hx
      · exact ⟨j, o, h1, h2⟩
      · exact ih h4 x hx
theorem Valid.args {p : MiProgram} (h : Valid p) : ∀ x ∈ p.2.1, (∃ op : Nat, op < 19 ∧ x.1 = (op : Int)) ∧ ArgIn p.1 x.2.1 := by
  intro x hx
  obtain ⟨op, h1, h2, h3, h4⟩ := h.inst x hx
  refine ⟨⟨op, h1, h2⟩, by have := roles_len op; omega, fun y hy => ?_⟩
  obtain ⟨j, o, e1, e2⟩ := h4.mem y hy
  exact ⟨j, o, e1, e2, (isName_len (h.names o (List.mem_of_getElem? e2))).2⟩
theorem argNames_small {a : List MiOperand} {args : List Int} (h : ArgIn a args) : Small (argNames a args) := by
  refine ⟨by have := h.1; simp [argNames]; omega, fun s hs => ?_⟩
  unfold argNames at hs
  obtain ⟨x, hx, rfl⟩ := List.mem_map.1 hs
  obtain ⟨j, o, rfl, e2, e3⟩ := h.2 x hx
  simp [e2, e3]
end Mini

/- The text of a program. -/
namespace Mini
open Go
variable [MX]

def txt (ls : List Str) : Str := (ls.map (· ++ [59, 10])).flatten
def lines (p : MiProgram) : List Str := p.1.map opLine ++ (p.2.1.map (insLine p.1) ++ p.2.2.1.map monLine)
def fmtR (ls : List Str) : Str × Int := if 6000 < (txt ls).length then ([], 2) else (txt ls, 0)
theorem txt_app (x y : List Str) : txt (x ++ y) = txt x ++ txt y := by simp [txt]
theorem txt_cons (x : Str) (y : List Str) : txt (x :: y) = x ++ [59, 10] ++ txt y := by simp [txt]
theorem join_txt : ∀ ls : List Str, ls ≠ [] → Lib.join ls [59, 10] ++ [59, 10] = txt ls := by
  intro ls
  cases ls with
  | nil => intro h; exact absurd rfl h
  | cons x r =>
    intro _
    rw [Lib.join_cons, txt_cons, List.append_assoc, List.append_assoc]
    congr 1
    induction r with
    | nil => rfl
    | cons y r ih =>
      rw [txt_cons, show Lib.joinTail [59, 10] (y :: r) = [59, 10] ++ y ++ Lib.joinTail [59, 10] r by simp [Lib.joinTail]]
      rw [List.append_assoc, List.append_assoc, ih (by simp)]
      simp

theorem opLine_len {o : MiOperand} (h : LineIn o) : (opLine o).length ≤ 600 := by
  obtain ⟨h1, h2, h3, h4, h5, h6, h7⟩ := h
  have ln := (isName_len h1).2
  unfold opLine
  rcases kinds h2.1 h2.2 with h | h | h | h | h | h
  · have lt := typeT_len (h4 (by rw [h]; rfl)).1 (h4 (by rw [h]; rfl)).2
    have lv := valueT_len (h5 (.inl h))
    simp [h, sDD]; omega
  · have lt := typeT_len (h4 (by rw [h]; rfl)).1 (h4 (by rw [h]; rfl)).2
    obtain ⟨b1, b2, b3⟩ := h6 (.inl h)
    have lb := (isName_len b1).2
    have ld := dd_len3 (x := o.2.2.2.2.2.1) (by omega)
    simp [h, sDD]; omega
  · have lt := typeT_len (h4 (by rw [h]; rfl)).1 (h4 (by rw [h]; rfl)).2
    obtain ⟨b1, b2, b3⟩ := h6 (.inr h)
    have lb := (isName_len b1).2
    have ld := dd_len3 (x := o.2.2.2.2.2.1) (by omega)
    simp [h, sDD]; omega
  · simp [h, sPTR]; omega
  · have lt := typeT_len (h4 (by rw [h]; rfl)).1 (h4 (by rw [h]; rfl)).2
    have lv := valueT_len (h5 (.inr h))
    simp [h, sCON]; omega
  · have ld := dd_len3 (x := o.2.2.2.2.2.2.1) (by have := h7 h; omega)
    simp [h, sLAB]; omega
theorem insT_len {op : Nat} (hop : op < 19) {ws : List Str} (h : Small ws) : (insT (gNames.getD op []) ws).length ≤ 600 := by
  obtain ⟨s, h1, h2, h3⟩ := gNames_small op hop
  have hl := join_len [44] (by decide) 10 ws h.2
  have h4 : (10 + 2) * ws.length ≤ 12 * 10 := Nat.mul_le_mul (by omega) h.1
  rw [h3]
  unfold insT
  split <;> simp <;> omega
theorem monLine_len {n : Nat} {m : MiMonitor} (hn : n ≤ 40) (h : MonOK n m) : (monLine m).length ≤ 600 := by
  obtain ⟨h1, h2, h3, h4, h5⟩ := h
  have l1 := dd_len3 (x := m.1) (by omega)
  have l2 := dd_len3 (x := m.2.1) (by omega)
  have l3 := dd_len3 (x := m.2.2.1) (by omega)
  have l4 := dd_len3 (x := m.2.2.2.1) (by omega)
  simp [monLine, sMON]; omega

section
variable {a : List MiOperand} {b : List MiInstruction} {c : List MiMonitor}
theorem p_FormatProgram_45_ev (hb : b.length ≤ 40) (hM : ∀ m ∈ c, MonOK b.length m) : ∀ (suf pre : List MiMonitor) (acc : List Str), pre ++ suf = c → c.length ≤ 6 → acc ≠ [] ∨ suf ≠ [] → acc.length + suf.length ≤ 100 → (∀ s ∈ acc, s.length ≤ 600) → Ev (fun k => p_FormatProgram_45 k acc c (c.length : Int) (pre.length : Int)) (fmtR (acc ++ suf.map monLine)) := by
  intro suf
  induction suf with
  | nil =>
    intro pre acc he hc hne hl hs
    have hlt : decide ((pre.length : Int) < (c.length : Int)) = false := by rw [← he]; exact lt_end pre
    have hacc : acc ≠ [] := hne.resolve_right (fun h => h rfl)
    have hJ := s_Join_ev (ws := acc) (sep := [59, 10]) (by decide) (n := 600) (by omega) (by omega) hs
    have hjl := join_len [59, 10] (by decide) 600 acc hs
    have h4 : (600 + 2) * acc.length ≤ 602 * 100 := Nat.mul_le_mul (by omega) (by omega)
    refine Ev.step (p_FormatProgram_45_eq · _ _ _ _) (Ev.ff hlt (Ev.bind hJ (Ev.let (catL_eq (by simp; omega)) ?_)))
    rw [join_txt acc hacc]
    simp only [List.map_nil, List.append_nil]
    by_cases h6 : 6000 < (txt acc).length
    · exact Ev.tt (by simp; omega) (Ev.ret.eq (by simp [fmtR, h6]))
    · exact Ev.ff (by simp; omega) (Ev.ret.eq (by simp [fmtR, h6]))
  | cons m suf ih =>
    intro pre acc he hc hne hl hs
    have hp : pre.length + 1 ≤ 9223372036854775807 := by rw [← he] at hc; simp at hc; omega
    have hlt : decide ((pre.length : Int) < (c.length : Int)) = true := by rw [← he]; exact lt_mid pre m suf
    have hrd : rd c (pre.length : Int) = some m := by rw [← he]; exact rd_mid pre m suf
    have hm := hM m (by rw [← he]; simp)
    have hi := ih (pre ++ [m]) (acc ++ [monLine m]) (by rw [← he]; simp) hc (.inl (by simp)) (by simp at hl ⊢; omega) (fun s h => by
      rcases List.mem_append.1 h with h | h
      · exact hs s h
      · rw [List.mem_singleton.1 h]; exact monLine_len hb hm)
    rw [← next pre m hp] at hi
    refine Ev.step (p_FormatProgram_45_eq · _ _ _ _) (Ev.tt hlt (Ev.let hrd (Ev.bind (p_monitorLine_ev hb hm) (Ev.let (catL_eq (by simp at hl ⊢; omega)) ?_))))
    exact hi.eq (by simp)
theorem p_FormatProgram_31_ev {z : Str × Int} {acc : List Str} {idx : Int} {op : Nat} {args : List Int} (hop : op < 19) (hA : ArgIn a args) (hacc : acc.length ≤ 100)
    (hk : Ev (fun k => p_FormatProgram_23 k (acc ++ [insT (gNames.getD op []) (argNames a args)]) b (b.length : Int) (w64 (idx + 1)) a b c) z) : ∀ (suf pre : List Int), pre ++ suf = args →
    Ev (fun k => p_FormatProgram_31 k acc (argNames a pre) b (b.length : Int) idx args (args.length : Int) (pre.length : Int) a b c (op : Int) args) z := by
  intro suf
  induction suf with
  | nil =>
    intro pre he
    have hlt : decide ((pre.length : Int) < (args.length : Int)) = false := by rw [← he]; exact lt_end pre
    have hpe : pre = args := by simpa using he
    rw [hpe] at hlt ⊢
    exact Ev.step (p_FormatProgram_31_eq · _ _ _ _ _ _ _ _ _ _ _ _ _) (Ev.ff hlt (Ev.bind (p_instructionLine_ev hop (argNames_small hA)) (Ev.let (catL_eq (by simp; omega)) hk)))
  | cons x suf ih =>
    intro pre he
    have hlen := hA.1
    have hp : pre.length + 1 ≤ 9223372036854775807 := by rw [← he] at hlen; simp at hlen; omega
    have hpl : pre.length < 3 := by rw [← he] at hlen; simp at hlen; omega
    have hlt : decide ((pre.length : Int) < (args.length : Int)) = true := by rw [← he]; exact lt_mid pre x suf
    have hrd : rd args (pre.length : Int) = some x := by rw [← he]; exact rd_mid pre x suf
    obtain ⟨j, o, hxj, e2, e3⟩ := hA.2 x (by rw [← he]; simp)
    have hi := ih (pre ++ [x]) (by rw [← he]; simp)
    have hn : argNames a (pre ++ [x]) = argNames a pre ++ [o.1] := by simp [argNames, hxj, e2]
    rw [hn, ← next pre x hp] at hi
    have hro : rd a x = some o := by rw [hxj, rd_nat]; exact e2
    exact Ev.step (p_FormatProgram_31_eq · _ _ _ _ _ _ _ _ _ _ _ _ _) (Ev.tt hlt (Ev.let hrd (Ev.let hro (Ev.let (catL_eq (by simp [argNames]; omega)) hi))))
theorem p_FormatProgram_23_ev (hb : b.length ≤ 40) (hc : c.length ≤ 6) (hM : ∀ m ∈ c, MonOK b.length m) (hA : ∀ x ∈ b, (∃ op : Nat, op < 19 ∧ x.1 = (op : Int)) ∧ ArgIn a x.2.1) : ∀ (suf pre : List MiInstruction) (acc : List Str), pre ++ suf = b → acc ≠ [] ∨ suf ≠ [] → acc.length + suf.length + c.length ≤ 100 → (∀ s ∈ acc, s.length ≤ 600) → Ev (fun k => p_FormatProgram_23 k acc b (b.length : Int) (pre.length : Int) a b c) (fmtR (acc ++ (suf.map (insLine a) ++ c.map monLine))) := by
  intro suf
  induction suf with
  | nil =>
    intro pre acc he hne hl hs
    have hlt : decide ((pre.length : Int) < (b.length : Int)) = false := by rw [← he]; exact lt_end pre
    exact Ev.step (p_FormatProgram_23_eq · _ _ _ _ _ _ _) (Ev.ff hlt (p_FormatProgram_45_ev hb hM c [] acc rfl hc (.inl (hne.resolve_right (fun h => h rfl))) (by simp at hl; omega) hs))
  | cons x suf ih =>
    intro pre acc he hne hl hs
    have hp : pre.length + 1 ≤ 9223372036854775807 := by rw [← he] at hb; simp at hb; omega
    have hlt : decide ((pre.length : Int) < (b.length : Int)) = true := by rw [← he]; exact lt_mid pre x suf
    have hrd : rd b (pre.length : Int) = some x := by rw [← he]; exact rd_mid pre x suf
    obtain ⟨⟨op, hop, hx⟩, hAx⟩ := hA x (by rw [← he]; simp)
    have hline : insLine a x = insT (gNames.getD op []) (argNames a x.2.1) := by simp [insLine, hx]
    have hi := ih (pre ++ [x]) (acc ++ [insLine a x]) (by rw [← he]; simp) (.inl (by simp)) (by simp at hl ⊢; omega) (fun s h => by
      rcases List.mem_append.1 h with h | h
      · exact hs s h
      · rw [List.mem_singleton.1 h, hline]; exact insT_len hop (argNames_small hAx))
    rw [← next pre x hp, hline] at hi
    have h31 := p_FormatProgram_31_ev (c := c) hop hAx (by simp at hl; omega) hi x.2.1 [] rfl
    rw [← hx] at h31
    refine Ev.step (p_FormatProgram_23_eq · _ _ _ _ _ _ _) (Ev.tt hlt (Ev.let hrd (h31.eq ?_)))
    rw [← hline]; simp
theorem p_FormatProgram_13_ev (hb : b.length ≤ 40) (hb0 : b.length ≠ 0) (hc : c.length ≤ 6) (hM : ∀ m ∈ c, MonOK b.length m) (hA : ∀ x ∈ b, (∃ op : Nat, op < 19 ∧ x.1 = (op : Int)) ∧ ArgIn a x.2.1) (hL : ∀ o ∈ a, LineIn o) (ha : a.length ≤ 24) : ∀ (suf pre : List MiOperand) (acc : List Str), pre ++ suf = a → acc.length + suf.length ≤ 50 → (∀ s ∈ acc, s.length ≤ 600) → Ev (fun k => p_FormatProgram_13 k acc a (a.length : Int) (pre.length : Int) a b c) (fmtR (acc ++ (suf.map opLine ++ (b.map (insLine a) ++ c.map monLine)))) := by
  intro suf
  induction suf with
  | nil =>
    intro pre acc he hl hs
    have hlt : decide ((pre.length : Int) < (a.length : Int)) = false := by rw [← he]; exact lt_end pre
    exact Ev.step (p_FormatProgram_13_eq · _ _ _ _ _ _ _) (Ev.ff hlt (p_FormatProgram_23_ev hb hc hM hA b [] acc rfl (.inr (fun h => hb0 (by rw [h]; rfl))) (by simp at hl; omega) hs))
  | cons o suf ih =>
    intro pre acc he hl hs
    have hp : pre.length + 1 ≤ 9223372036854775807 := by rw [← he] at ha; simp at ha; omega
    have hlt : decide ((pre.length : Int) < (a.length : Int)) = true := by rw [← he]; exact lt_mid pre o suf
    have hrd : rd a (pre.length : Int) = some o := by rw [← he]; exact rd_mid pre o suf
    have hLo := hL o (by rw [← he]; simp)
    have hi := ih (pre ++ [o]) (acc ++ [opLine o]) (by rw [← he]; simp) (by simp at hl ⊢; omega) (fun s h => by
      rcases List.mem_append.1 h with h | h
      · exact hs s h
      · rw [List.mem_singleton.1 h]; exact opLine_len hLo)
    rw [← next pre o hp] at hi
    refine Ev.step (p_FormatProgram_13_eq · _ _ _ _ _ _ _) (Ev.tt hlt (Ev.let hrd (Ev.bind (p_operandLine_ev hLo) (Ev.let (catL_eq (by simp at hl ⊢; omega)) ?_))))
    exact hi.eq (by simp)
end
theorem p_FormatProgram_ev {p : MiProgram} (h : Valid p) : Ev (fun k => p_FormatProgram k p) (fmtR (lines p)) := by
  refine Ev.step (p_FormatProgram_eq · p) (Ev.bind (p_programErr_ev h) (Ev.ff rfl ?_))
  exact p_FormatProgram_13_ev h.ins h.some_ h.mons h.mon h.args h.line h.ops p.1 [] [] rfl (by have := h.ops; simp; omega) (fun s hs => by cases hs)
end Mini

/- The reference's text of a program. -/
namespace Mini
open Go
variable [MX]

section
variable {a : List MiOperand} {b : List MiInstruction} {c : List MiMonitor}
theorem r_Format_41_ev (hb : b.length ≤ 40) (hM : ∀ m ∈ c, MonOK b.length m) : ∀ (suf pre : List MiMonitor) (out : Str), pre ++ suf = c → c.length ≤ 6 → out.length + 1000 * suf.length ≤ 1000000 → Ev (fun k => r_Format_41 k out (pre.length : Int) a b c) (out ++ txt (suf.map monLine)) := by
  intro suf
  induction suf with
  | nil =>
    intro pre out he _ _
    have hlt : decide ((pre.length : Int) < (c.length : Int)) = false := by rw [← he]; exact lt_end pre
    exact Ev.step (r_Format_41_eq · _ _ _ _ _) (Ev.ff hlt (Ev.ret.eq (by simp [txt])))
  | cons m suf ih =>
    intro pre out he hc hl
    have hp : pre.length + 1 ≤ 9223372036854775807 := by rw [← he] at hc; simp at hc; omega
    have hlt : decide ((pre.length : Int) < (c.length : Int)) = true := by rw [← he]; exact lt_mid pre m suf
    have hrd : rd c (pre.length : Int) = some m := by rw [← he]; exact rd_mid pre m suf
    have hm := hM m (by rw [← he]; simp)
    have hml := monLine_len hb hm
    obtain ⟨h1, h2, h3, h4, h5⟩ := hm
    have l1 := dd_len3 (x := m.1) (by omega)
    have l2 := dd_len3 (x := m.2.1) (by omega)
    have l3 := dd_len3 (x := m.2.2.1) (by omega)
    have l4 := dd_len3 (x := m.2.2.2.1) (by omega)
    have i1 := b_Digits_ev' (x := m.1) (by omega) (by omega)
    have i2 := b_Digits_ev' (x := m.2.1) (by omega) (by omega)
    have i3 := b_Digits_ev' (x := m.2.2.1) (by omega) (by omega)
    have i4 := b_Digits_ev' (x := m.2.2.2.1) (by omega) (by omega)
    rw [List.length_cons] at hl
    have hi := ih (pre ++ [m]) (out ++ (monLine m ++ [59, 10])) (by rw [← he]; simp) hc (by simp; omega)
    rw [← next pre m hp] at hi
    refine Ev.step (r_Format_41_eq · _ _ _ _ _) (Ev.tt hlt (Ev.let hrd (Ev.let (catL_eq (by simp; omega)) (Ev.bind i1 (Ev.let (catL_eq (by simp; omega)) (Ev.let (catL_eq (by simp; omega)) (Ev.bind i2 (Ev.let (catL_eq (by simp; omega)) (Ev.let (catL_eq (by simp; omega)) (Ev.bind i3 (Ev.let (catL_eq (by simp; omega)) (Ev.let (catL_eq (by simp; omega)) (Ev.bind i4 (Ev.let (catL_eq (by simp; omega)) (Ev.let (catL_eq (by simp; omega)) ?_)))))))))))))))
    have e : out ++ [77, 79, 78, 73, 84, 79, 82, 32] ++ dd m.1.toNat ++ [32] ++ dd m.2.1.toNat ++ [32] ++ dd m.2.2.1.toNat ++ [32] ++ dd m.2.2.2.1.toNat ++ [59, 10] = out ++ (monLine m ++ [59, 10]) := by simp [monLine, sMON]
    rw [e]
    refine hi.eq ?_
    rw [List.map_cons, txt_cons]
    simp

/-- what stands behind the name of an operation -/
def tailT (a : List MiOperand) (s1 s2 : List Int) : Str := match s2 with
  | [] => []
  | _ :: _ => (if s1 = [] then [32] else [44]) ++ Lib.join (argNames a s2) [44]
theorem r_Format_25_ev {z : Str} {idx op : Int} {args : List Int} (hA : ArgIn a args) : ∀ (suf pre : List Int) (out : Str), pre ++ suf = args → out.length + 100 * suf.length ≤ 1100000 →
    Ev (fun k => r_Format_15 k (out ++ tailT a pre suf ++ [59, 10]) (w64 (idx + 1)) a b c) z → Ev (fun k => r_Format_25 k out idx (pre.length : Int) a b c op args) z := by
  intro suf
  induction suf with
  | nil =>
    intro pre out he hl hk
    have hlt : decide ((pre.length : Int) < (args.length : Int)) = false := by rw [← he]; exact lt_end pre
    refine Ev.step (r_Format_25_eq · _ _ _ _ _ _ _ _) (Ev.ff hlt (Ev.let (catL_eq (by simp at hl ⊢; omega)) ?_))
    simpa [tailT] using hk
  | cons x suf ih =>
    intro pre out he hl hk
    have hlen := hA.1
    have hp : pre.length + 1 ≤ 9223372036854775807 := by rw [← he] at hlen; simp at hlen; omega
    have hlt : decide ((pre.length : Int) < (args.length : Int)) = true := by rw [← he]; exact lt_mid pre x suf
    have hrd : rd args (pre.length : Int) = some x := by rw [← he]; exact rd_mid pre x suf
    obtain ⟨j, o, hxj, e2, e3⟩ := hA.2 x (by rw [← he]; simp)
    have hro : rd a x = some o := by rw [hxj, rd_nat]; exact e2
    rw [List.length_cons] at hl
    have go : ∀ by_ : Str, by_.length ≤ 1 → by_ = (if pre = [] then [32] else [44]) → Ev (fun k => r_Format_34 k out idx (pre.length : Int) by_ a b c op args) z := by
      intro by_ hby hb
      refine Ev.step (r_Format_34_eq · _ _ _ _ _ _ _ _ _) (Ev.let (catL_eq (by omega)) (Ev.let hrd (Ev.let hro (Ev.let (catL_eq (by simp; omega)) ?_))))
      rw [next pre x hp]
      refine ih (pre ++ [x]) (out ++ by_ ++ o.1) (by rw [← he]; simp) (by simp; omega) ?_
      have e : out ++ by_ ++ o.1 ++ tailT a (pre ++ [x]) suf = out ++ tailT a pre (x :: suf) := by
        have hn : argNames a (x :: suf) = o.1 :: argNames a suf := by simp [argNames, hxj, e2]
        unfold tailT
        simp only
        rw [hn, Lib.join_cons, ← hb]
        cases suf with
        | nil => simp [argNames, Lib.joinTail]
        | cons y suf =>
          simp only [List.append_eq_nil_iff, List.cons_ne_nil, and_false, if_false]
          have hn2 : ∃ q qs, argNames a (y :: suf) = q :: qs := ⟨_, _, rfl⟩
          obtain ⟨q, qs, hq⟩ := hn2
          rw [hq, Lib.join_cons]
          simp [Lib.joinTail]
      rw [e]; exact hk
    refine Ev.step (r_Format_25_eq · _ _ _ _ _ _ _ _) (Ev.tt hlt ?_)
    by_cases h0 : pre = []
    · exact Ev.tt (by simp [h0]) (go [32] (by decide) (by rw [if_pos h0]))
    · have : ¬ ((pre.length : Int) = 0) := fun h => h0 (List.eq_nil_of_length_eq_zero (by omega))
      exact Ev.ff (by simpa using this) (go [44] (by decide) (by rw [if_neg h0]))
theorem r_Format_15_ev (hb : b.length ≤ 40) (hc : c.length ≤ 6) (hM : ∀ m ∈ c, MonOK b.length m) (hA : ∀ x ∈ b, (∃ op : Nat, op < 19 ∧ x.1 = (op : Int)) ∧ ArgIn a x.2.1) : ∀ (suf pre : List MiInstruction) (out : Str), pre ++ suf = b → out.length + 1000 * (suf.length + c.length) ≤ 1000000 → Ev (fun k => r_Format_15 k out (pre.length : Int) a b c) (out ++ txt (suf.map (insLine a) ++ c.map monLine)) := by
  intro suf
  induction suf with
  | nil =>
    intro pre out he hl
    have hlt : decide ((pre.length : Int) < (b.length : Int)) = false := by rw [← he]; exact lt_end pre
    exact Ev.step (r_Format_15_eq · _ _ _ _ _) (Ev.ff hlt (r_Format_41_ev hb hM c [] out rfl hc (by simp at hl; omega)))
  | cons x suf ih =>
    intro pre out he hl
    have hp : pre.length + 1 ≤ 9223372036854775807 := by rw [← he] at hb; simp at hb; omega
    have hlt : decide ((pre.length : Int) < (b.length : Int)) = true := by rw [← he]; exact lt_mid pre x suf
    have hrd : rd b (pre.length : Int) = some x := by rw [← he]; exact rd_mid pre x suf
    obtain ⟨⟨op, hop, hx⟩, hAx⟩ := hA x (by rw [← he]; simp)
    obtain ⟨s, s1, s2, s3⟩ := gNames_small op hop
    have hrn : rd gNames x.1 = some s := by rw [hx, rd_nat]; exact s1
    have hline : insLine a x = s ++ tailT a [] x.2.1 := by
      have e1 : insLine a x = insT s (argNames a x.2.1) := by unfold insLine; rw [hx, Int.toNat_natCast, s3]
      rw [e1]
      unfold insT tailT
      cases hq : x.2.1 with
      | nil => simp [argNames]
      | cons y ys => simp [argNames]
    have hll : (insLine a x).length ≤ 600 := by
      have e1 : insLine a x = insT (gNames.getD op []) (argNames a x.2.1) := by simp [insLine, hx]
      rw [e1]; exact insT_len hop (argNames_small hAx)
    rw [List.length_cons] at hl
    have hi := ih (pre ++ [x]) (out ++ (insLine a x ++ [59, 10])) (by rw [← he]; simp) (by simp; omega)
    rw [← next pre x hp] at hi
    have hN : Ev (fun k => r_names k) gNames := Ev.step (r_names_eq ·) Ev.ret
    refine Ev.step (r_Format_15_eq · _ _ _ _ _) (Ev.tt hlt (Ev.let hrd (Ev.bind hN (Ev.let hrn (Ev.let (catL_eq (by omega)) ?_)))))
    refine r_Format_25_ev hAx x.2.1 [] (out ++ s) rfl (by have := hAx.1; simp; omega) ?_
    have e : out ++ s ++ tailT a [] x.2.1 ++ [59, 10] = out ++ (insLine a x ++ [59, 10]) := by rw [hline]; simp
    rw [e]
    refine hi.eq ?_
    rw [List.map_cons, List.cons_append, txt_cons]
    simp
theorem r_Format_7_ev (hb : b.length ≤ 40) (hc : c.length ≤ 6) (ha : a.length ≤ 24) (hM : ∀ m ∈ c, MonOK b.length m) (hA : ∀ x ∈ b, (∃ op : Nat, op < 19 ∧ x.1 = (op : Int)) ∧ ArgIn a x.2.1) (hL : ∀ o ∈ a, LineIn o) : ∀ (suf pre : List MiOperand) (out : Str), pre ++ suf = a → out.length + 1000 * (suf.length + b.length + c.length) ≤ 1000000 → Ev (fun k => r_Format_7 k out (pre.length : Int) a b c) (out ++ txt (suf.map opLine ++ (b.map (insLine a) ++ c.map monLine))) := by
  intro suf
  induction suf with
  | nil =>
    intro pre out he hl
    have hlt : decide ((pre.length : Int) < (a.length : Int)) = false := by rw [← he]; exact lt_end pre
    exact Ev.step (r_Format_7_eq · _ _ _ _ _) (Ev.ff hlt (r_Format_15_ev hb hc hM hA b [] out rfl (by simp at hl; omega)))
  | cons o suf ih =>
    intro pre out he hl
    have hp : pre.length + 1 ≤ 9223372036854775807 := by rw [← he] at ha; simp at ha; omega
    have hlt : decide ((pre.length : Int) < (a.length : Int)) = true := by rw [← he]; exact lt_mid pre o suf
    have hrd : rd a (pre.length : Int) = some o := by rw [← he]; exact rd_mid pre o suf
    have hLo := hL o (by rw [← he]; simp)
    have hll := opLine_len hLo
    rw [List.length_cons] at hl
    have hi := ih (pre ++ [o]) (out ++ opLine o ++ [59, 10]) (by rw [← he]; simp) (by simp; omega)
    rw [← next pre o hp] at hi
    refine Ev.step (r_Format_7_eq · _ _ _ _ _) (Ev.tt hlt (Ev.let hrd (Ev.bind (r_operandText_ev hLo) (Ev.let (catL_eq (by omega)) (Ev.let (catL_eq (by simp; omega)) ?_)))))
    refine hi.eq ?_
    rw [List.map_cons, List.cons_append, txt_cons]
    simp
end
theorem r_Format_ev {p : MiProgram} (h : Valid p) : Ev (fun k => r_Format k p) (txt (lines p)) := by
  have := h.ops; have := h.ins; have := h.mons
  exact Ev.step (r_Format_eq · p) (r_Format_7_ev h.ins h.mons h.ops h.mon h.args h.line p.1 [] [] rfl (by simp; omega))
end Mini

/- Cutting texts. -/
namespace Mini
open Go

theorem index_past {sub l : Str} {b : UInt8} (h : sub.isPrefixOf (b :: l) = false) {i : Nat} (hi : Lib.index l sub = (i : Int)) : Lib.index (b :: l) sub = ((i + 1 : Nat) : Int) := by
  rw [index_skip h, if_neg (by rw [hi]; simp), hi]; rfl
theorem index_one_hit {c : UInt8} : ∀ (x y : Str), c ∉ x → Lib.index (x ++ c :: y) [c] = (x.length : Int) := by
  intro x y
  induction x with
  | nil => intro _; rw [List.nil_append, Lib.index]; simp [List.isPrefixOf]
  | cons b x ih =>
    intro h
    have hb : c ≠ b := fun e => h (by simp [e])
    exact index_past (by simp [List.isPrefixOf, hb]) (ih (fun e => h (List.mem_cons_of_mem _ e)))
theorem index_one_miss {c : UInt8} : ∀ (x : Str), c ∉ x → Lib.index x [c] = -1 := by
  intro x
  induction x with
  | nil => intro _; rfl
  | cons b x ih =>
    intro h
    have hb : c ≠ b := fun e => h (by simp [e])
    rw [index_skip (by simp [List.isPrefixOf, hb]), ih (fun e => h (List.mem_cons_of_mem _ e))]; rfl
theorem index_two_hit : ∀ (x y : Str), (10 : UInt8) ∉ x → Lib.index (x ++ 59 :: 10 :: y) [59, 10] = (x.length : Int) := by
  intro x y
  induction x with
  | nil => intro _; rw [List.nil_append, Lib.index]; simp [List.isPrefixOf]
  | cons b x ih =>
    intro h
    refine index_past ?_ (ih (fun e => h (List.mem_cons_of_mem _ e)))
    cases x with
    | nil => simp [List.isPrefixOf]
    | cons d x =>
      have hd : (10 : UInt8) ≠ d := fun e => h (by simp [e])
      simp [List.isPrefixOf, hd]
theorem index_two_miss : ∀ (x : Str), (10 : UInt8) ∉ x → Lib.index x [59, 10] = -1 := by
  intro x
  induction x with
  | nil => intro _; rfl
  | cons b x ih =>
    intro h
    rw [index_skip ?_, ih (fun e => h (List.mem_cons_of_mem _ e))]; rfl
    cases x with
    | nil => simp [List.isPrefixOf]
    | cons d x =>
      have hd : (10 : UInt8) ≠ d := fun e => h (by simp [e])
      simp [List.isPrefixOf, hd]

variable [MX]
theorem s_Cut_hit {s sep x y : Str} (hs : s.length < 1000000) (he : s = x ++ sep ++ y) (hi : Lib.index s sep = (x.length : Int)) : Ev (fun k => s_Cut k s sep) (x, y, true) := by
  refine Ev.ext (s_Cut_eq · _ _) ?_
  unfold xCut Lib.cut
  rw [if_pos (by omega), hi, if_pos (by omega)]
  subst he
  have e1 : (x ++ sep ++ y).take x.length = x := by rw [List.append_assoc, List.take_left']; rfl
  have e2 : (x ++ sep ++ y).drop (x.length + sep.length) = y := by rw [← List.length_append]; exact List.drop_left' rfl
  simp only [Int.toNat_natCast, e1, e2]
theorem s_Cut_miss {s sep : Str} (hs : s.length < 1000000) (hi : Lib.index s sep = -1) : Ev (fun k => s_Cut k s sep) (s, [], false) := by
  refine Ev.ext (s_Cut_eq · _ _) ?_
  unfold xCut Lib.cut
  rw [if_pos (by omega), hi, if_neg (by decide)]
theorem cut_one {c : UInt8} {x y : Str} (hs : (x ++ c :: y).length < 1000000) (h : c ∉ x) : Ev (fun k => s_Cut k (x ++ c :: y) [c]) (x, y, true) := s_Cut_hit hs (by simp) (index_one_hit x y h)
theorem cut_one_miss {c : UInt8} {x : Str} (hs : x.length < 1000000) (h : c ∉ x) : Ev (fun k => s_Cut k x [c]) (x, [], false) := s_Cut_miss hs (index_one_miss x h)
theorem cut_line {x y : Str} (hs : (x ++ 59 :: 10 :: y).length < 1000000) (h : (10 : UInt8) ∉ x) : Ev (fun k => s_Cut k (x ++ 59 :: 10 :: y) [59, 10]) (x, y, true) := s_Cut_hit hs (by simp) (index_two_hit x y h)
/-- whatever the text, a cut ends, its parts no longer -/
theorem s_Cut_any (s sep : Str) (hs : s.length < 1000000) : ∃ x y b, Ev (fun k => s_Cut k s sep) (x, y, b) ∧ x.length ≤ s.length ∧ y.length ≤ s.length ∧ (∀ c ∈ x, c ∈ s) ∧ (∀ c ∈ y, c ∈ s) := by
  refine ⟨_, _, _, Ev.ext (s_Cut_eq · _ _) (by unfold xCut; rw [if_pos (by omega)]), ?_⟩
  unfold Lib.cut
  split
  · refine ⟨by simp; omega, by simp, fun c hc => List.mem_of_mem_take hc, fun c hc => List.mem_of_mem_drop hc⟩
  · exact ⟨Nat.le_refl _, Nat.zero_le _, fun c hc => hc, fun c hc => by cases hc⟩
end Mini

/- Types read back. -/
namespace Mini
open Go
variable [MX]

theorem s_CutSuffix_ev (s p : Str) (h : s.length < 1000000) : Ev (fun k => s_CutSuffix k s p) (Lib.trimSuffix s p, Lib.hasSuffix s p) := by
  refine Ev.ext (s_CutSuffix_eq · _ _) ?_
  unfold xCutSuffix
  rw [if_pos (by omega)]
theorem trimSuffix_len (s p : Str) : (Lib.trimSuffix s p).length ≤ s.length := by
  unfold Lib.trimSuffix
  split
  · simp
  · exact Nat.le_refl _
theorem trimSuffix_mem {s p : Str} {c : UInt8} (h : c ∈ Lib.trimSuffix s p) : c ∈ s := by
  unfold Lib.trimSuffix at h
  split at h
  · exact List.mem_of_mem_take h
  · exact h
theorem suffix_hit (x p : Str) : Lib.trimSuffix (x ++ p) p = x ∧ Lib.hasSuffix (x ++ p) p = true := by
  have h : Lib.hasSuffix (x ++ p) p = true := by
    unfold Lib.hasSuffix
    rw [List.isSuffixOf_iff_suffix]
    exact ⟨x, rfl⟩
  refine ⟨?_, h⟩
  unfold Lib.trimSuffix
  rw [if_pos h]
  simp
theorem types_idx (v : Str) : fIdx (fun x => eqS v x) 0 gTypes = -1 ∨ ∃ n : Nat, n < 4 ∧ fIdx (fun x => eqS v x) 0 gTypes = (n : Int) := by
  rcases fIdx_spec (fun x => eqS v x) gTypes 0 with ⟨h, _⟩ | ⟨j, u, h1, _, h3, _⟩
  · exact .inl h
  · have : j < gTypes.length := (List.getElem?_eq_some_iff.1 h1).1
    exact .inr ⟨j, this, by simpa using h3⟩

/-- whatever the text, reading a type ends -/
theorem p_typeOf_any (s : Str) (h : s.length < 1000000) : ∃ t ok, Ev (fun k => p_typeOf k s) (t, ok) ∧ (ok = true → ∃ n l c : Nat, n < 4 ∧ t = ((n : Int), (l : Int), (c : Int), ()) ∧ l < 1000000000000000000 ∧ c < 1000000000000000000) := by
  obtain ⟨x, y, b, c1, c2, c3, _, _⟩ := s_Cut_any s [40] h
  have hI := x_Index_ev gTypes x (by decide)
  have hS := s_CutSuffix_ev y [41] (by omega)
  have hl := trimSuffix_len y [41]
  rcases types_idx x with hx | ⟨n, hn, hx⟩
  · exact ⟨_, false, Ev.step (p_typeOf_eq · _) (Ev.bind c1 (Ev.bind (hI.eq hx) (Ev.bind hS (Ev.tt rfl Ev.ret)))), fun h => by cases h⟩
  · cases hc : Lib.hasSuffix y [41] with
    | false => exact ⟨_, false, Ev.step (p_typeOf_eq · _) (Ev.bind c1 (Ev.bind (hI.eq hx) (Ev.bind hS (Ev.tt (by simp [bsel_or, hc, nt_not]) Ev.ret)))), fun h => by cases h⟩
    | true =>
      have cf : bsel (decide ((n : Int) < 0)) true (nt (Lib.hasSuffix y [41])) = false := by
        rw [bsel_or, hc, nt_tt, Bool.or_false]
        exact decide_eq_false (by omega)
      by_cases h0 : n = 0
      · subst h0
        obtain ⟨v, ok, n1, n2⟩ := p_natural_ev (Lib.trimSuffix y [41]) (by omega)
        refine ⟨_, ok, Ev.step (p_typeOf_eq · _) (Ev.bind c1 (Ev.bind (hI.eq hx) (Ev.bind hS (Ev.ff cf (Ev.tt rfl (Ev.bind n1 Ev.ret)))))), fun h => ?_⟩
        obtain ⟨m, rfl, _, hm⟩ := n2 h
        exact ⟨0, m, 0, by decide, rfl, hm, by decide⟩
      · obtain ⟨x2, y2, b2, d1, d2, d3, _, _⟩ := s_Cut_any (Lib.trimSuffix y [41]) [44] (by omega)
        obtain ⟨v1, ok1, n1, n2⟩ := p_natural_ev x2 (by omega)
        obtain ⟨v2, ok2, m1, m2⟩ := p_natural_ev y2 (by omega)
        refine ⟨_, _, Ev.step (p_typeOf_eq · _) (Ev.bind c1 (Ev.bind (hI.eq hx) (Ev.bind hS (Ev.ff cf (Ev.ff (by simp; omega) (Ev.bind d1 (Ev.bind n1 (Ev.bind m1 Ev.ret)))))))), fun h => ?_⟩
        rw [bsel_and, Bool.and_eq_true] at h
        obtain ⟨q1, rfl, _, hq1⟩ := n2 h.1
        obtain ⟨q2, rfl, _, hq2⟩ := m2 h.2
        exact ⟨n, q1, q2, hn, rfl, hq1, hq2⟩

theorem not_mem_digits {n : Nat} {c : UInt8} (h : c.toNat < 48 ∨ 57 < c.toNat) : c ∉ dd n := fun hc => by
  have := dd_digits n c hc
  omega
/-- the text of a type reads as the type -/
theorem p_typeOf_ev {t : DataType} (hT : TypeOK t) (h4 : t.1 ≠ 4) : Ev (fun k => p_typeOf k (typeT t)) (t, true) := by
  have hb := hT.bounds
  have hlen := typeT_len hT h4
  obtain ⟨a, l, s, _⟩ := t
  simp only at hb h4 hlen
  obtain ⟨n, rfl⟩ := Int.eq_ofNat_of_zero_le hb.1
  obtain ⟨l, rfl⟩ := Int.eq_ofNat_of_zero_le hb.2.2.1
  obtain ⟨s, rfl⟩ := Int.eq_ofNat_of_zero_le hb.2.2.2.2.1
  have hn : n < 4 := by omega
  have key : ∃ w : Str, gTypes.getD n [] = w ∧ (40 : UInt8) ∉ w ∧ fIdx (fun x => eqS w x) 0 gTypes = (n : Int) := by
    have : n = 0 ∨ n = 1 ∨ n = 2 ∨ n = 3 := by omega
    rcases this with rfl | rfl | rfl | rfl <;> exact ⟨_, rfl, by decide, by decide⟩
  obtain ⟨w, w1, w2, w3⟩ := key
  have hI := (x_Index_ev gTypes w (by decide)).eq w3
  have cf : ∀ y : Str, bsel (decide ((n : Int) < 0)) true (nt (Lib.hasSuffix (y ++ [41]) [41])) = false := fun y => by
    rw [bsel_or, (suffix_hit y [41]).2, nt_tt, Bool.or_false]
    exact decide_eq_false (by omega)
  by_cases h0 : n = 0
  · subst h0
    have e : typeT (((0 : Nat) : Int), (l : Int), (s : Int), ()) = w ++ 40 :: (dd l ++ [41]) := by
      unfold typeT; simp [w1]; rw [← w1]; rfl
    rw [e] at hlen ⊢
    have hs : s = 0 := by unfold TypeOK at hT; simp only at hT; omega
    have hS := s_CutSuffix_ev (dd l ++ [41]) [41] (by simp at hlen ⊢; omega)
    rw [(suffix_hit (dd l) [41]).1] at hS
    refine Ev.step (p_typeOf_eq · _) (Ev.bind (cut_one (by omega) w2) (Ev.bind hI (Ev.bind hS (Ev.ff (cf _) (Ev.tt rfl (Ev.bind (p_natural_dd l (by omega)) (Ev.ret.eq ?_)))))))
    rw [hs]; rfl
  · have e : typeT ((n : Int), (l : Int), (s : Int), ()) = w ++ 40 :: ((dd l ++ 44 :: dd s) ++ [41]) := by
      unfold typeT
      simp only [Int.toNat_natCast, w1]
      rw [if_neg (by omega)]
      simp
    rw [e] at hlen ⊢
    have hS := s_CutSuffix_ev ((dd l ++ 44 :: dd s) ++ [41]) [41] (by simp at hlen ⊢; omega)
    rw [(suffix_hit (dd l ++ 44 :: dd s) [41]).1] at hS
    have hC := cut_one (c := 44) (x := dd l) (y := dd s) (by simp at hlen ⊢; omega) (not_mem_digits (by decide))
    exact Ev.step (p_typeOf_eq · _) (Ev.bind (cut_one (by omega) w2) (Ev.bind hI (Ev.bind hS (Ev.ff (cf _) (Ev.ff (by simp; omega) (Ev.bind hC (Ev.bind (p_natural_dd l (by omega)) (Ev.bind (p_natural_dd s (by omega)) Ev.ret))))))))
end Mini

/- Hexadecimal digits read back. -/
namespace Mini
open Go

theorem nib_ops : ∀ a b : _root_.Fin 16, shlI .i64 ((a.val : Nat) : Int) 4 = some ((a.val * 16 : Nat) : Int) ∧ IntKind.u8.wrap (orI .i64 ((a.val * 16 : Nat) : Int) ((b.val : Nat) : Int)) = ((a.val * 16 + b.val : Nat) : Int) := by decide +kernel
theorem hex_idx : ∀ c : _root_.Fin 256, Lib.indexByte hexD (UInt8.ofNat c.val) = -1 ∨ (0 ≤ Lib.indexByte hexD (UInt8.ofNat c.val) ∧ Lib.indexByte hexD (UInt8.ofNat c.val) < 16) := by decide +kernel
theorem hex_back : ∀ a : _root_.Fin 16, Lib.indexByte hexD (hexD.getD a.val 0) = ((a.val : Nat) : Int) := by decide +kernel

variable [MX]
theorem s_IndexByte_ev (s : Str) (c : UInt8) : Ev (fun k => s_IndexByte k s (c.toNat : Int)) (Lib.indexByte s c) := by
  refine Ev.ext (s_IndexByte_eq · _ _) ?_
  unfold xIndexByte
  rw [Int.toNat_natCast]
  congr 2
  exact UInt8.ofNat_toNat
theorem idx_hex (c : UInt8) : Lib.indexByte hexD c = -1 ∨ ∃ a : _root_.Fin 16, Lib.indexByte hexD c = ((a.val : Nat) : Int) := by
  have h := hex_idx ⟨c.toNat, UInt8.toNat_lt c⟩
  rw [show UInt8.ofNat c.toNat = c from UInt8.ofNat_toNat] at h
  rcases h with h | ⟨h1, h2⟩
  · exact .inl h
  · obtain ⟨n, hn⟩ := Int.eq_ofNat_of_zero_le h1
    exact .inr ⟨⟨n, by omega⟩, hn⟩

theorem textT_len (l : List Int) : (textT l).length = l.length := by simp [textT]
theorem p_bytesOf_5_any : ∀ (n : Nat) (s : Str) (out : List Int), s.length ≤ n → s.length + out.length < 1000000 → ∃ b ok, Ev (fun k => p_bytesOf_5 k s out) (b, ok) ∧ b.length ≤ s.length + out.length := by
  intro n
  induction n with
  | zero =>
    intro s out h _
    have : s = [] := List.eq_nil_of_length_eq_zero (by omega)
    subst this
    exact ⟨_, _, Ev.step (p_bytesOf_5_eq · _ _) (Ev.ff rfl Ev.ret), by rw [textT_len]; omega⟩
  | succ n ih =>
    intro s out h hl
    match s, h, hl with
    | [], _, _ => exact ⟨_, _, Ev.step (p_bytesOf_5_eq · _ _) (Ev.ff rfl Ev.ret), by rw [textT_len]; omega⟩
    | [x], _, _ => exact ⟨_, _, Ev.step (p_bytesOf_5_eq · _ _) (Ev.ff rfl Ev.ret), by rw [textT_len]; omega⟩
    | x :: y :: r, h, hl =>
      have c0 : decide ((2 : Int) ≤ ((x :: y :: r).length : Int)) = true := by simp; omega
      have r0 : rdb (x :: y :: r) 0 = some (x.toNat : Int) := rfl
      have r1 : rdb (x :: y :: r) 1 = some (y.toNat : Int) := rfl
      have i0 := s_IndexByte_ev hexD x
      have i1 := s_IndexByte_ev hexD y
      rcases idx_hex x with hx | ⟨a, hx⟩
      · exact ⟨_, _, Ev.step (p_bytesOf_5_eq · _ _) (Ev.tt c0 (Ev.let r0 (Ev.bind (i0.eq hx) (Ev.let r1 (Ev.bind i1 (Ev.tt rfl Ev.ret)))))), Nat.zero_le _⟩
      · rcases idx_hex y with hy | ⟨b, hy⟩
        · refine ⟨_, _, Ev.step (p_bytesOf_5_eq · _ _) (Ev.tt c0 (Ev.let r0 (Ev.bind (i0.eq hx) (Ev.let r1 (Ev.bind (i1.eq hy) (Ev.tt ?_ Ev.ret)))))), Nat.zero_le _⟩
          simp [bsel_or]
        · obtain ⟨n1, n2⟩ := nib_ops a b
          have hs : subL (x :: y :: r) 2 ((x :: y :: r).length : Int) = some r := by
            have := subL_eq (xs := x :: y :: r) (a := 2) (b := (x :: y :: r).length) (by simp) (Nat.le_refl _)
            simpa using this
          obtain ⟨bb, ok, hi, hbl⟩ := ih r (out ++ [((a.val * 16 + b.val : Nat) : Int)]) (by simp at h; omega) (by simp at hl ⊢; omega)
          refine ⟨bb, ok, Ev.step (p_bytesOf_5_eq · _ _) (Ev.tt c0 (Ev.let r0 (Ev.bind (i0.eq hx) (Ev.let r1 (Ev.bind (i1.eq hy) (Ev.ff ?_ (Ev.let n1 (Ev.let (catL_eq (by simp at hl ⊢; omega)) (Ev.let hs ?_))))))))), by simp at hbl ⊢; omega⟩
          · rw [bsel_or, Bool.or_eq_false_iff]
            exact ⟨decide_eq_false (by omega), decide_eq_false (by omega)⟩
          · rw [n2]; exact hi
theorem p_bytesOf_any (s : Str) (h : s.length < 1000000) : ∃ b ok, Ev (fun k => p_bytesOf k s) (b, ok) ∧ b.length ≤ s.length := by
  obtain ⟨b, ok, hb, hl⟩ := p_bytesOf_5_any s.length s [] (Nat.le_refl _) (by simpa using h)
  exact ⟨b, ok, Ev.step (p_bytesOf_eq · s) hb, by simpa using hl⟩
theorem p_bytesOf_5_ev : ∀ (s : Str) (out : List Int), 2 * s.length + out.length < 1000000 → Ev (fun k => p_bytesOf_5 k (hexT s) out) (textT (out ++ bytesT s), true) := by
  intro s
  induction s with
  | nil => intro out _; exact Ev.step (p_bytesOf_5_eq · _ _) (Ev.ff rfl (Ev.ret.eq (by simp [bytesT, hexT, eqS])))
  | cons c s ih =>
    intro out hl
    have hc := UInt8.toNat_lt c
    have hlen := hexT_len s
    have b0 := hex_back ⟨c.toNat / 16, by omega⟩
    have b1 := hex_back ⟨c.toNat % 16, by omega⟩
    obtain ⟨n1, n2⟩ := nib_ops ⟨c.toNat / 16, by omega⟩ ⟨c.toNat % 16, by omega⟩
    simp only at b0 b1 n1 n2
    have e : c.toNat / 16 * 16 + c.toNat % 16 = c.toNat := by omega
    rw [e] at n2
    have hT : hexT (c :: s) = hexD.getD (c.toNat / 16) 0 :: hexD.getD (c.toNat % 16) 0 :: hexT s := rfl
    rw [hT]
    have c0 : decide ((2 : Int) ≤ ((hexD.getD (c.toNat / 16) 0 :: hexD.getD (c.toNat % 16) 0 :: hexT s).length : Int)) = true := by simp; omega
    have hs : subL (hexD.getD (c.toNat / 16) 0 :: hexD.getD (c.toNat % 16) 0 :: hexT s) 2 ((hexD.getD (c.toNat / 16) 0 :: hexD.getD (c.toNat % 16) 0 :: hexT s).length : Int) = some (hexT s) := by
      have := subL_eq (xs := hexD.getD (c.toNat / 16) 0 :: hexD.getD (c.toNat % 16) 0 :: hexT s) (a := 2) (b := (hexD.getD (c.toNat / 16) 0 :: hexD.getD (c.toNat % 16) 0 :: hexT s).length) (by simp) (Nat.le_refl _)
      rw [show ((2 : Nat) : Int) = 2 from rfl] at this
      rw [this, List.take_length]; rfl
    have i0 := (s_IndexByte_ev hexD (hexD.getD (c.toNat / 16) 0)).eq b0
    have i1 := (s_IndexByte_ev hexD (hexD.getD (c.toNat % 16) 0)).eq b1
    refine Ev.step (p_bytesOf_5_eq · _ _) (Ev.tt c0 (Ev.let rfl (Ev.bind i0 (Ev.let rfl (Ev.bind i1 (Ev.ff ?_ (Ev.let n1 (Ev.let (catL_eq (by simp at hl ⊢; omega)) (Ev.let hs ?_)))))))))
    · rw [bsel_or, Bool.or_eq_false_iff]
      exact ⟨decide_eq_false (by omega), decide_eq_false (by omega)⟩
    · rw [n2]
      refine (ih _ (by simp at hl ⊢; omega)).eq ?_
      simp [bytesT]
theorem p_bytesOf_ev (s : Str) (h : 2 * s.length < 1000000) : Ev (fun k => p_bytesOf k (hexT s)) (s, true) :=
  Ev.step (p_bytesOf_eq · _) ((p_bytesOf_5_ev s [] (by simpa using h)).eq (by simp [textT_bytesT]))
end Mini

/- Runs of digits. -/
namespace Mini
open Go
variable [MX]

def digC (c : UInt8) : Bool := inB c.toNat 48 57
theorem n_isDigit_mid (pre : Str) (x : UInt8) (suf : Str) : Ev (fun k => n_isDigit k (pre ++ x :: suf) (pre.length : Int)) (digC x) := by
  have h := lt_mid pre x suf
  have hr := rdb_mid pre x suf
  refine Ev.step (n_isDigit_eq · _ _) (Ev.bind (y := (x.toNat : Int)) (Ev.tt h ⟨0, fun _ _ => hr⟩) ?_)
  by_cases h48 : (48 : Int) ≤ x.toNat
  · have e : (decide ((48 : Int) ≤ (x.toNat : Int))) = true := decide_eq_true h48
    refine Ev.bind (y := (x.toNat : Int)) (Ev.tt (by rw [h, e]; rfl) ⟨0, fun _ _ => hr⟩) (Ev.ret.eq ?_)
    rw [h, e]; simp [digC, inB, h48, bsel]
  · have e : (decide ((48 : Int) ≤ (x.toNat : Int))) = false := decide_eq_false h48
    refine Ev.bind (y := 0) (Ev.ff (by rw [h, e]; rfl) Ev.ret) (Ev.ret.eq ?_)
    rw [h, e]; simp [digC, inB, h48, bsel]
theorem n_isDigit_end (pre : Str) : Ev (fun k => n_isDigit k (pre ++ []) (pre.length : Int)) false := by
  have h := lt_end pre
  refine Ev.step (n_isDigit_eq · _ _) (Ev.bind (y := 0) (Ev.ff h Ev.ret) (Ev.bind (y := 0) (Ev.ff (by rw [h]; rfl) Ev.ret) (Ev.ret.eq ?_)))
  rw [h]; rfl
theorem n_run_11_ev : ∀ (suf pre : Str), (pre ++ suf).length < 1000000 → Ev (fun k => n_run_11 k (pre ++ suf) (pre.length : Int)) (((pre.length + (suf.takeWhile digC).length : Nat) : Int), 0) := by
  intro suf
  induction suf with
  | nil => intro pre _; exact Ev.step (n_run_11_eq · _ _) (Ev.bind (n_isDigit_end pre) (Ev.ff rfl (Ev.ret.eq (by simp))))
  | cons x suf ih =>
    intro pre hl
    have hp : pre.length + 1 ≤ 9223372036854775807 := by simp at hl; omega
    refine Ev.step (n_run_11_eq · _ _) (Ev.bind (n_isDigit_mid pre x suf) ?_)
    cases hx : digC x with
    | false => exact Ev.ff rfl (Ev.ret.eq (by simp [hx]))
    | true =>
      refine Ev.tt rfl ?_
      rw [next pre x hp, mid_next pre x suf]
      rw [mid_next pre _ suf] at hl
      refine (ih _ hl).eq ?_
      simp [hx]; omega
/-- a run of digits: none (an error), or where it ends -/
theorem n_run_ev (pre suf : Str) (hl : (pre ++ suf).length < 1000000) : Ev (fun k => n_run k (pre ++ suf) (pre.length : Int)) (if (suf.takeWhile digC) = [] then ((pre.length : Int), if suf = [] then 9 else 8) else (((pre.length + (suf.takeWhile digC).length : Nat) : Int), 0)) := by
  cases suf with
  | nil => exact Ev.step (n_run_eq · _ _) (Ev.bind (n_isDigit_end pre) (Ev.tt rfl (Ev.ff (lt_end pre) (Ev.ret.eq (by simp)))))
  | cons x suf =>
    refine Ev.step (n_run_eq · _ _) (Ev.bind (n_isDigit_mid pre x suf) ?_)
    cases hx : digC x with
    | false => exact Ev.tt rfl (Ev.tt (lt_mid pre x suf) (Ev.ret.eq (by simp [hx])))
    | true => exact Ev.ff rfl ((n_run_11_ev (x :: suf) pre hl).eq (by simp [hx]))
end Mini

/- The layout of a numeral. -/
namespace Mini
open Go
variable [MX]

def lay6 (p : Nat) (suf : Str) : Int × Int × Int :=
  if suf.takeWhile digC = [] then (0, (p : Int), if suf = [] then 9 else 8)
  else if (suf.takeWhile digC).head? = some 48 ∧ 1 < (suf.takeWhile digC).length then (0, ((p + 1 : Nat) : Int), 8)
  else match suf.dropWhile digC with
    | [] => ((p : Int), ((p + (suf.takeWhile digC).length : Nat) : Int), 0)
    | c :: r => if c ≠ 46 then (0, ((p + (suf.takeWhile digC).length : Nat) : Int), 8)
      else if r.takeWhile digC = [] then (0, ((p + (suf.takeWhile digC).length + 1 : Nat) : Int), if r = [] then 9 else 8)
      else if (r.takeWhile digC).length < r.length then (0, ((p + (suf.takeWhile digC).length + 1 + (r.takeWhile digC).length : Nat) : Int), 8)
      else ((p : Int), ((p + (suf.takeWhile digC).length : Nat) : Int), 0)

theorem n_layout_6_ev (pre suf : Str) (hl : (pre ++ suf).length < 1000000) : Ev (fun k => n_layout_6 k (pre ++ suf) (pre.length : Int)) (lay6 pre.length suf) := by
  have hr := n_run_ev pre suf hl
  have hsplit : suf.takeWhile digC ++ suf.dropWhile digC = suf := List.takeWhile_append_dropWhile
  have hpl : pre.length < 1000000 := by simp at hl; omega
  unfold lay6
  generalize hD : suf.takeWhile digC = D at *
  generalize hR : suf.dropWhile digC = Rr at *
  by_cases h0 : D = []
  · rw [if_pos h0] at hr ⊢
    refine Ev.step (n_layout_6_eq · _ _) (Ev.bind hr (Ev.tt ?_ Ev.ret))
    split <;> rfl
  · rw [if_neg h0] at hr ⊢
    obtain ⟨d, D', rfl⟩ : ∃ d D', D = d :: D' := by
      cases D with
      | nil => exact absurd rfl h0
      | cons d D' => exact ⟨d, D', rfl⟩
    have hs : suf = d :: (D' ++ Rr) := by rw [← hsplit]; rfl
    have hlen : pre.length + (D'.length + 1) + Rr.length < 1000000 := by rw [hs] at hl; simp at hl; omega
    have hd : rdb (pre ++ suf) (pre.length : Int) = some (d.toNat : Int) := by rw [hs]; exact rdb_mid pre d _
    have hw : w64 ((pre.length : Int) + 1) = ((pre.length + 1 : Nat) : Int) := by rw [w64_id (by omega) (by omega)]; rfl
    have h48 : ((d.toNat : Int) = 48) ↔ d = 48 := by
      constructor
      · intro h
        have h' : d.toNat = 48 := by omega
        exact UInt8.toNat_inj.1 h'
      · intro h; subst h; rfl
    refine Ev.step (n_layout_6_eq · _ _) (Ev.bind hr (Ev.ff rfl (Ev.let hd ?_)))
    rw [hw]
    by_cases hz : d = 48 ∧ 1 < (d :: D').length
    · rw [if_pos ⟨by simp [hz.1], hz.2⟩]
      refine Ev.tt ?_ Ev.ret
      rw [bsel_and, Bool.and_eq_true, decide_eq_true_eq, decide_eq_true_eq]
      refine ⟨h48.2 hz.1, ?_⟩
      have := hz.2
      omega
    · rw [if_neg (by simpa using hz)]
      refine Ev.ff ?_ ?_
      · rw [bsel_and, Bool.and_eq_false_iff, decide_eq_false_iff_not, decide_eq_false_iff_not, h48]
        by_cases h1 : d = 48
        · right
          have : ¬ 1 < (d :: D').length := fun h => hz ⟨h1, h⟩
          omega
        · exact .inl h1
      · cases Rr with
        | nil =>
          refine Ev.tt ?_ Ev.ret
          rw [decide_eq_true_eq, hs]
          simp
        | cons c r =>
          have hto : rdb (pre ++ suf) ((pre.length + (d :: D').length : Nat) : Int) = some (c.toNat : Int) := by
            have := rdb_mid (pre ++ d :: D') c r
            rw [List.length_append] at this
            rw [← this, hs]; simp
          have h46 : ((c.toNat : Int) = 46) ↔ c = 46 := by
            constructor
            · intro h
              have h' : c.toNat = 46 := by omega
              exact UInt8.toNat_inj.1 h'
            · intro h; subst h; rfl
          refine Ev.ff ?_ (Ev.let hto ?_)
          · rw [decide_eq_false_iff_not, hs]
            simp
            omega
          · by_cases hc : c = 46
            · subst hc
              simp only [ne_eq, not_true, if_false]
              have hpre : pre ++ suf = (pre ++ d :: D' ++ [46]) ++ r := by rw [hs]; simp
              have hL : (pre ++ d :: D' ++ [46]).length = pre.length + (d :: D').length + 1 := by simp; omega
              have hl2 : (((pre ++ d :: D' ++ [46]).length : Nat) : Int) = w64 (((pre.length + (d :: D').length : Nat) : Int) + 1) := by
                rw [w64_id (by simp; omega) (by simp; omega), hL]; rfl
              have hr3 := n_run_ev (pre ++ d :: D' ++ [46]) r (by rw [← hpre]; exact hl)
              have hfun : (fun k => n_run k (pre ++ d :: D' ++ [46] ++ r) ((pre ++ d :: D' ++ [46]).length : Int)) = fun k => n_run k (pre ++ suf) (w64 (((pre.length + (d :: D').length : Nat) : Int) + 1)) := by
                funext k; rw [← hl2, hpre]
              rw [hfun, hL] at hr3
              have hslen : (pre ++ suf).length = pre.length + (d :: D').length + 1 + r.length := by rw [hpre, List.length_append, hL]
              by_cases hr0 : r.takeWhile digC = []
              · rw [if_pos hr0] at hr3 ⊢
                refine Ev.ff (by decide) (Ev.bind hr3 (Ev.ff ?_ (Ev.step (n_layout_30_eq · _ _ _ _) (Ev.tt ?_ Ev.ret))))
                · split <;> rfl
                · split <;> rfl
              · rw [if_neg hr0] at hr3 ⊢
                by_cases hlt : (r.takeWhile digC).length < r.length
                · rw [if_pos hlt]
                  refine Ev.ff (by decide) (Ev.bind hr3 (Ev.tt ?_ (Ev.step (n_layout_30_eq · _ _ _ _) (Ev.tt rfl Ev.ret))))
                  rw [bsel_and, Bool.and_eq_true, decide_eq_true_eq, decide_eq_true_eq, hslen]
                  exact ⟨rfl, by omega⟩
                · rw [if_neg hlt]
                  refine Ev.ff (by decide) (Ev.bind hr3 (Ev.ff ?_ (Ev.step (n_layout_30_eq · _ _ _ _) (Ev.ff rfl Ev.ret))))
                  rw [bsel_and, Bool.and_eq_false_iff, decide_eq_false_iff_not, decide_eq_false_iff_not, hslen]
                  exact .inr (by omega)
            · simp only [ne_eq, hc, not_false_eq_true, if_true]
              exact Ev.tt (by simpa using fun h => hc (h46.1 h)) Ev.ret
end Mini

/- Reading a number ends, whatever the text. -/
namespace Mini
open Go
variable [MX]

theorem lay6_from (p : Nat) (suf : Str) (h : (lay6 p suf).2.2 = 0) : (lay6 p suf).1 = (p : Int) := by
  unfold lay6 at h ⊢
  split
  · rename_i h1
    rw [if_pos h1] at h
    simp only at h
    split at h <;> cases h
  · rename_i h1
    rw [if_neg h1] at h
    split
    · rename_i h2
      rw [if_pos h2] at h; cases h
    · rename_i h2
      rw [if_neg h2] at h
      split
      · rfl
      · rename_i c r hr
        rw [hr] at h
        simp only at h
        split
        · rename_i h3
          rw [if_pos h3] at h; cases h
        · rename_i h3
          rw [if_neg h3] at h
          split
          · rename_i h4
            rw [if_pos h4] at h
            simp only at h
            split at h <;> cases h
          · rename_i h4
            rw [if_neg h4] at h
            split
            · rename_i h5
              rw [if_pos h5] at h; cases h
            · rfl
/-- the layout of a text that is not empty -/
def layN (s : Str) : Int × Int × Int := match s with
  | [] => (0, 0, 9)
  | c :: r => if c = 45 then lay6 1 r else lay6 0 (c :: r)
theorem n_layout_ev {s : Str} (h0 : s ≠ []) (hl : s.length < 1000000) : Ev (fun k => n_layout k s) (layN s) := by
  cases s with
  | nil => exact absurd rfl h0
  | cons c r =>
    have h45 : ((c.toNat : Int) = 45) ↔ c = 45 := by
      constructor
      · intro h
        have h' : c.toNat = 45 := by omega
        exact UInt8.toNat_inj.1 h'
      · intro h; subst h; rfl
    refine Ev.step (n_layout_eq · _) (Ev.let (y := (c.toNat : Int)) rfl ?_)
    by_cases hc : c = 45
    · refine Ev.tt (by simpa using h45.2 hc) ((n_layout_6_ev [c] r (by simpa using hl)).eq ?_)
      simp [layN, hc]
    · refine Ev.ff (by simpa using fun h => hc (h45.1 h)) ((n_layout_6_ev [] (c :: r) (by simpa using hl)).eq ?_)
      simp [layN, hc]
theorem layN_from {s : Str} (h : (layN s).2.2 = 0) : ∃ p : Nat, (layN s).1 = (p : Int) ∧ p ≤ s.length := by
  cases s with
  | nil => cases h
  | cons c r =>
    unfold layN at h ⊢
    simp only at h ⊢
    split
    · rename_i hc
      rw [if_pos hc] at h
      exact ⟨1, lay6_from 1 r h, by simp⟩
    · rename_i hc
      rw [if_neg hc] at h
      exact ⟨0, lay6_from 0 _ h, by simp⟩
theorem n_ParseNumber_27_any (s : Str) (fr : Int) (y : Str) (u v : Int) : ∀ (suf pre : List Int) (acc : Int), (pre ++ suf).length < 1000000 → ∃ n, Ev (fun k => n_ParseNumber_27 k s fr y acc (pre ++ suf) ((pre ++ suf).length : Int) (pre.length : Int) u v) ((n, (y.length : Int), ()), (s.length : Int), 0) := by
  intro suf
  induction suf with
  | nil =>
    intro pre acc _
    by_cases h : fr = 1
    · exact ⟨_, Ev.step (n_ParseNumber_27_eq · _ _ _ _ _ _ _ _ _) (Ev.ff (lt_end pre) (Ev.tt (by simp [h]) Ev.ret))⟩
    · exact ⟨_, Ev.step (n_ParseNumber_27_eq · _ _ _ _ _ _ _ _ _) (Ev.ff (lt_end pre) (Ev.ff (by simp [h]) Ev.ret))⟩
  | cons x suf ih =>
    intro pre acc hl
    have hp : pre.length + 1 ≤ 9223372036854775807 := by simp at hl; omega
    have hl2 := hl
    rw [mid_next pre _ suf] at hl2
    obtain ⟨n, hn⟩ := ih (pre ++ [x]) (w64 ((w64 (acc * 10)) + (w64 (IntKind.u8.wrap (x - 48))))) hl2
    refine ⟨n, Ev.step (n_ParseNumber_27_eq · _ _ _ _ _ _ _ _ _) (Ev.tt (lt_mid pre x suf) (Ev.let (rd_mid pre x suf) ?_))⟩
    rw [next pre x hp, mid_next pre x suf]
    exact hn
theorem s_TrimLeft_ev (s : Str) : Ev (fun k => s_TrimLeft k s [48]) (Lib.trimLeftB s 48) := by
  refine Ev.ext (s_TrimLeft_eq · _ _) ?_
  show (if (48 : UInt8).toNat < 128 then some (Lib.trimLeftB s 48) else none) = some (Lib.trimLeftB s 48)
  rw [if_pos (by decide)]
theorem trimLeft_len (s : Str) : (Lib.trimLeftB s 48).length ≤ s.length := by
  unfold Lib.trimLeftB
  exact (List.dropWhile_sublist _).length_le
theorem n_ParseNumber_any (s : Str) (h : s.length < 1000000) : ∃ n sc x e, Ev (fun k => n_ParseNumber k s) ((n, sc, ()), x, e) := by
  have hf := fun a b : Int => n_first_ev [a, b] (by simp)
  by_cases h40 : 40 < s.length
  · refine ⟨0, 0, 0, 2, Ev.step (n_ParseNumber_eq · _) (Ev.bind (y := 2) ((n_cond_ev _ _).eq ?_) (Ev.bind (n_cond_ev _ _) (Ev.bind ((hf _ _).eq (by simp [firstN])) (Ev.tt rfl Ev.ret))))⟩
    rw [if_pos (by simp; omega)]
  · have c1 : Ev (fun k => n_cond k (decide (40 < (s.length : Int))) 2) 0 := (n_cond_ev _ _).eq (by rw [if_neg (by simp; omega)])
    by_cases h0 : s = []
    · subst h0
      exact ⟨0, 0, 0, 1, Ev.step (n_ParseNumber_eq · _) (Ev.bind c1 (Ev.bind (y := 1) ((n_cond_ev _ _).eq rfl) (Ev.bind ((hf _ _).eq (by simp [firstN])) (Ev.tt rfl Ev.ret))))⟩
    · have c2 : Ev (fun k => n_cond k (eqS s []) 1) 0 := (n_cond_ev _ _).eq (by rw [if_neg]; exact fun h => h0 ((eqS_iff _ _).1 h))
      have hL := n_layout_ev h0 h
      by_cases he : (layN s).2.2 = 0
      · obtain ⟨p, hp, hple⟩ := layN_from he
        have hsub : subL s (layN s).1 (s.length : Int) = some (s.drop p) := by
          rw [hp]
          have := subL_eq (xs := s) (a := p) (b := s.length) hple (Nat.le_refl _)
          simpa using this
        obtain ⟨x, y, b, d1, d2, d3, _, _⟩ := s_Cut_any (s.drop p) [46] (by simp; omega)
        have ht := trimLeft_len x
        have hd : (s.drop p).length ≤ s.length := by simp
        have hcat : catL (Lib.trimLeftB x 48) y = some (Lib.trimLeftB x 48 ++ y) := catL_eq (by omega)
        by_cases h15 : 15 < (Lib.trimLeftB x 48 ++ y).length
        · exact ⟨0, 0, 0, 19, Ev.step (n_ParseNumber_eq · _) (Ev.bind c1 (Ev.bind c2 (Ev.bind (hf _ _) (Ev.ff rfl (Ev.bind hL (Ev.ff (by simp [he]) (Ev.let hsub (Ev.bind d1 (Ev.bind (s_TrimLeft_ev x) (Ev.let hcat (Ev.tt (by simp at h15 ⊢; omega) Ev.ret)))))))))))⟩
        · obtain ⟨n, hn⟩ := n_ParseNumber_27_any s (layN s).1 y 0 0 (bytesT (Lib.trimLeftB x 48 ++ y)) [] 0 (by rw [List.nil_append, bytesT_len]; omega)
          exact ⟨n, _, _, _, Ev.step (n_ParseNumber_eq · _) (Ev.bind c1 (Ev.bind c2 (Ev.bind (hf _ _) (Ev.ff rfl (Ev.bind hL (Ev.ff (by simp [he]) (Ev.let hsub (Ev.bind d1 (Ev.bind (s_TrimLeft_ev x) (Ev.let hcat (Ev.ff (by simp at h15 ⊢; omega) (Ev.let (bytesL_eq (by omega)) hn))))))))))))⟩
      · exact ⟨0, 0, _, _, Ev.step (n_ParseNumber_eq · _) (Ev.bind c1 (Ev.bind c2 (Ev.bind (hf _ _) (Ev.ff rfl (Ev.bind hL (Ev.tt (by simp [he]) Ev.ret))))))⟩
end Mini

/- Reading a value ends, whatever the text. -/
namespace Mini
open Go

theorem R_len {old new : Str} (hn : old ≠ []) (hl : new.length ≤ old.length) : ∀ (n : Nat) (s : Str), s.length ≤ n → (R old new s).length ≤ s.length := by
  intro n
  induction n with
  | zero =>
    intro s h
    have : s = [] := List.eq_nil_of_length_eq_zero (by omega)
    subst this
    rw [R_nil hn]; exact Nat.le_refl _
  | succ n ih =>
    intro s h
    cases s with
    | nil => rw [R_nil hn]; exact Nat.le_refl _
    | cons c m =>
      cases hp : old.isPrefixOf (c :: m) with
      | false =>
        rw [R_skip hn hp, List.length_cons, List.length_cons]
        have := ih m (by simp at h; omega)
        omega
      | true =>
        rw [List.isPrefixOf_iff_prefix] at hp
        obtain ⟨r, hr⟩ := hp
        have hpos : 0 < old.length := List.length_pos_iff.2 hn
        have hlen : old.length + r.length = m.length + 1 := by rw [← List.length_append, hr]; rfl
        rw [← hr, R_hit hn, List.length_append, List.length_append]
        have := ih r (by simp at h; omega)
        omega

variable [MX]
theorem s_HasPrefix_ev (s p : Str) : Ev (fun k => s_HasPrefix k s p) (Lib.hasPrefix s p) := Ev.ext (s_HasPrefix_eq · _ _) rfl
theorem s_TrimPrefix_ev (s p : Str) : Ev (fun k => s_TrimPrefix k s p) (Lib.trimPrefix s p) := Ev.ext (s_TrimPrefix_eq · _ _) rfl
theorem trimPrefix_len (s p : Str) : (Lib.trimPrefix s p).length ≤ s.length := by
  unfold Lib.trimPrefix
  split
  · simp
  · exact Nat.le_refl _
theorem p_valueOf_any (t : DataType) (s : Str) (h : s.length < 1000000) : ∃ v ok, Ev (fun k => p_valueOf k t s) (v, ok) ∧ v.2.1.length ≤ s.length := by
  by_cases h0 : t.1 = 0
  · have hH := s_HasPrefix_ev s [88]
    have hT := s_TrimPrefix_ev s [88]
    have hl := trimPrefix_len s [88]
    generalize Lib.trimPrefix s [88] = y at hT hl
    have fin : ∀ r : Str, y = 39 :: (r ++ [39]) → ∃ v ok, Ev (fun k => p_valueOf k t s) (v, ok) ∧ v.2.1.length ≤ s.length := by
      intro r hy
      have hlen : y.length = r.length + 2 := by rw [hy]; simp
      have c0 : decide ((y.length : Int) < 2) = false := decide_eq_false (by omega)
      have r0 : rdb y 0 = some 39 := by rw [hy]; rfl
      have w1 : w64 ((y.length : Int) - 1) = ((r.length + 1 : Nat) : Int) := by rw [w64_id (by omega) (by omega)]; omega
      have r1 : rdb y (w64 ((y.length : Int) - 1)) = some 39 := by
        rw [w1, hy]
        have := rdb_mid (39 :: r) 39 []
        simpa using this
      have sb : subL y 1 (w64 ((y.length : Int) - 1)) = some r := by
        rw [w1]
        have := subL_eq (xs := y) (a := 1) (b := r.length + 1) (by omega) (by omega)
        rw [show ((1 : Nat) : Int) = 1 from rfl] at this
        rw [this, hy]; simp
      have e4 : Ev (fun _ => bsel (!(decide ((y.length : Int) < 2))) (rdb y 0) (some 0)) 39 := Ev.tt (by rw [c0]; rfl) ⟨0, fun _ _ => r0⟩
      have e5 : Ev (fun _ => bsel (!(bsel (decide ((y.length : Int) < 2)) true (!decide ((39 : Int) = 39)))) (rdb y (w64 ((y.length : Int) - 1))) (some 0)) 39 := Ev.tt (by rw [c0]; rfl) ⟨0, fun _ _ => r1⟩
      cases hp : Lib.hasPrefix s [88] with
      | true =>
        obtain ⟨b, ok, hb, hbl⟩ := p_bytesOf_any r (by omega)
        exact ⟨_, _, Ev.step (p_valueOf_eq · _ _) (Ev.ff (by simp [h0]) (Ev.bind (hH.eq hp) (Ev.bind hT (Ev.bind e4 (Ev.bind e5 (Ev.ff (by rw [c0]; rfl) (Ev.let sb (Ev.tt rfl (Ev.bind hb Ev.ret))))))))), by show b.length ≤ s.length; omega⟩
      | false =>
        have hR := s_Replace_ev (s := r) (old := [39, 39]) (new := [39]) (by simp) (by simp) (by omega) (by simp)
        exact ⟨_, _, Ev.step (p_valueOf_eq · _ _) (Ev.ff (by simp [h0]) (Ev.bind (hH.eq hp) (Ev.bind hT (Ev.bind e4 (Ev.bind e5 (Ev.ff (by rw [c0]; rfl) (Ev.let sb (Ev.ff rfl (Ev.bind hR Ev.ret))))))))), by have := R_len (old := [39, 39]) (new := [39]) (by simp) (by simp) r.length r (Nat.le_refl _); show (R [39, 39] [39] r).length ≤ s.length; omega⟩
    by_cases h2 : y.length < 2
    · have c0 : decide ((y.length : Int) < 2) = true := decide_eq_true (by omega)
      exact ⟨_, _, Ev.step (p_valueOf_eq · _ _) (Ev.ff (by simp [h0]) (Ev.bind hH (Ev.bind hT (Ev.bind (y := 0) (Ev.ff (by rw [c0]; rfl) Ev.ret) (Ev.bind (y := 0) (Ev.ff (by rw [c0]; rfl) Ev.ret) (Ev.tt (by rw [c0]; rfl) Ev.ret)))))), Nat.zero_le _⟩
    · have c0 : decide ((y.length : Int) < 2) = false := decide_eq_false (by omega)
      obtain ⟨c, q, hc⟩ : ∃ c q, y = c :: q := by
        cases y with
        | nil => exact absurd (by decide) h2
        | cons c q => exact ⟨c, q, rfl⟩
      have hq : q ≠ [] := fun e => h2 (by rw [hc, e]; exact Nat.lt_succ_self 1)
      obtain ⟨r, d, hd⟩ : ∃ r d, q = r ++ [d] := ⟨q.dropLast, q.getLast hq, (List.dropLast_concat_getLast hq).symm⟩
      have hy : y = c :: (r ++ [d]) := by rw [hc, hd]
      have hlen : y.length = r.length + 2 := by rw [hy]; simp
      have w1 : w64 ((y.length : Int) - 1) = ((r.length + 1 : Nat) : Int) := by rw [w64_id (by omega) (by omega)]; omega
      have r0 : rdb y 0 = some (c.toNat : Int) := by rw [hy]; rfl
      have r1 : rdb y (w64 ((y.length : Int) - 1)) = some (d.toNat : Int) := by
        rw [w1, hy]
        have := rdb_mid (c :: r) d []
        simpa using this
      have e4 : Ev (fun _ => bsel (!(decide ((y.length : Int) < 2))) (rdb y 0) (some 0)) (c.toNat : Int) := Ev.tt (by rw [c0]; rfl) ⟨0, fun _ _ => r0⟩
      have n39 : ∀ x : UInt8, ((x.toNat : Int) = 39) ↔ x = 39 := fun x => by
        constructor
        · intro h
          have h' : x.toNat = 39 := by omega
          exact UInt8.toNat_inj.1 h'
        · intro h; subst h; rfl
      by_cases h3 : c = 39
      · by_cases h4 : d = 39
        · exact fin r (by rw [hy, h3, h4])
        · have e3 : decide ((c.toNat : Int) = 39) = true := decide_eq_true ((n39 c).2 h3)
          have e6 : decide ((d.toNat : Int) = 39) = false := decide_eq_false (fun h => h4 ((n39 d).1 h))
          exact ⟨_, _, Ev.step (p_valueOf_eq · _ _) (Ev.ff (by simp [h0]) (Ev.bind hH (Ev.bind hT (Ev.bind e4 (Ev.bind (y := (d.toNat : Int)) (Ev.tt (by rw [c0, e3]; rfl) ⟨0, fun _ _ => r1⟩) (Ev.tt (by rw [c0, e3, e6]; rfl) Ev.ret)))))), Nat.zero_le _⟩
      · have e3 : decide ((c.toNat : Int) = 39) = false := decide_eq_false (fun h => h3 ((n39 c).1 h))
        exact ⟨_, _, Ev.step (p_valueOf_eq · _ _) (Ev.ff (by simp [h0]) (Ev.bind hH (Ev.bind hT (Ev.bind e4 (Ev.bind (y := 0) (Ev.ff (by rw [c0, e3]; rfl) Ev.ret) (Ev.tt (by rw [c0, e3]; rfl) Ev.ret)))))), Nat.zero_le _⟩
  · obtain ⟨n, sc, x, e, hn⟩ := n_ParseNumber_any s h
    exact ⟨_, _, Ev.step (p_valueOf_eq · _ _) (Ev.tt (by simp [h0]) (Ev.bind hn Ev.ret)), Nat.zero_le _⟩
end Mini

/- Reading a declared operand ends, whatever the text. -/
namespace Mini
open Go
variable [MX]

theorem p_declared_72_any (x4 : Str) (x14 : Bool) (x19 : Str) (h : x19.length < 1000000) (c0 : Str) (c1 c2 c3 c4 c5 : Int) (c6 c7 : Str) (c8 c9 : Int) (d0 : Str) (d1 d2 d3 d4 d5 : Int) (d6 d7 : Str) (d8 d9 : Int) :
    ∃ ok, Ev (fun k => p_declared_72 k x4 x14 x19 c0 c1 c2 c3 c4 c5 c6 c7 c8 c9 d0 d1 d2 d3 d4 d5 d6 d7 d8 d9) ((d0, d1, (d2, d3, d4, ()), (d5, d6, ()), d7, d8, d9, ()), ok) ∧ (ok = true → x14 = true ∧ x4 = [68, 68] ∧ d1 ≠ 0 ∧ isNameB x19 = true) := by
  cases hc : bsel (bsel x14 (eqS x4 [68, 68]) false) (!decide (d1 = 0)) false with
  | true =>
    refine ⟨_, Ev.step (p_declared_72_eq · _ _ _ _ _ _ _ _ _ _ _ _ _ _ _ _ _ _ _ _ _ _ _) (Ev.bind (Ev.tt hc (p_isName_ev _ h)) Ev.ret), fun hok => ?_⟩
    rw [hc, bsel_tt] at hok
    simp only [bsel_and, Bool.and_eq_true, Bool.not_eq_true', decide_eq_false_iff_not] at hc
    exact ⟨hc.1.1, (eqS_iff _ _).1 hc.1.2, hc.2, hok⟩
  | false =>
    refine ⟨_, Ev.step (p_declared_72_eq · _ _ _ _ _ _ _ _ _ _ _ _ _ _ _ _ _ _ _ _ _ _ _) (Ev.bind (Ev.ff hc Ev.ret) Ev.ret), fun hok => ?_⟩
    rw [hc, bsel_ff] at hok
    cases hok
theorem p_declared_52_any (s : Str) (h : s.length < 1000000) (c0 : Str) (c1 c2 c3 c4 c5 : Int) (c6 c7 : Str) (c8 c9 : Int) (d0 : Str) (d1 d2 d3 d4 d5 : Int) (d6 d7 : Str) (d8 d9 : Int) (e1 e2 e3 : Int) :
    ∃ v ok, Ev (fun k => p_declared_52 k s c0 c1 c2 c3 c4 c5 c6 c7 c8 c9 d0 d1 d2 d3 d4 d5 d6 d7 d8 d9 e1 e2 e3) ((d0, d1, (d2, d3, d4, ()), v, d7, d8, d9, ()), ok) ∧ v.2.1.length ≤ s.length := by
  obtain ⟨v, ok, hv, hvl⟩ := p_valueOf_any (e1, e2, e3, ()) s h
  exact ⟨v, ok, Ev.step (p_declared_52_eq · _ _ _ _ _ _ _ _ _ _ _ _ _ _ _ _ _ _ _ _ _ _ _ _) (Ev.bind hv Ev.ret), hvl⟩
end Mini

/- Reading a declared operand ends: the whole. -/
namespace Mini
open Go
variable [MX]

def DeclOK (o : MiOperand) : Prop :=
  (0 ≤ o.2.1 ∧ o.2.1 ≤ 5) ∧ (∃ n l c : Nat, n < 4 ∧ o.2.2.1 = ((n : Int), (l : Int), (c : Int), ()) ∧ l < 1000000000000000000 ∧ c < 1000000000000000000) ∧ ((o.2.1 = 1 ∨ o.2.1 = 2) → isNameB o.2.2.2.2.1 = true) ∧
    (∃ m : Nat, o.2.2.2.2.2.1 = (m : Int) ∧ m < 1000000000000000000) ∧ (∃ m : Nat, o.2.2.2.2.2.2.1 = (m : Int) ∧ m < 1000000000000000000) ∧ o.1.length < 1000000 ∧ o.2.2.2.1.2.1.length < 1000000

theorem p_declared_32_any (x4 x5 nm : Str) (h : x5.length < 1000000) (hnm : nm.length < 1000000) : ∃ o ok, Ev (fun k => p_declared_32 k x4 x5 [] 0 0 0 0 0 [] [] 0 0 nm 0 0 0 0 0 [] [] 0 0) (o, ok) ∧ (ok = true → DeclOK o) := by
  obtain ⟨a1, b1, _, c1, l1, l2, _, _⟩ := s_Cut_any x5 [32] h
  obtain ⟨t, ok, ht, htok⟩ := p_typeOf_any a1 (by omega)
  obtain ⟨a2, b2, _, c2, l3, l4, _, _⟩ := s_Cut_any b1 [40] (by omega)
  have hS := s_CutSuffix_ev b2 [41] (by omega)
  have hl := trimSuffix_len b2 [41]
  cases hc : (bsel (nt ok) true (nt (Lib.hasSuffix b2 [41]))) with
  | true => exact ⟨_, _, Ev.step (p_declared_32_eq · _ _ _ _ _ _ _ _ _ _ _ _ _ _ _ _ _ _ _ _ _ _) (Ev.bind c1 (Ev.bind ht (Ev.bind c2 (Ev.bind hS (Ev.tt hc Ev.ret))))), fun h => by cases h⟩
  | false =>
    have hok : ok = true := by
      cases ok with
      | true => rfl
      | false => cases hc
    obtain ⟨n, q1, q2, hn, rfl, hq1, hq2⟩ := htok hok
    cases hI : eqS a2 [73, 78, 73, 84] with
    | true =>
      cases hC : eqS x4 [67, 79, 78] with
      | true =>
        obtain ⟨v, okv, hv, hvl⟩ := p_declared_52_any (Lib.trimSuffix b2 [41]) (by omega) [] 0 0 0 0 0 [] [] 0 0 nm 4 n q1 q2 0 [] [] 0 0 n q1 q2
        exact ⟨_, _, Ev.step (p_declared_32_eq · _ _ _ _ _ _ _ _ _ _ _ _ _ _ _ _ _ _ _ _ _ _) (Ev.bind c1 (Ev.bind ht (Ev.bind c2 (Ev.bind hS (Ev.ff hc (Ev.tt hI (Ev.tt hC hv))))))), fun _ => ⟨⟨by simp, by simp⟩, ⟨n, q1, q2, hn, rfl, hq1, hq2⟩, (fun h => by rcases h with h | h <;> cases h), ⟨0, rfl, by decide⟩, ⟨0, rfl, by decide⟩, hnm, by show v.2.1.length < 1000000; omega⟩⟩
      | false =>
        obtain ⟨v, okv, hv, hvl⟩ := p_declared_52_any (Lib.trimSuffix b2 [41]) (by omega) [] 0 0 0 0 0 [] [] 0 0 nm 0 n q1 q2 0 [] [] 0 0 n q1 q2
        exact ⟨_, _, Ev.step (p_declared_32_eq · _ _ _ _ _ _ _ _ _ _ _ _ _ _ _ _ _ _ _ _ _ _) (Ev.bind c1 (Ev.bind ht (Ev.bind c2 (Ev.bind hS (Ev.ff hc (Ev.tt hI (Ev.ff hC hv))))))), fun _ => ⟨⟨by simp, by simp⟩, ⟨n, q1, q2, hn, rfl, hq1, hq2⟩, (fun h => by rcases h with h | h <;> cases h), ⟨0, rfl, by decide⟩, ⟨0, rfl, by decide⟩, hnm, by show v.2.1.length < 1000000; omega⟩⟩
    | false =>
      obtain ⟨a3, b3, _, c3, l5, l6, _, _⟩ := s_Cut_any (Lib.trimSuffix b2 [41]) [44] (by omega)
      obtain ⟨m, okm, hm, hmok⟩ := p_natural_ev b3 (by omega)
      cases hD : eqS a2 [68, 69, 70] with
      | true =>
        obtain ⟨o2, h2, h3⟩ := p_declared_72_any x4 okm a3 (by omega) [] 0 0 0 0 0 [] [] 0 0 nm 1 n q1 q2 0 [] a3 m 0
        refine ⟨_, _, Ev.step (p_declared_32_eq · _ _ _ _ _ _ _ _ _ _ _ _ _ _ _ _ _ _ _ _ _ _) (Ev.bind c1 (Ev.bind ht (Ev.bind c2 (Ev.bind hS (Ev.ff hc (Ev.ff hI (Ev.bind c3 (Ev.bind hm (Ev.tt hD h2))))))))), fun h => ?_⟩
        obtain ⟨g1, _, _, g4⟩ := h3 h
        obtain ⟨mm, rfl, _, hmm⟩ := hmok g1
        exact ⟨⟨by simp, by simp⟩, ⟨n, q1, q2, hn, rfl, hq1, hq2⟩, (fun _ => g4), ⟨mm, rfl, hmm⟩, ⟨0, rfl, by decide⟩, hnm, by show (0 : Nat) < 1000000; omega⟩
      | false =>
        cases hB : eqS a2 [66, 65, 83] with
        | true =>
          obtain ⟨o2, h2, h3⟩ := p_declared_72_any x4 okm a3 (by omega) [] 0 0 0 0 0 [] [] 0 0 nm 2 n q1 q2 0 [] a3 m 0
          refine ⟨_, _, Ev.step (p_declared_32_eq · _ _ _ _ _ _ _ _ _ _ _ _ _ _ _ _ _ _ _ _ _ _) (Ev.bind c1 (Ev.bind ht (Ev.bind c2 (Ev.bind hS (Ev.ff hc (Ev.ff hI (Ev.bind c3 (Ev.bind hm (Ev.ff hD (Ev.tt hB h2)))))))))), fun h => ?_⟩
          obtain ⟨g1, _, _, g4⟩ := h3 h
          obtain ⟨mm, rfl, _, hmm⟩ := hmok g1
          exact ⟨⟨by simp, by simp⟩, ⟨n, q1, q2, hn, rfl, hq1, hq2⟩, (fun _ => g4), ⟨mm, rfl, hmm⟩, ⟨0, rfl, by decide⟩, hnm, by show (0 : Nat) < 1000000; omega⟩
        | false =>
          obtain ⟨o2, h2, h3⟩ := p_declared_72_any x4 okm a3 (by omega) [] 0 0 0 0 0 [] [] 0 0 nm 0 n q1 q2 0 [] a3 m 0
          refine ⟨_, _, Ev.step (p_declared_32_eq · _ _ _ _ _ _ _ _ _ _ _ _ _ _ _ _ _ _ _ _ _ _) (Ev.bind c1 (Ev.bind ht (Ev.bind c2 (Ev.bind hS (Ev.ff hc (Ev.ff hI (Ev.bind c3 (Ev.bind hm (Ev.ff hD (Ev.ff hB h2)))))))))), fun h => ?_⟩
          exact absurd rfl (h3 h).2.2.1

theorem p_declared_any (s : Str) (h : s.length < 1000000) : ∃ o ok, Ev (fun k => p_declared k s) (o, ok) ∧ (ok = true → DeclOK o) := by
  obtain ⟨a1, b1, _, c1, l1, l2, _, _⟩ := s_Cut_any s [32] h
  obtain ⟨a2, b2, m2, c2, l3, l4, _, _⟩ := s_Cut_any b1 [32] (by omega)
  obtain ⟨o, ok, h1, h2⟩ := p_declared_32_any a1 b2 a2 (by omega) (by omega)
  cases hP : eqS a1 [80, 84, 82] with
  | true => exact ⟨_, _, Ev.step (p_declared_eq · _) (Ev.bind c1 (Ev.bind c2 (Ev.tt hP Ev.ret))), fun _ => ⟨⟨by simp, by simp⟩, ⟨0, 0, 0, by decide, rfl, by decide, by decide⟩, (fun h => by rcases h with h | h <;> cases h), ⟨0, rfl, by decide⟩, ⟨0, rfl, by decide⟩, by show a2.length < 1000000; omega, by show (0 : Nat) < 1000000; omega⟩⟩
  | false =>
    cases hL : eqS a1 [76, 65, 66, 69, 76] with
    | true =>
      obtain ⟨m, okm, hm, hmok⟩ := p_natural_ev b2 (by omega)
      refine ⟨_, _, Ev.step (p_declared_eq · _) (Ev.bind c1 (Ev.bind c2 (Ev.ff hP (Ev.tt hL (Ev.bind hm Ev.ret))))), fun h => ?_⟩
      obtain ⟨mm, rfl, _, hmm⟩ := hmok h
      exact ⟨⟨by simp, by simp⟩, ⟨0, 0, 0, by decide, rfl, by decide, by decide⟩, (fun h => by rcases h with h | h <;> cases h), ⟨0, rfl, by decide⟩, ⟨mm, rfl, hmm⟩, by show a2.length < 1000000; omega, by show (0 : Nat) < 1000000; omega⟩
    | false =>
      cases hD : eqS a1 [68, 68] with
      | true => exact ⟨o, ok, Ev.step (p_declared_eq · _) (Ev.bind c1 (Ev.bind c2 (Ev.ff hP (Ev.ff hL (Ev.tt hD (Ev.tt hD h1)))))), h2⟩
      | false =>
        cases hC : eqS a1 [67, 79, 78] with
        | true => exact ⟨o, ok, Ev.step (p_declared_eq · _) (Ev.bind c1 (Ev.bind c2 (Ev.ff hP (Ev.ff hL (Ev.ff hD (Ev.tt hC h1)))))), h2⟩
        | false => exact ⟨_, _, Ev.step (p_declared_eq · _) (Ev.bind c1 (Ev.bind c2 (Ev.ff hP (Ev.ff hL (Ev.ff hD (Ev.ff hC Ev.ret)))))), fun h => by cases h⟩
end Mini

/- The text of a type that was read. -/
namespace Mini
open Go
variable [MX]

theorem dd_len18 {n : Nat} (h : n < 1000000000000000000) : (dd n).length ≤ 18 := dd_len 17 n (by omega)
theorem p_typeText_any {n l c : Nat} (hn : n < 4) (h1 : l < 1000000000000000000) (h2 : c < 1000000000000000000) : ∃ s, Ev (fun k => p_typeText k ((n : Int), (l : Int), (c : Int), ())) s ∧ s.length ≤ 60 ∧ (10 : UInt8) ∉ s := by
  obtain ⟨w, g1, g2, g3⟩ := gTypes_small n hn
  have hw : (10 : UInt8) ∉ w := by
    have : n = 0 ∨ n = 1 ∨ n = 2 ∨ n = 3 := by omega
    rcases this with rfl | rfl | rfl | rfl <;> (obtain rfl := Option.some.inj g1; decide)
  have hr : rd gTypes (n : Int) = some w := (rd_nat _ _).trans g1
  have d1 := dd_len18 h1
  have d2 := dd_len18 h2
  have m1 : (10 : UInt8) ∉ dd l := not_mem_digits (by decide)
  have m2 : (10 : UInt8) ∉ dd c := not_mem_digits (by decide)
  by_cases h0 : n = 0
  · refine ⟨_, Ev.step (p_typeText_eq · _) (Ev.let hr (Ev.let (catL_eq (by simp; omega)) (Ev.bind (c_Itoa_ev l h1) (Ev.let (catL_eq (by simp; omega)) (Ev.ff (by simp [h0]) (Ev.let (catL_eq (by simp; omega)) Ev.ret)))))), by simp; omega, ?_⟩
    simp [hw, m1]
  · refine ⟨_, Ev.step (p_typeText_eq · _) (Ev.let hr (Ev.let (catL_eq (by simp; omega)) (Ev.bind (c_Itoa_ev l h1) (Ev.let (catL_eq (by simp; omega)) (Ev.tt (by simp; omega) (Ev.bind (c_Itoa_ev c h2) (Ev.let (catL_eq (by simp; omega)) (Ev.let (catL_eq (by simp; omega)) (Ev.let (catL_eq (by simp; omega)) Ev.ret))))))))), by simp; omega, ?_⟩
    simp [hw, m1, m2]
end Mini

/- The text of a value that was read. -/
namespace Mini
open Go
variable [MX]

theorem hexD_no10 (n : Nat) (h : n < 16) : hexD.getD n 0 ≠ 10 := by
  have : n = 0 ∨ n = 1 ∨ n = 2 ∨ n = 3 ∨ n = 4 ∨ n = 5 ∨ n = 6 ∨ n = 7 ∨ n = 8 ∨ n = 9 ∨ n = 10 ∨ n = 11 ∨ n = 12 ∨ n = 13 ∨ n = 14 ∨ n = 15 := by omega
  rcases this with rfl | rfl | rfl | rfl | rfl | rfl | rfl | rfl | rfl | rfl | rfl | rfl | rfl | rfl | rfl | rfl <;> decide
theorem hexT_no10 : ∀ s : Str, (10 : UInt8) ∉ hexT s := by
  intro s
  induction s with
  | nil => simp [hexT]
  | cons c l ih =>
    have hc := UInt8.toNat_lt c
    have h1 := hexD_no10 (c.toNat / 16) (by omega)
    have h2 := hexD_no10 (c.toNat % 16) (by omega)
    simp only [hexT, List.mem_cons, not_or]
    exact ⟨Ne.symm h1, Ne.symm h2, ih⟩
theorem dbl_no10 : ∀ s : Str, s.all shownC = true → (10 : UInt8) ∉ dbl s := by
  intro s
  induction s with
  | nil => intro _; simp [dbl]
  | cons c l ih =>
    intro h
    rw [List.all_cons, Bool.and_eq_true] at h
    have hc : (10 : UInt8) ≠ c := fun e => by
      rw [← e] at h
      exact absurd h.1 (by decide)
    have hi := ih h.2
    unfold dbl
    split
    · simp only [List.mem_cons, not_or]
      exact ⟨by decide, by decide, hi⟩
    · simp only [List.mem_cons, not_or]
      exact ⟨hc, hi⟩
theorem numT_no10 (n : Int) (sc : Nat) : (10 : UInt8) ∉ numT n sc := by
  have h1 : (10 : UInt8) ∉ padZ (dd n.natAbs) sc := by
    unfold padZ
    simp only [List.mem_append, not_or, List.mem_replicate, not_and]
    exact ⟨fun _ => by decide, not_mem_digits (by decide)⟩
  have h2 : (10 : UInt8) ∉ pointT (padZ (dd n.natAbs) sc) sc := by
    unfold pointT
    split
    · simp only [List.mem_append, not_or, List.mem_singleton]
      exact ⟨⟨fun h => h1 (List.mem_of_mem_take h), by decide⟩, fun h => h1 (List.mem_of_mem_drop h)⟩
    · exact h1
  unfold numT signT
  split
  · simp only [List.mem_cons, not_or]
    exact ⟨by decide, h2⟩
  · exact h2
end Mini

/- Reading a number back. -/
namespace Mini
open Go

theorem span_dig {r : Str} (hr : r = [] ∨ ∃ c r', r = c :: r' ∧ digC c = false) : ∀ A : Str, (∀ c ∈ A, digC c = true) → (A ++ r).takeWhile digC = A ∧ (A ++ r).dropWhile digC = r := by
  intro A
  induction A with
  | nil =>
    intro _
    rcases hr with rfl | ⟨c, r', rfl, hc⟩
    · exact ⟨rfl, rfl⟩
    · simp [hc]
  | cons a A ih =>
    intro h
    have ha := h a (by simp)
    obtain ⟨h1, h2⟩ := ih (fun c hc => h c (by simp [hc]))
    simp [ha, h1, h2]
def fracT (B : Str) : Str := if B = [] then [] else 46 :: B
theorem fracT_head (B : Str) : fracT B = [] ∨ ∃ c r', fracT B = c :: r' ∧ digC c = false := by
  unfold fracT
  split
  · exact .inl rfl
  · exact .inr ⟨46, B, rfl, rfl⟩
theorem lay6_num (p : Nat) {A B : Str} (hA : ∀ c ∈ A, digC c = true) (hB : ∀ c ∈ B, digC c = true) (h0 : A ≠ []) (hz : A.head? = some 48 → A.length = 1) : lay6 p (A ++ fracT B) = ((p : Int), ((p + A.length : Nat) : Int), 0) := by
  obtain ⟨h1, h2⟩ := span_dig (fracT_head B) A hA
  unfold lay6
  rw [h1, h2, if_neg h0, if_neg (by rintro ⟨q1, q2⟩; have := hz q1; omega)]
  unfold fracT
  by_cases hb : B = []
  · rw [if_pos hb]
  · rw [if_neg hb]
    have h3 : B.takeWhile digC = B := by
      have := (span_dig (.inl rfl) B hB).1
      rwa [List.append_nil] at this
    simp [h3, hb]

/-! ### the number of digits -/
def valN : Nat → Str → Nat
  | a, [] => a
  | a, c :: l => valN (a * 10 + (c.toNat - 48)) l
theorem valN_app : ∀ (l r : Str) (a : Nat), valN a (l ++ r) = valN (valN a l) r := by
  intro l
  induction l with
  | nil => intro r a; rfl
  | cons c l ih => intro r a; exact ih r _
theorem valN_dd : ∀ n : Nat, valN 0 (dd n) = n := by
  intro n
  induction n using Nat.strongRecOn with
  | ind n ih =>
    by_cases h : n < 10
    · rw [dd_small h]
      show 0 * 10 + ((UInt8.ofNat (48 + n)).toNat - 48) = n
      rw [dig_val h]; omega
    · rw [dd_big h, valN_app, ih (n / 10) (by omega)]
      show n / 10 * 10 + ((UInt8.ofNat (48 + n % 10)).toNat - 48) = n
      rw [dig_val (by omega)]; omega
theorem valN_zeros (k : Nat) (r : Str) : valN 0 (List.replicate k 48 ++ r) = valN 0 r := by
  induction k with
  | zero => rfl
  | succ k ih => rw [List.replicate_succ, List.cons_append]; exact ih
theorem valN_trim (A B : Str) : valN 0 (Lib.trimLeftB A 48 ++ B) = valN 0 (A ++ B) := by
  unfold Lib.trimLeftB
  induction A with
  | nil => rfl
  | cons a A ih =>
    by_cases h : a = 48
    · subst h
      rw [List.dropWhile_cons, if_pos (by simp), ih]
      rfl
    · rw [List.dropWhile_cons, if_neg (by simpa using h)]
theorem valN_ge : ∀ (l : Str) (a : Nat), a ≤ valN a l := by
  intro l
  induction l with
  | nil => intro a; exact Nat.le_refl _
  | cons c l ih =>
    intro a
    have := ih (a * 10 + (c.toNat - 48))
    show a ≤ valN (a * 10 + (c.toNat - 48)) l
    omega
theorem dd_head : ∀ n : Nat, n ≠ 0 → (dd n).head? ≠ some 48 := by
  intro n
  induction n using Nat.strongRecOn with
  | ind n ih =>
    intro h0
    by_cases h : n < 10
    · rw [dd_small h]
      intro e
      have e' := congrArg UInt8.toNat (Option.some.inj e)
      rw [dig_val h] at e'
      have : (48 : UInt8).toNat = 48 := rfl
      omega
    · rw [dd_big h]
      have := ih (n / 10) (by omega) (by omega)
      cases hd : dd (n / 10) with
      | nil => exact absurd hd (dd_ne _)
      | cons c l => rw [hd] at this; exact this
theorem u8_id {n : Int} (h0 : 0 ≤ n) (h1 : n ≤ 255) : IntKind.u8.wrap n = n := by
  simp [IntKind.wrap, IntKind.bits, IntKind.signed]; omega
theorem digC_iff (c : UInt8) : digC c = true ↔ 48 ≤ c.toNat ∧ c.toNat ≤ 57 := by
  unfold digC
  simp only [inB, Bool.and_eq_true, decide_eq_true_eq]
  omega

variable [MX]
theorem n_ParseNumber_27_ev (s : Str) (fr : Int) (y : Str) (u v : Int) : ∀ (suf pre : Str) (acc : Nat), (pre ++ suf).length < 1000000 → (∀ c ∈ suf, digC c = true) → valN acc suf ≤ 999999999999999 →
    Ev (fun k => n_ParseNumber_27 k s fr y (acc : Int) (bytesT pre ++ bytesT suf) ((bytesT pre ++ bytesT suf).length : Int) ((bytesT pre).length : Int) u v) ((if fr = 1 then -((valN acc suf : Nat) : Int) else ((valN acc suf : Nat) : Int), (y.length : Int), ()), (s.length : Int), 0) := by
  intro suf
  induction suf with
  | nil =>
    intro pre acc _ _ hv
    have hv' : acc ≤ 999999999999999 := hv
    by_cases h : fr = 1
    · refine Ev.step (n_ParseNumber_27_eq · _ _ _ _ _ _ _ _ _) (Ev.ff (lt_end _) (Ev.tt (by simp [h]) (Ev.ret.eq ?_)))
      have e : negI .i64 (acc : Int) = -(acc : Int) := by
        show w64 (0 - (acc : Int)) = _
        rw [w64_id (by omega) (by omega)]; omega
      rw [e, if_pos h]; rfl
    · exact Ev.step (n_ParseNumber_27_eq · _ _ _ _ _ _ _ _ _) (Ev.ff (lt_end _) (Ev.ff (by simp [h]) (Ev.ret.eq (by rw [if_neg h]; rfl))))
  | cons x suf ih =>
    intro pre acc hl hd hv
    have hp : (bytesT pre).length + 1 ≤ 9223372036854775807 := by rw [bytesT_len]; simp at hl; omega
    have hx := (digC_iff x).1 (hd x (by simp))
    have hv2 : valN (acc * 10 + (x.toNat - 48)) suf ≤ 999999999999999 := hv
    have hge := valN_ge suf (acc * 10 + (x.toNat - 48))
    have hi := ih (pre ++ [x]) (acc * 10 + (x.toNat - 48)) (by simpa using hl) (fun c hc => hd c (by simp [hc])) hv2
    rw [show bytesT (pre ++ [x]) = bytesT pre ++ [(x.toNat : Int)] by simp [bytesT]] at hi
    rw [show bytesT (x :: suf) = (x.toNat : Int) :: bytesT suf from rfl]
    refine Ev.step (n_ParseNumber_27_eq · _ _ _ _ _ _ _ _ _) (Ev.tt (lt_mid _ _ _) (Ev.let (rd_mid _ _ _) ?_))
    have e : w64 (w64 ((acc : Int) * 10) + w64 (IntKind.u8.wrap ((x.toNat : Int) - 48))) = ((acc * 10 + (x.toNat - 48) : Nat) : Int) := by
      rw [u8_id (by omega) (by omega), w64_id (n := (acc : Int) * 10) (by omega) (by omega), w64_id (n := (x.toNat : Int) - 48) (by omega) (by omega), w64_id (by omega) (by omega)]
      omega
    rw [e, next _ _ hp, mid_next (bytesT pre) _ (bytesT suf)]
    exact hi

theorem n_ParseNumber_num (g : Bool) {A B : Str} (hA : ∀ c ∈ A, digC c = true) (hB : ∀ c ∈ B, digC c = true) (h0 : A ≠ []) (hz : A.head? = some 48 → A.length = 1) (hl : (Lib.trimLeftB A 48).length + B.length ≤ 15) (hA16 : A.length ≤ 16) (hv : valN 0 (A ++ B) ≤ 999999999999999) :
    Ev (fun k => n_ParseNumber k ((if g = true then [45] else []) ++ (A ++ fracT B))) ((if g = true then -((valN 0 (A ++ B) : Nat) : Int) else ((valN 0 (A ++ B) : Nat) : Int), (B.length : Int), ()), (((if g = true then [45] else []) ++ (A ++ fracT B) : Str).length : Int), 0) := by
  have hf := fun a b : Int => n_first_ev [a, b] (by simp)
  have hfr : (fracT B).length ≤ B.length + 1 := by
    unfold fracT; split <;> simp
  obtain ⟨a, A', hAc⟩ : ∃ a A', A = a :: A' := by
    cases A with
    | nil => exact absurd rfl h0
    | cons a A' => exact ⟨a, A', rfl⟩
  have ha45 : a ≠ 45 := fun e => by
    have := (digC_iff a).1 (hA a (by rw [hAc]; simp))
    rw [e] at this
    exact absurd this.1 (by decide)
  generalize hp : (if g = true then 1 else 0 : Nat) = p
  generalize hs : ((if g = true then [45] else []) ++ (A ++ fracT B) : Str) = s
  have hsl : s.length = p + (A ++ fracT B).length := by
    rw [← hs, ← hp, List.length_append]
    cases g <;> simp <;> omega
  have hdrop : s.drop p = A ++ fracT B := by
    rw [← hs, ← hp]
    cases g <;> rfl
  have hp1 : p ≤ 1 := by rw [← hp]; cases g <;> simp
  have hs40 : s.length ≤ 40 := by rw [hsl, List.length_append]; omega
  have hsne : s ≠ [] := by rw [← hs, hAc]; cases g <;> simp
  have hlay : layN s = ((p : Int), ((p + A.length : Nat) : Int), 0) := by
    rw [← hs, ← hp]
    cases g with
    | true => exact lay6_num 1 hA hB h0 hz
    | false =>
      have := lay6_num 0 hA hB h0 hz
      rw [hAc] at this ⊢
      show layN (a :: (A' ++ fracT B)) = _
      unfold layN
      simp only
      rw [if_neg ha45]
      exact this
  have hfr1 : ((p : Int) = 1) ↔ g = true := by
    rw [← hp]; cases g <;> simp
  have hL := n_layout_ev hsne (by omega)
  rw [hlay] at hL
  have hsub : subL s (p : Int) (s.length : Int) = some (A ++ fracT B) := by
    have := subL_eq (xs := s) (a := p) (b := s.length) (by omega) (Nat.le_refl _)
    rw [this, List.take_length, hdrop]
  have h46 : (46 : UInt8) ∉ A := fun h => absurd (hA 46 h) (by decide)
  have hcut : ∃ b, Ev (fun k => s_Cut k (A ++ fracT B) [46]) (A, B, b) := by
    unfold fracT
    by_cases hb : B = []
    · rw [if_pos hb, List.append_nil, hb]
      exact ⟨false, cut_one_miss (by omega) h46⟩
    · rw [if_neg hb]
      exact ⟨true, cut_one (by simp; omega) h46⟩
  obtain ⟨b, hcut⟩ := hcut
  have hcat : catL (Lib.trimLeftB A 48) B = some (Lib.trimLeftB A 48 ++ B) := catL_eq (by omega)
  have hdT : ∀ c ∈ Lib.trimLeftB A 48 ++ B, digC c = true := fun c hc => by
    rcases List.mem_append.1 hc with hc | hc
    · exact hA c ((List.dropWhile_sublist _).subset hc)
    · exact hB c hc
  have h27 := n_ParseNumber_27_ev s (p : Int) B 0 0 (Lib.trimLeftB A 48 ++ B) [] 0 (by rw [List.nil_append, List.length_append]; omega) hdT (by rw [valN_trim]; exact hv)
  rw [valN_trim] at h27
  have e1 : (if (p : Int) = 1 then -((valN 0 (A ++ B) : Nat) : Int) else ((valN 0 (A ++ B) : Nat) : Int)) = (if g = true then -((valN 0 (A ++ B) : Nat) : Int) else ((valN 0 (A ++ B) : Nat) : Int)) := by
    by_cases hg : g = true
    · rw [if_pos hg, if_pos (hfr1.2 hg)]
    · rw [if_neg hg, if_neg (fun h => hg (hfr1.1 h))]
  rw [e1] at h27
  have c1 : Ev (fun k => n_cond k (decide (40 < (s.length : Int))) 2) 0 := (n_cond_ev _ _).eq (by rw [if_neg (by simp; omega)])
  have c2 : Ev (fun k => n_cond k (eqS s []) 1) 0 := (n_cond_ev _ _).eq (by rw [if_neg]; exact fun h => hsne ((eqS_iff _ _).1 h))
  exact Ev.step (n_ParseNumber_eq · _) (Ev.bind c1 (Ev.bind c2 (Ev.bind (hf _ _) (Ev.ff rfl (Ev.bind hL (Ev.ff rfl (Ev.let hsub (Ev.bind hcut (Ev.bind (s_TrimLeft_ev A) (Ev.let hcat (Ev.ff (by simp; omega) (Ev.let (bytesL_eq (by rw [List.length_append]; omega)) h27))))))))))))

theorem numT_split (n : Int) (sc : Nat) (hsc : sc ≤ 15) (h0 : -999999999999999 ≤ n) (h1 : n ≤ 999999999999999) :
    ∃ A B : Str, numT n sc = (if decide (n < 0) = true then [45] else []) ++ (A ++ fracT B) ∧ B.length = sc ∧ (∀ c ∈ A, digC c = true) ∧ (∀ c ∈ B, digC c = true) ∧ A ≠ [] ∧ (A.head? = some 48 → A.length = 1) ∧ (Lib.trimLeftB A 48).length + B.length ≤ 15 ∧ A.length ≤ 16 ∧ valN 0 (A ++ B) = n.natAbs := by
  have hdl := abs_len h0 h1
  have hdp : 0 < (dd n.natAbs).length := List.length_pos_iff.2 (dd_ne _)
  have hD := padZ_len (dd n.natAbs) sc
  have hdig : ∀ c ∈ padZ (dd n.natAbs) sc, digC c = true := fun c hc => by
    unfold padZ at hc
    rcases List.mem_append.1 hc with hc | hc
    · rw [(List.mem_replicate.1 hc).2]; rfl
    · exact (digC_iff c).2 (dd_digits _ c hc)
  have hval : valN 0 (padZ (dd n.natAbs) sc) = n.natAbs := by
    unfold padZ; rw [valN_zeros, valN_dd]
  have hlong : sc < (dd n.natAbs).length → padZ (dd n.natAbs) sc = dd n.natAbs := padZ_done
  have hshort : (dd n.natAbs).length ≤ sc → ∃ r, padZ (dd n.natAbs) sc = 48 :: r := fun h => by
    unfold padZ
    rw [show sc + 1 - (dd n.natAbs).length = (sc - (dd n.natAbs).length) + 1 by omega, List.replicate_succ]
    exact ⟨_, rfl⟩
  unfold numT
  generalize padZ (dd n.natAbs) sc = D at *
  refine ⟨D.take (D.length - sc), D.drop (D.length - sc), ?_, ?_, fun c hc => hdig c (List.mem_of_mem_take hc), fun c hc => hdig c (List.mem_of_mem_drop hc), ?_, ?_, ?_, ?_, ?_⟩
  · have e : pointT D sc = D.take (D.length - sc) ++ fracT (D.drop (D.length - sc)) := by
      unfold pointT fracT
      by_cases h : 0 < sc
      · rw [if_pos h, if_neg]
        · simp
        · intro e
          have := congrArg List.length e
          simp at this
          omega
      · have h' : sc = 0 := by omega
        subst h'
        simp
    rw [e]
    unfold signT
    by_cases hn : n < 0
    · rw [if_pos hn, if_pos (decide_eq_true hn)]; rfl
    · rw [if_neg hn, if_neg (by simpa using hn)]; rfl
  · simp; omega
  · intro e
    have := congrArg List.length e
    simp at this
    omega
  · intro hh
    rw [List.length_take]
    by_cases hs : sc + 1 < (dd n.natAbs).length
    · exfalso
      have hDd := hlong (by omega)
      have hne : n.natAbs ≠ 0 := fun e => by
        rw [e] at hs
        have : (dd 0).length = 1 := by rw [dd_small (by decide)]; rfl
        omega
      refine dd_head n.natAbs hne ?_
      rw [← hDd, ← hh]
      cases hDc : D with
      | nil => rw [hDc] at hD; simp at hD; omega
      | cons d D' =>
        rw [hDc, List.length_cons] at hD
        rw [List.length_cons, show D'.length + 1 - sc = (D'.length - sc) + 1 by omega]
        rfl
    · omega
  · have ht := trimLeft_len (D.take (D.length - sc))
    rw [List.length_take] at ht
    rw [List.length_drop]
    by_cases hs : sc < (dd n.natAbs).length
    · omega
    · obtain ⟨r, hr⟩ := hshort (by omega)
      have hL : D.length - sc = 1 := by omega
      rw [hL]
      have : Lib.trimLeftB (D.take 1) 48 = [] := by
        rw [hr]
        simp [Lib.trimLeftB]
      rw [this]
      simp; omega
  · rw [List.length_take]; omega
  · rw [List.take_append_drop]; exact hval

/-- the text of a number reads as the number -/
theorem n_ParseNumber_ev (n : Int) (sc : Nat) (hsc : sc ≤ 15) (h0 : -999999999999999 ≤ n) (h1 : n ≤ 999999999999999) : ∃ x, Ev (fun k => n_ParseNumber k (numT n sc)) ((n, (sc : Int), ()), x, 0) := by
  obtain ⟨A, B, e, h2, h3, h4, h5, h6, h7, h8, h9⟩ := numT_split n sc hsc h0 h1
  have h := n_ParseNumber_num (decide (n < 0)) h3 h4 h5 h6 h7 h8 (by rw [h9]; omega)
  rw [← e, h9, h2] at h
  refine ⟨((numT n sc).length : Int), h.eq ?_⟩
  congr 2
  by_cases hn : n < 0
  · rw [if_pos (decide_eq_true hn)]; omega
  · rw [if_neg (by simpa using hn)]; omega
end Mini

/- Values read back. -/
namespace Mini
open Go
variable [MX]

theorem p_valueOf_q {t : DataType} {s r v : Str} {hx ok : Bool} (h0 : t.1 = 0) (hs : s.length < 1000000) (h1 : Lib.hasPrefix s [88] = hx) (h2 : Lib.trimPrefix s [88] = 39 :: (r ++ [39]))
    (hb : hx = true → Ev (fun k => p_bytesOf k r) (v, ok)) (hr : hx = false → R [39, 39] [39] r = v ∧ ok = true) : Ev (fun k => p_valueOf k t s) ((0, v, ()), ok) := by
  have hH := (s_HasPrefix_ev s [88]).eq h1
  have hT := (s_TrimPrefix_ev s [88]).eq h2
  have hl := trimPrefix_len s [88]
  rw [h2] at hl
  generalize hy : (39 :: (r ++ [39]) : Str) = y at hT hl
  have hlen : y.length = r.length + 2 := by rw [← hy]; simp
  have c0 : decide ((y.length : Int) < 2) = false := decide_eq_false (by omega)
  have r0 : rdb y 0 = some 39 := by rw [← hy]; rfl
  have w1 : w64 ((y.length : Int) - 1) = ((r.length + 1 : Nat) : Int) := by rw [w64_id (by omega) (by omega)]; omega
  have r1 : rdb y (w64 ((y.length : Int) - 1)) = some 39 := by
    rw [w1, ← hy]
    have := rdb_mid (39 :: r) 39 []
    simpa using this
  have sb : subL y 1 (w64 ((y.length : Int) - 1)) = some r := by
    rw [w1]
    have := subL_eq (xs := y) (a := 1) (b := r.length + 1) (by omega) (by omega)
    rw [show ((1 : Nat) : Int) = 1 from rfl] at this
    rw [this, ← hy]; simp
  have e4 : Ev (fun _ => bsel (!(decide ((y.length : Int) < 2))) (rdb y 0) (some 0)) 39 := Ev.tt (by rw [c0]; rfl) ⟨0, fun _ _ => r0⟩
  have e5 : Ev (fun _ => bsel (!(bsel (decide ((y.length : Int) < 2)) true (!decide ((39 : Int) = 39)))) (rdb y (w64 ((y.length : Int) - 1))) (some 0)) 39 := Ev.tt (by rw [c0]; rfl) ⟨0, fun _ _ => r1⟩
  cases hx with
  | true => exact Ev.step (p_valueOf_eq · _ _) (Ev.ff (by simp [h0]) (Ev.bind hH (Ev.bind hT (Ev.bind e4 (Ev.bind e5 (Ev.ff (by rw [c0]; rfl) (Ev.let sb (Ev.tt rfl (Ev.bind (hb rfl) Ev.ret)))))))))
  | false =>
    obtain ⟨hv, rfl⟩ := hr rfl
    have hR := s_Replace_ev (s := r) (old := [39, 39]) (new := [39]) (by simp) (by simp) (by omega) (by simp)
    rw [hv] at hR
    exact Ev.step (p_valueOf_eq · _ _) (Ev.ff (by simp [h0]) (Ev.bind hH (Ev.bind hT (Ev.bind e4 (Ev.bind e5 (Ev.ff (by rw [c0]; rfl) (Ev.let sb (Ev.ff rfl (Ev.bind hR Ev.ret)))))))))
/-- the text of a value reads as the value -/
theorem p_valueOf_ev {t : DataType} {v : Val} (h : ValueOK t v) : Ev (fun k => p_valueOf k t (valueT t v)) (v, true) := by
  have hlen := valueT_len h
  obtain ⟨hT, h4, hc, hn⟩ := h
  have hb := hT.bounds
  obtain ⟨vn, vs, _⟩ := v
  by_cases h0 : t.1 = 0
  · obtain ⟨q1, q2⟩ := hc h0
    simp only at q1 q2
    subst q1
    have hl : vs.length ≤ 256 := by omega
    unfold valueT at hlen ⊢
    rw [if_pos h0] at hlen ⊢
    simp only at hlen ⊢
    cases hs : vs.all shownC with
    | true =>
      rw [hs, if_pos rfl] at hlen
      rw [if_pos rfl]
      exact p_valueOf_q (hx := false) h0 (by omega) rfl rfl (fun h => by cases h) (fun _ => ⟨R_undbl vs, rfl⟩)
    | false =>
      rw [hs, if_neg (by simp)] at hlen
      rw [if_neg (by simp)]
      exact p_valueOf_q (hx := true) h0 (by omega) rfl rfl (fun _ => p_bytesOf_ev vs (by omega)) (fun h => by cases h)
  · obtain ⟨q1, q2, q3⟩ := hn h0
    simp only at q1 q2 q3
    subst q1
    have hl15 : t.2.1.toNat ≤ 15 := by unfold TypeOK at hT; omega
    have hpw : (10 : Int) ^ t.2.1.toNat ≤ 1000000000000000 := by
      have : (10 : Nat) ^ t.2.1.toNat ≤ 10 ^ 15 := Nat.pow_le_pow_right (by decide) hl15
      have h2 : ((10 ^ t.2.1.toNat : Nat) : Int) ≤ ((10 ^ 15 : Nat) : Int) := by exact_mod_cast this
      simpa using h2
    obtain ⟨x, hF⟩ := n_ParseNumber_ev vn t.2.2.1.toNat (by omega) (by omega) (by omega)
    rw [nat_of hb.2.2.2.2.1] at hF
    unfold valueT
    rw [if_neg h0]
    exact Ev.step (p_valueOf_eq · _ _) (Ev.tt (by simp [h0]) (Ev.bind hF (Ev.ret.eq (by simp))))
end Mini

/- Splitting texts. -/
namespace Mini
open Go

theorem split_miss {c : UInt8} {x : Str} (h : c ∉ x) : Lib.split x [c] = [x] := by
  have hi := index_one_miss x h
  unfold Lib.split
  rw [Lib.count_miss hi]; rfl
theorem split_hit {c : UInt8} {x : Str} (y : Str) (h : c ∉ x) : Lib.split (x ++ c :: y) [c] = x :: Lib.split y [c] := by
  have hi := index_one_hit x y h
  have hd : (x ++ c :: y).drop (x.length + 1) = y := by
    rw [show x ++ c :: y = (x ++ [c]) ++ y by simp]; exact List.drop_left' (by simp)
  have ht : (x ++ c :: y).take x.length = x := List.take_left' rfl
  unfold Lib.split
  rw [Lib.count_hit (by simp) hi, Nat.add_comm 1, show [c].length = 1 from rfl, hd]
  rw [Lib.splitK, if_neg (by rw [hi]; simp), hi]
  show (x ++ c :: y).take (x.length + 0) :: Lib.splitK [c] 0 _ ((x ++ c :: y).drop (x.length + 1)) = _
  rw [hd, Nat.add_zero, ht]
theorem split_join {c : UInt8} : ∀ (ws : List Str), ws ≠ [] → (∀ w ∈ ws, c ∉ w) → Lib.split (Lib.join ws [c]) [c] = ws := by
  intro ws
  induction ws with
  | nil => intro h; exact absurd rfl h
  | cons x r ih =>
    intro _ h
    have hx := h x (by simp)
    cases r with
    | nil => rw [Lib.join_one, split_miss hx]
    | cons y r =>
      have e : Lib.join (x :: y :: r) [c] = x ++ c :: Lib.join (y :: r) [c] := by
        rw [Lib.join_cons, Lib.join_cons]; simp [Lib.joinTail]
      rw [e, split_hit _ hx, ih (by simp) (fun w hw => h w (by simp [hw]))]
theorem split_any {c : UInt8} : ∀ (n : Nat) (s : Str), s.length ≤ n → (∀ p ∈ Lib.split s [c], p.length ≤ s.length) ∧ (Lib.split s [c]).length ≤ s.length + 1 ∧ (∀ b ∈ s, b ≠ c → ∃ p ∈ Lib.split s [c], b ∈ p) := by
  intro n
  induction n with
  | zero =>
    intro s h
    have : s = [] := List.eq_nil_of_length_eq_zero (by omega)
    subst this
    rw [split_miss (by simp)]
    exact ⟨fun p hp => by rw [List.mem_singleton.1 hp]; exact Nat.le_refl _, by simp, fun b hb => by cases hb⟩
  | succ n ih =>
    intro s h
    by_cases hc : c ∈ s
    · obtain ⟨x, y, rfl, hx⟩ := List.eq_append_cons_of_mem hc
      rw [split_hit y hx]
      rw [List.length_append, List.length_cons] at h
      obtain ⟨i1, i2, i3⟩ := ih y (by omega)
      refine ⟨fun p hp => ?_, by simp; omega, fun b hb hbc => ?_⟩
      · rcases List.mem_cons.1 hp with rfl | hp
        · simp
        · have := i1 p hp
          simp; omega
      · rcases List.mem_append.1 hb with hb | hb
        · exact ⟨x, by simp, hb⟩
        · rcases List.mem_cons.1 hb with hb | hb
          · exact absurd hb hbc
          · obtain ⟨p, hp, hbp⟩ := i3 b hb hbc
            exact ⟨p, by simp [hp], hbp⟩
    · rw [split_miss hc]
      exact ⟨fun p hp => by rw [List.mem_singleton.1 hp]; exact Nat.le_refl _, by simp, fun b hb _ => ⟨s, by simp, hb⟩⟩
variable [MX]
theorem s_Split_ev (s : Str) (c : UInt8) (h : s.length < 1000000) : Ev (fun k => s_Split k s [c]) (Lib.split s [c]) := by
  refine Ev.ext (s_Split_eq · _ _) ?_
  unfold xSplit
  rw [if_pos ⟨by omega, Nat.le_refl _⟩, Lib.splitB_data]
  rfl
/-- a cut at one byte -/
theorem s_Cut_one (s : Str) (c : UInt8) (h : s.length < 1000000) : (c ∉ s ∧ Ev (fun k => s_Cut k s [c]) (s, [], false)) ∨ ∃ x y, s = x ++ c :: y ∧ c ∉ x ∧ Ev (fun k => s_Cut k s [c]) (x, y, true) := by
  by_cases hc : c ∈ s
  · obtain ⟨x, y, rfl, hx⟩ := List.eq_append_cons_of_mem hc
    exact .inr ⟨x, y, rfl, hx, cut_one h hx⟩
  · exact .inl ⟨hc, cut_one_miss h hc⟩
end Mini

/- Declared operands read back. -/
namespace Mini
open Go

theorem nameFrom_bytes : ∀ (l : Str) (b : Bool), nameFrom b l = true → ∀ c ∈ l, (letterB c.toNat || otherB c.toNat) = true := by
  intro l
  induction l with
  | nil => intro b _ c hc; cases hc
  | cons x l ih =>
    intro b h c hc
    unfold nameFrom at h
    rw [Bool.and_eq_true] at h
    rcases List.mem_cons.1 hc with rfl | hc
    · have h1 := h.1
      rw [Bool.or_eq_true, Bool.and_eq_true] at h1
      rw [Bool.or_eq_true]
      rcases h1 with h1 | h1
      · exact .inl h1
      · exact .inr h1.2
    · exact ih false h.2 c hc
theorem name_no {s : Str} (h : isNameB s = true) {c : UInt8} (hc : (letterB c.toNat || otherB c.toNat) = false) : c ∉ s := by
  intro hm
  unfold isNameB at h
  rw [Bool.and_eq_true] at h
  have := nameFrom_bytes s true h.2 c hm
  rw [hc] at this
  cases this
theorem gTypes_no (n : Nat) (h : n < 4) : (32 : UInt8) ∉ gTypes.getD n [] ∧ (10 : UInt8) ∉ gTypes.getD n [] := by
  have : n = 0 ∨ n = 1 ∨ n = 2 ∨ n = 3 := by omega
  rcases this with rfl | rfl | rfl | rfl <;> decide

variable [MX]
theorem typeT_no {t : DataType} (hT : TypeOK t) (h4 : t.1 ≠ 4) : (32 : UInt8) ∉ typeT t ∧ (10 : UInt8) ∉ typeT t := by
  have hb := hT.bounds
  obtain ⟨g1, g2⟩ := gTypes_no t.1.toNat (by omega)
  have a1 : (32 : UInt8) ∉ dd t.2.1.toNat := not_mem_digits (by decide)
  have a2 : (32 : UInt8) ∉ dd t.2.2.1.toNat := not_mem_digits (by decide)
  have b1 : (10 : UInt8) ∉ dd t.2.1.toNat := not_mem_digits (by decide)
  have b2 : (10 : UInt8) ∉ dd t.2.2.1.toNat := not_mem_digits (by decide)
  unfold typeT
  constructor
  · split <;> simp only [List.mem_append, List.mem_cons, List.mem_nil_iff, not_or, not_false_eq_true, and_true, or_false]
    · exact ⟨⟨⟨g1, by decide⟩, a1⟩, by decide⟩
    · exact ⟨⟨⟨⟨g1, by decide⟩, a1⟩, by decide, a2⟩, by decide⟩
  · split <;> simp only [List.mem_append, List.mem_cons, List.mem_nil_iff, not_or, not_false_eq_true, and_true, or_false]
    · exact ⟨⟨⟨g2, by decide⟩, b1⟩, by decide⟩
    · exact ⟨⟨⟨⟨g2, by decide⟩, b1⟩, by decide, b2⟩, by decide⟩

theorem p_declared_32_init {t : DataType} {v : Val} (h : ValueOK t v) (x4 nm : Str) (kd : Int) (hk : (eqS x4 [67, 79, 78] = true ∧ kd = 4) ∨ (eqS x4 [67, 79, 78] = false ∧ kd = 0)) :
    Ev (fun k => p_declared_32 k x4 (typeT t ++ 32 :: ([73, 78, 73, 84] ++ 40 :: (valueT t v ++ [41]))) [] 0 0 0 0 0 [] [] 0 0 nm 0 0 0 0 0 [] [] 0 0) ((nm, kd, t, v, [], 0, 0, ()), true) := by
  have hT := h.1
  have h4 := h.2.1
  have lt := typeT_len hT h4
  have lv := valueT_len h
  have hV := p_valueOf_ev h
  have c1 := cut_one (c := 32) (x := typeT t) (y := [73, 78, 73, 84] ++ 40 :: (valueT t v ++ [41])) (by simp; omega) (typeT_no hT h4).1
  have c2 := cut_one (c := 40) (x := [73, 78, 73, 84]) (y := valueT t v ++ [41]) (by simp; omega) (by decide)
  have hS := s_CutSuffix_ev (valueT t v ++ [41]) [41] (by simp; omega)
  rw [(suffix_hit _ [41]).1, (suffix_hit _ [41]).2] at hS
  rcases hk with ⟨hk, rfl⟩ | ⟨hk, rfl⟩
  · exact Ev.step (p_declared_32_eq · _ _ _ _ _ _ _ _ _ _ _ _ _ _ _ _ _ _ _ _ _ _) (Ev.bind c1 (Ev.bind (p_typeOf_ev hT h4) (Ev.bind c2 (Ev.bind hS (Ev.ff rfl (Ev.tt rfl (Ev.tt hk (Ev.step (p_declared_52_eq · _ _ _ _ _ _ _ _ _ _ _ _ _ _ _ _ _ _ _ _ _ _ _ _) (Ev.bind hV Ev.ret)))))))))
  · exact Ev.step (p_declared_32_eq · _ _ _ _ _ _ _ _ _ _ _ _ _ _ _ _ _ _ _ _ _ _) (Ev.bind c1 (Ev.bind (p_typeOf_ev hT h4) (Ev.bind c2 (Ev.bind hS (Ev.ff rfl (Ev.tt rfl (Ev.ff hk (Ev.step (p_declared_52_eq · _ _ _ _ _ _ _ _ _ _ _ _ _ _ _ _ _ _ _ _ _ _ _ _) (Ev.bind hV Ev.ret)))))))))
theorem p_declared_32_base {t : DataType} (hT : TypeOK t) (h4 : t.1 ≠ 4) {bs : Str} (hb : isNameB bs = true) {off : Int} (h0 : 0 ≤ off) (h1 : off ≤ 256) (nm w : Str) (kd : Int) (hk : (w = [68, 69, 70] ∧ kd = 1) ∨ (w = [66, 65, 83] ∧ kd = 2)) :
    Ev (fun k => p_declared_32 k [68, 68] (typeT t ++ 32 :: (w ++ 40 :: ((bs ++ 44 :: dd off.toNat) ++ [41]))) [] 0 0 0 0 0 [] [] 0 0 nm 0 0 0 0 0 [] [] 0 0) ((nm, kd, t, (0, [], ()), bs, off, 0, ()), true) := by
  have lt := typeT_len hT h4
  have lb := (isName_len hb).2
  have ld := dd_len3 (x := off) (by omega)
  have lw : w.length = 3 ∧ (40 : UInt8) ∉ w ∧ eqS w [73, 78, 73, 84] = false := by rcases hk with ⟨rfl, _⟩ | ⟨rfl, _⟩ <;> exact ⟨rfl, by decide, rfl⟩
  have c1 := cut_one (c := 32) (x := typeT t) (y := w ++ 40 :: ((bs ++ 44 :: dd off.toNat) ++ [41])) (by simp; omega) (typeT_no hT h4).1
  have c2 := cut_one (c := 40) (x := w) (y := (bs ++ 44 :: dd off.toNat) ++ [41]) (by simp; omega) lw.2.1
  have hS := s_CutSuffix_ev ((bs ++ 44 :: dd off.toNat) ++ [41]) [41] (by simp; omega)
  rw [(suffix_hit _ [41]).1, (suffix_hit _ [41]).2] at hS
  have c3 := cut_one (c := 44) (x := bs) (y := dd off.toNat) (by simp; omega) (name_no hb rfl)
  have hN := p_natural_dd off.toNat (by omega)
  rw [nat_of h0] at hN
  have hI := (p_isName_ev bs (by omega)).eq hb
  rcases hk with ⟨rfl, rfl⟩ | ⟨rfl, rfl⟩
  · exact Ev.step (p_declared_32_eq · _ _ _ _ _ _ _ _ _ _ _ _ _ _ _ _ _ _ _ _ _ _) (Ev.bind c1 (Ev.bind (p_typeOf_ev hT h4) (Ev.bind c2 (Ev.bind hS (Ev.ff rfl (Ev.ff rfl (Ev.bind c3 (Ev.bind hN (Ev.tt rfl (Ev.step (p_declared_72_eq · _ _ _ _ _ _ _ _ _ _ _ _ _ _ _ _ _ _ _ _ _ _ _) (Ev.bind (Ev.tt rfl hI) Ev.ret)))))))))))
  · exact Ev.step (p_declared_32_eq · _ _ _ _ _ _ _ _ _ _ _ _ _ _ _ _ _ _ _ _ _ _) (Ev.bind c1 (Ev.bind (p_typeOf_ev hT h4) (Ev.bind c2 (Ev.bind hS (Ev.ff rfl (Ev.ff rfl (Ev.bind c3 (Ev.bind hN (Ev.ff rfl (Ev.tt rfl (Ev.step (p_declared_72_eq · _ _ _ _ _ _ _ _ _ _ _ _ _ _ _ _ _ _ _ _ _ _ _) (Ev.bind (Ev.tt rfl hI) Ev.ret))))))))))))

def sDCL : Str := [68, 67, 76, 32]
/-- a declared operand's line reads as the operand -/
theorem p_declared_ev {o : MiOperand} (h : LineIn o) : ∃ r, opLine o = sDCL ++ r ∧ Ev (fun k => p_declared k r) (o, true) := by
  have hlen := opLine_len h
  obtain ⟨h1, h2, h3, h4, h5, h6, h7⟩ := h
  have ln := (isName_len h1).2
  have hno : (32 : UInt8) ∉ o.1 := name_no h1 rfl
  obtain ⟨nm, kd, ty, vl, bs, off, tg, ⟨⟩⟩ := o
  simp only at h1 h2 h4 h5 h6 h7 ln hno
  rcases kinds h2.1 h2.2 with h | h | h | h | h | h <;> subst h
  · have hV := h5 (.inl rfl)
    obtain ⟨q1, q2, q3⟩ := h3.1 (.inl rfl)
    simp only at q1 q2 q3
    subst q1 q2 q3
    refine ⟨[68, 68] ++ 32 :: (nm ++ 32 :: (typeT ty ++ 32 :: ([73, 78, 73, 84] ++ 40 :: (valueT ty vl ++ [41])))), by simp [opLine, sDD, sDCL], ?_⟩
    have e : opLine (nm, 0, ty, vl, [], 0, 0, ()) = sDCL ++ ([68, 68] ++ 32 :: (nm ++ 32 :: (typeT ty ++ 32 :: ([73, 78, 73, 84] ++ 40 :: (valueT ty vl ++ [41]))))) := by simp [opLine, sDD, sDCL]
    rw [e] at hlen
    simp [sDCL] at hlen
    exact Ev.step (p_declared_eq · _) (Ev.bind (cut_one (by simp; omega) (by decide)) (Ev.bind (cut_one (by simp; omega) hno) (Ev.ff rfl (Ev.ff rfl (Ev.tt rfl (Ev.tt rfl (p_declared_32_init hV _ _ _ (.inr ⟨rfl, rfl⟩))))))))
  · obtain ⟨t1, t2⟩ := h4 rfl
    obtain ⟨b1, b2, b3⟩ := h6 (.inl rfl)
    obtain ⟨q1, q2, q3⟩ := h3.2.1 (.inl rfl)
    obtain ⟨vn, vs, ⟨⟩⟩ := vl
    simp only at q1 q2 q3
    subst q1 q2 q3
    have e : opLine (nm, 1, ty, (0, [], ()), bs, off, 0, ()) = sDCL ++ ([68, 68] ++ 32 :: (nm ++ 32 :: (typeT ty ++ 32 :: ([68, 69, 70] ++ 40 :: ((bs ++ 44 :: dd off.toNat) ++ [41]))))) := by simp [opLine, sDD, sDCL]
    refine ⟨_, e, ?_⟩
    rw [e] at hlen
    simp [sDCL] at hlen
    exact Ev.step (p_declared_eq · _) (Ev.bind (cut_one (by simp; omega) (by decide)) (Ev.bind (cut_one (by simp; omega) hno) (Ev.ff rfl (Ev.ff rfl (Ev.tt rfl (Ev.tt rfl (p_declared_32_base t1 t2 b1 b2 b3 _ _ _ (.inl ⟨rfl, rfl⟩))))))))
  · obtain ⟨t1, t2⟩ := h4 rfl
    obtain ⟨b1, b2, b3⟩ := h6 (.inr rfl)
    obtain ⟨q1, q2, q3⟩ := h3.2.1 (.inr rfl)
    obtain ⟨vn, vs, ⟨⟩⟩ := vl
    simp only at q1 q2 q3
    subst q1 q2 q3
    have e : opLine (nm, 2, ty, (0, [], ()), bs, off, 0, ()) = sDCL ++ ([68, 68] ++ 32 :: (nm ++ 32 :: (typeT ty ++ 32 :: ([66, 65, 83] ++ 40 :: ((bs ++ 44 :: dd off.toNat) ++ [41]))))) := by simp [opLine, sDD, sDCL]
    refine ⟨_, e, ?_⟩
    rw [e] at hlen
    simp [sDCL] at hlen
    exact Ev.step (p_declared_eq · _) (Ev.bind (cut_one (by simp; omega) (by decide)) (Ev.bind (cut_one (by simp; omega) hno) (Ev.ff rfl (Ev.ff rfl (Ev.tt rfl (Ev.tt rfl (p_declared_32_base t1 t2 b1 b2 b3 _ _ _ (.inr ⟨rfl, rfl⟩))))))))
  · obtain ⟨⟨q1, q2, q3⟩, ⟨q4, q5⟩, q6, q7, q8⟩ := h3.2.2.1 rfl
    obtain ⟨ta, tl, ts, ⟨⟩⟩ := ty
    obtain ⟨vn, vs, ⟨⟩⟩ := vl
    simp only at q1 q2 q3 q4 q5 q6 q7 q8
    subst q1 q2 q3 q4 q5 q6 q7 q8
    refine ⟨[80, 84, 82] ++ 32 :: nm, by simp [opLine, sPTR, sDCL], ?_⟩
    exact Ev.step (p_declared_eq · _) (Ev.bind (cut_one (by simp; omega) (by decide)) (Ev.bind (cut_one_miss (by show nm.length < 1000000; omega) hno) (Ev.tt rfl Ev.ret)))
  · have hV := h5 (.inr rfl)
    obtain ⟨q1, q2, q3⟩ := h3.1 (.inr rfl)
    simp only at q1 q2 q3
    subst q1 q2 q3
    have e : opLine (nm, 4, ty, vl, [], 0, 0, ()) = sDCL ++ ([67, 79, 78] ++ 32 :: (nm ++ 32 :: (typeT ty ++ 32 :: ([73, 78, 73, 84] ++ 40 :: (valueT ty vl ++ [41]))))) := by simp [opLine, sCON, sDCL]
    refine ⟨_, e, ?_⟩
    rw [e] at hlen
    simp [sDCL] at hlen
    exact Ev.step (p_declared_eq · _) (Ev.bind (cut_one (by simp; omega) (by decide)) (Ev.bind (cut_one (by simp; omega) hno) (Ev.ff rfl (Ev.ff rfl (Ev.ff rfl (Ev.tt rfl (p_declared_32_init hV _ _ _ (.inl ⟨rfl, rfl⟩))))))))
  · obtain ⟨g1, g2⟩ := h7 rfl
    obtain ⟨⟨q1, q2, q3⟩, ⟨q4, q5⟩, q6, q7⟩ := h3.2.2.2 rfl
    obtain ⟨ta, tl, ts, ⟨⟩⟩ := ty
    obtain ⟨vn, vs, ⟨⟩⟩ := vl
    simp only at q1 q2 q3 q4 q5 q6 q7
    subst q1 q2 q3 q4 q5 q6 q7
    have ld := dd_len3 (x := tg) (by omega)
    have hN := p_natural_dd tg.toNat (by omega)
    rw [nat_of g1] at hN
    refine ⟨[76, 65, 66, 69, 76] ++ 32 :: (nm ++ 32 :: dd tg.toNat), by simp [opLine, sLAB, sDCL], ?_⟩
    exact Ev.step (p_declared_eq · _) (Ev.bind (cut_one (by simp; omega) (by decide)) (Ev.bind (cut_one (by simp; omega) hno) (Ev.ff rfl (Ev.tt rfl (Ev.bind hN Ev.ret)))))
end Mini
