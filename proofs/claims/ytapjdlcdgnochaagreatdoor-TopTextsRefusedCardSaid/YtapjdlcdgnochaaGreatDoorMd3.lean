/- The plain law: what the equations answer, whatever the program. -/
import Derived.Test.YtapjdlcdgnochaaGreatDoorMd2
set_option linter.unusedSectionVars false
set_option linter.unusedSimpArgs false
set_option linter.unusedVariables false

/- Any line that was read holds no byte 10. -/
namespace Mini
open Go
variable [MX]

theorem n_FormatNumber_any (n : Int) (c : Nat) : ∃ s e, Ev (fun k => n_FormatNumber k (n, (c : Int), ())) (s, e) ∧ s.length ≤ 100 ∧ (10 : UInt8) ∉ s := by
  by_cases h : (-999999999999999 ≤ n ∧ n ≤ 999999999999999) ∧ c ≤ 15
  · obtain ⟨⟨h1, h2⟩, h3⟩ := h
    have := numT_len n c (abs_len h1 h2) h3
    exact ⟨_, _, n_FormatNumber_ev c h3 h1 h2, by omega, numT_no10 n c⟩
  · have hC : ∃ e, Ev (fun k => n_CheckNumber k (n, (c : Int), ())) e ∧ e ≠ 0 := by
      cases h1 : inB n (-999999999999999) 999999999999999 with
      | false => exact ⟨3, Ev.step (n_CheckNumber_eq · _) (Ev.bind ((n_in_ev _ _ _).eq h1) (Ev.bind (y := false) (Ev.ff rfl Ev.ret) (Ev.bind (y := 3) (n_cond_ev true 3) Ev.ret))), by decide⟩
      | true =>
        have h1' := (inB_iff _ _ _).1 h1
        have h2 : inB (c : Int) 0 15 = false := by
          rw [Bool.eq_false_iff]
          intro h2
          have := (inB_iff _ _ _).1 h2
          exact h ⟨h1', by omega⟩
        exact ⟨3, Ev.step (n_CheckNumber_eq · _) (Ev.bind ((n_in_ev _ _ _).eq h1) (Ev.bind (y := false) (Ev.tt rfl ((n_in_ev _ _ _).eq h2)) (Ev.bind (y := 3) (n_cond_ev true 3) Ev.ret))), by decide⟩
    obtain ⟨e, hC, he⟩ := hC
    exact ⟨[], e, Ev.step (n_FormatNumber_eq · _) (Ev.bind hC (Ev.tt (by simpa using he) Ev.ret)), by simp, by simp⟩
theorem p_valueText_any {n l c : Nat} {v : Val} (hv : v.2.1.length < 1000000) : ∃ s, Ev (fun k => p_valueText k ((n : Int), (l : Int), (c : Int), ()) v) s ∧ s.length ≤ 3000000 ∧ (10 : UInt8) ∉ s := by
  by_cases h0 : n = 0
  · subst h0
    have hd := dbl_len v.2.1
    have hh := hexT_len v.2.1
    cases hs : v.2.1.all shownC with
    | true =>
      have hR := s_Replace_ev (s := v.2.1) (old := [39]) (new := [39, 39]) (by simp) (by simp) hv (by simp)
      rw [R_dbl] at hR
      refine ⟨_, Ev.step (p_valueText_eq · _ v) (Ev.ff rfl (Ev.bind ((p_isShown_ev _ hv).eq hs) (Ev.tt rfl (Ev.bind hR (Ev.let (catL_eq (by simp; omega)) (Ev.let (catL_eq (by simp; omega)) Ev.ret)))))), by simp; omega, ?_⟩
      have := dbl_no10 v.2.1 hs
      simp [this]
    | false =>
      have h17 := p_valueText_17_ev v.2.1 [] [88, 39] (by simpa using hv) (by simp)
      refine ⟨_, Ev.step (p_valueText_eq · _ v) (Ev.ff rfl (Ev.bind ((p_isShown_ev _ hv).eq hs) (Ev.ff rfl (Ev.let (bytesL_eq hv) h17)))), ?_, ?_⟩
      · simp only [List.length_append, textT_len, List.length_cons, List.length_nil]; omega
      · have := hexT_no10 v.2.1
        simp only [List.mem_append, not_or]
        exact ⟨⟨by decide, this⟩, by decide⟩
  · obtain ⟨s, e, h1, h2, h3⟩ := n_FormatNumber_any v.1 c
    exact ⟨s, Ev.step (p_valueText_eq · _ v) (Ev.tt (by simp; omega) (Ev.bind h1 Ev.ret)), by omega, h3⟩
theorem p_operandLine_any {o : MiOperand} (h : DeclOK o) (hn : isNameB o.1 = true) : ∃ s, Ev (fun k => p_operandLine k o) s ∧ (10 : UInt8) ∉ s := by
  obtain ⟨nm, kd, ty, vl, bs, off, tg, _⟩ := o
  obtain ⟨h1, ⟨n, l, c, hlt, ht, hl1, hl2⟩, h3, ⟨m, hm, hm1⟩, ⟨g, hg, hg1⟩, _, hv⟩ := h
  simp only at h1 ht h3 hm hg hn hv
  subst ht hm hg
  have ln := (isName_len hn).2
  have nn : (10 : UInt8) ∉ nm := name_no hn rfl
  obtain ⟨st, t1, t2, t3⟩ := p_typeText_any hlt hl1 hl2
  obtain ⟨sv, v1, v2, v3⟩ := p_valueText_any (n := n) (l := l) (c := c) (v := vl) hv
  have dm := dd_len18 hm1
  have dg := dd_len18 hg1
  have nm10 : (10 : UInt8) ∉ dd m := not_mem_digits (by decide)
  have ng10 : (10 : UInt8) ∉ dd g := not_mem_digits (by decide)
  rcases kinds h1.1 h1.2 with h | h | h | h | h | h <;> subst h
  · refine ⟨_, Ev.step (p_operandLine_eq · _) (Ev.tt rfl (Ev.let (catL_eq (by simp; omega)) (Ev.let (catL_eq (by simp; omega)) (Ev.bind t1 (Ev.let (catL_eq (by simp; omega)) (Ev.let (catL_eq (by simp; omega)) (Ev.bind v1 (Ev.let (catL_eq (by simp; omega)) (Ev.let (catL_eq (by simp; omega)) Ev.ret))))))))), ?_⟩
    simp [nn, t3, v3]
  · have hb := h3 (.inl rfl)
    have lb := (isName_len hb).2
    have nb : (10 : UInt8) ∉ bs := name_no hb rfl
    refine ⟨_, Ev.step (p_operandLine_eq · _) (Ev.ff rfl (Ev.tt rfl (Ev.let (catL_eq (by simp; omega)) (Ev.let (catL_eq (by simp; omega)) (Ev.bind t1 (Ev.let (catL_eq (by simp; omega)) (Ev.let (catL_eq (by simp; omega)) (Ev.let (catL_eq (by simp; omega)) (Ev.let (catL_eq (by simp; omega)) (Ev.bind (c_Itoa_ev m hm1) (Ev.let (catL_eq (by simp; omega)) (Ev.let (catL_eq (by simp; omega)) Ev.ret)))))))))))), ?_⟩
    simp [nn, t3, nb, nm10]
  · have hb := h3 (.inr rfl)
    have lb := (isName_len hb).2
    have nb : (10 : UInt8) ∉ bs := name_no hb rfl
    refine ⟨_, Ev.step (p_operandLine_eq · _) (Ev.ff rfl (Ev.ff rfl (Ev.tt rfl (Ev.let (catL_eq (by simp; omega)) (Ev.let (catL_eq (by simp; omega)) (Ev.bind t1 (Ev.let (catL_eq (by simp; omega)) (Ev.let (catL_eq (by simp; omega)) (Ev.let (catL_eq (by simp; omega)) (Ev.let (catL_eq (by simp; omega)) (Ev.bind (c_Itoa_ev m hm1) (Ev.let (catL_eq (by simp; omega)) (Ev.let (catL_eq (by simp; omega)) Ev.ret))))))))))))), ?_⟩
    simp [nn, t3, nb, nm10]
  · refine ⟨_, Ev.step (p_operandLine_eq · _) (Ev.ff rfl (Ev.ff rfl (Ev.ff rfl (Ev.tt rfl (Ev.let (catL_eq (by simp; omega)) Ev.ret))))), ?_⟩
    simp [nn]
  · refine ⟨_, Ev.step (p_operandLine_eq · _) (Ev.ff rfl (Ev.ff rfl (Ev.ff rfl (Ev.ff rfl (Ev.tt rfl (Ev.let (catL_eq (by simp; omega)) (Ev.let (catL_eq (by simp; omega)) (Ev.bind t1 (Ev.let (catL_eq (by simp; omega)) (Ev.let (catL_eq (by simp; omega)) (Ev.bind v1 (Ev.let (catL_eq (by simp; omega)) (Ev.let (catL_eq (by simp; omega)) Ev.ret))))))))))))), ?_⟩
    simp [nn, t3, v3]
  · refine ⟨_, Ev.step (p_operandLine_eq · _) (Ev.ff rfl (Ev.ff rfl (Ev.ff rfl (Ev.ff rfl (Ev.ff rfl (Ev.let (catL_eq (by simp; omega)) (Ev.let (catL_eq (by simp; omega)) (Ev.bind (c_Itoa_ev g hg1) (Ev.let (catL_eq (by simp; omega)) Ev.ret))))))))), ?_⟩
    simp [nn, ng10]

/-! ### whole lines -/
theorem p_read_19_any (e0 e1 : Int) (e2 : Str) (e3 e4 e5 e6 e7 : Int) (e8 e9 : Str) (e10 e11 e12 : Int) (e13 : List Str) (e14 e15 e16 e17 : Int) : ∀ (suf pre : List Str) (acc : List Int), (pre ++ suf).length < 1000010 → (∀ w ∈ suf, w.length < 1000000) → acc.length = pre.length →
    ∃ l ok, Ev (fun k => p_read_19 k acc (pre ++ suf) ((pre ++ suf).length : Int) (pre.length : Int) e0 e1 e2 e3 e4 e5 e6 e7 e8 e9 e10 e11 e12 e13 e14 e15 e16 e17) (l, ok) ∧ (ok = true → ∀ w ∈ suf, (10 : UInt8) ∉ w) := by
  intro suf
  induction suf with
  | nil =>
    intro pre acc _ _ ha
    by_cases h4 : acc.length = 4
    · obtain ⟨a, b, c, d, rfl⟩ : ∃ a b c d, acc = [a, b, c, d] := by
        match acc, h4 with
        | [a, b, c, d], _ => exact ⟨a, b, c, d, rfl⟩
      exact ⟨_, _, Ev.step (p_read_19_eq · _ _ _ _ _ _ _ _ _ _ _ _ _ _ _ _ _ _ _ _ _ _) (Ev.ff (lt_end pre) (Ev.ff rfl (Ev.let rfl (Ev.let rfl (Ev.let rfl (Ev.let rfl Ev.ret)))))), fun _ w hw => by cases hw⟩
    · exact ⟨_, _, Ev.step (p_read_19_eq · _ _ _ _ _ _ _ _ _ _ _ _ _ _ _ _ _ _ _ _ _ _) (Ev.ff (lt_end pre) (Ev.tt (by simp; omega) Ev.ret)), fun _ w hw => by cases hw⟩
  | cons x suf ih =>
    intro pre acc hl hw ha
    have hp : pre.length + 1 ≤ 9223372036854775807 := by simp at hl; omega
    have hpl : pre.length < 1000010 := by simp at hl; omega
    obtain ⟨n, ok, hn, hok⟩ := p_natural_ev x (hw x (by simp))
    cases ok with
    | false => exact ⟨_, _, Ev.step (p_read_19_eq · _ _ _ _ _ _ _ _ _ _ _ _ _ _ _ _ _ _ _ _ _ _) (Ev.tt (lt_mid pre x suf) (Ev.let (rd_mid pre x suf) (Ev.bind hn (Ev.tt rfl Ev.ret)))), fun h => by cases h⟩
    | true =>
      obtain ⟨m, rfl, hx, _⟩ := hok rfl
      obtain ⟨l, ok, h1, h2⟩ := ih (pre ++ [x]) (acc ++ [(m : Int)]) (by simpa using hl) (fun w h => hw w (by simp [h])) (by simp [ha])
      rw [← next pre x hp, ← mid_next pre x suf] at h1
      refine ⟨l, ok, Ev.step (p_read_19_eq · _ _ _ _ _ _ _ _ _ _ _ _ _ _ _ _ _ _ _ _ _ _) (Ev.tt (lt_mid pre x suf) (Ev.let (rd_mid pre x suf) (Ev.bind hn (Ev.ff rfl (Ev.let (catL_eq (by simp; omega)) h1))))), fun h w hm => ?_⟩
      rcases List.mem_cons.1 hm with rfl | hm
      · rw [hx]; exact not_mem_digits (by decide)
      · exact h2 h w hm
theorem x_IndexFunc2_5_ev : ∀ (suf pre : List Str), (pre ++ suf).length < 1000010 → (∀ w ∈ suf, w.length < 1000000) → Ev (fun k => x_IndexFunc2_5 k (pre ++ suf) ((pre ++ suf).length : Int) (pre.length : Int)) (fIdx (fun w => !isNameB w) pre.length suf) := by
  intro suf
  induction suf with
  | nil => intro pre _ _; exact Ev.step (x_IndexFunc2_5_eq · _ _ _) (Ev.ff (lt_end pre) Ev.ret)
  | cons x suf ih =>
    intro pre hl hw
    have hp : pre.length + 1 ≤ 9223372036854775807 := by simp at hl; omega
    refine Ev.step (x_IndexFunc2_5_eq · _ _ _) (Ev.tt (lt_mid pre x suf) (Ev.let (rd_mid pre x suf) (Ev.bind (Ev.step (p_read_1_eq · _) (Ev.bind (p_isName_ev x (hw x (by simp))) Ev.ret)) ?_)))
    cases hx : isNameB x with
    | false => exact Ev.tt rfl (Ev.ret.eq (by simp [fIdx, hx]))
    | true =>
      refine Ev.ff rfl ?_
      rw [next pre x hp, mid_next pre x suf]
      rw [mid_next pre _ suf] at hl
      exact (ih _ hl (fun w h => hw w (by simp [h]))).eq (by simp [fIdx, hx])
theorem x_ContainsFunc_ev (l : List Str) (hl : l.length < 1000010) (hw : ∀ w ∈ l, w.length < 1000000) : Ev (fun k => x_ContainsFunc k l) (!l.all isNameB) := by
  refine Ev.step (x_ContainsFunc_eq · l) (Ev.bind (Ev.step (x_IndexFunc2_eq · l) (x_IndexFunc2_5_ev l [] hl hw)) (Ev.ret.eq ?_))
  show decide (0 ≤ fIdx (fun w => !isNameB w) 0 l) = _
  rcases fIdx_spec (fun w => !isNameB w) l 0 with ⟨e1, e2⟩ | ⟨j, u, e1, e2, e3, _⟩
  · rw [e1]
    have : l.all isNameB = true := List.all_eq_true.2 fun x hx => by simpa using e2 x hx
    rw [this]; rfl
  · rw [e3]
    have : l.all isNameB = false := by
      rw [Bool.eq_false_iff]
      intro hh
      have := List.all_eq_true.1 hh u (List.mem_of_getElem? e1)
      rw [this] at e2; cases e2
    rw [this]
    simp
theorem gNames_facts : ∀ w ∈ gNames, (10 : UInt8) ∉ w ∧ (32 : UInt8) ∉ w ∧ w ≠ [] ∧ w.head? ≠ some 97 ∧ w.getLast? ≠ some 59 ∧ eqS w sMON = false ∧ w.take 2 ≠ [68, 67] := by decide
theorem names_idx (v : Str) : fIdx (fun x => eqS v x) 0 gNames = -1 ∨ (v ∈ gNames ∧ 0 ≤ fIdx (fun x => eqS v x) 0 gNames) := by
  rcases fIdx_spec (fun x => eqS v x) gNames 0 with ⟨h, _⟩ | ⟨j, u, h1, h2, h3, _⟩
  · exact .inl h
  · have := (eqS_iff _ _).1 h2
    subst this
    exact .inr ⟨List.mem_of_getElem? h1, by rw [h3]; omega⟩
/-- what a line that was read may be -/
def GoodL (s : Str) : Prop := (10 : UInt8) ∉ s ∧ s.head? ≠ some 97
theorem p_read_44_ev (x : Int) (ws : List Str) (hl : ws.length < 1000010) (hw : ∀ w ∈ ws, w.length < 1000000) :
    Ev (fun k => p_read_44 k 0 0 [] 0 0 0 0 0 [] [] 0 0 0 [] 0 0 0 0 0 2 [] 0 0 0 0 0 [] [] 0 0 x ws 0 0 0 0) ((0, 2, ([], 0, (0, 0, 0, ()), (0, [], ()), [], 0, 0, ()), x, ws, (0, 0, 0, 0, ()), ()), decide (0 ≤ x) && ws.all isNameB) := by
  refine Ev.step (p_read_44_eq · _ _ _ _ _ _ _ _ _ _ _ _ _ _ _ _ _ _ _ _ _ _ _ _ _ _ _ _ _ _ _ _ _ _ _ _) ?_
  cases hx : decide (0 ≤ x) with
  | true => exact Ev.bind (Ev.tt rfl (x_ContainsFunc_ev ws hl hw)) (Ev.ret.eq (by rw [bsel_tt, nt_not, Bool.not_not, Bool.true_and]))
  | false => exact Ev.bind (Ev.ff rfl Ev.ret) (Ev.ret.eq rfl)
theorem p_read_any (s : Str) (hs : s.length < 1000000) : ∃ l ok, Ev (fun k => p_read k s) (l, ok) ∧ (ok = true → GoodL s) := by
  have hP : Ev (fun k => s_CutPrefix k s [68, 67, 76, 32]) (Lib.trimPrefix s [68, 67, 76, 32], Lib.hasPrefix s [68, 67, 76, 32]) := Ev.ext (s_CutPrefix_eq · _ _) rfl
  have hl := trimPrefix_len s [68, 67, 76, 32]
  cases hh : Lib.hasPrefix s [68, 67, 76, 32] with
  | true =>
    rw [hh] at hP
    have head : s.head? ≠ some 97 := by
      unfold Lib.hasPrefix at hh
      rw [List.isPrefixOf_iff_prefix] at hh
      obtain ⟨r, hr⟩ := hh
      rw [← hr]
      simp
    obtain ⟨o, ok, h1, h2⟩ := p_declared_any (Lib.trimPrefix s [68, 67, 76, 32]) (by omega)
    cases ok with
    | false => exact ⟨_, _, Ev.step (p_read_eq · _) (Ev.bind hP (Ev.tt rfl (Ev.bind h1 (Ev.bind (y := false) (Ev.ff rfl Ev.ret) (Ev.bind (y := []) (Ev.ff rfl Ev.ret) Ev.ret))))), fun h => by cases h⟩
    | true =>
      have hD := h2 rfl
      have hI := p_isName_ev o.1 hD.2.2.2.2.2.1
      cases hn : isNameB o.1 with
      | false =>
        rw [hn] at hI
        exact ⟨_, _, Ev.step (p_read_eq · _) (Ev.bind hP (Ev.tt rfl (Ev.bind h1 (Ev.bind (y := false) (Ev.tt rfl hI) (Ev.bind (y := []) (Ev.ff rfl Ev.ret) Ev.ret))))), fun h => by cases h⟩
      | true =>
        rw [hn] at hI
        obtain ⟨y, q1, q2⟩ := p_operandLine_any hD hn
        refine ⟨_, _, Ev.step (p_read_eq · _) (Ev.bind hP (Ev.tt rfl (Ev.bind h1 (Ev.bind (y := true) (Ev.tt rfl hI) (Ev.bind (Ev.tt rfl q1) Ev.ret))))), fun h => ?_⟩
        have h' : eqS y s = true := h
        rw [(eqS_iff _ _).1 h'] at q2
        exact ⟨q2, head⟩
  | false =>
    rw [hh] at hP
    have hG : subL gNames 0 (gNames.length : Int) = some gNames := rfl
    rcases s_Cut_one s 32 hs with ⟨hno, hC⟩ | ⟨x, y, hxy, hx, hC⟩
    · cases hM : eqS s [77, 79, 78, 73, 84, 79, 82] with
      | true =>
        have e := (eqS_iff _ _).1 hM
        have h0 := s_Split_ev [] 32 (by decide)
        obtain ⟨l, ok, h1, h2⟩ := p_read_19_any 0 0 [] 0 0 0 0 0 [] [] 0 0 0 [] 0 0 0 0 (Lib.split [] [32]) [] [] (by decide) (by decide) rfl
        exact ⟨l, ok, Ev.step (p_read_eq · _) (Ev.bind hP (Ev.ff rfl (Ev.bind hC (Ev.tt hM (Ev.bind h0 h1))))), fun _ => by rw [e]; exact ⟨by decide, by decide⟩⟩
      | false =>
        have hI := x_Index_ev gNames s (by decide)
        have h44 := p_read_44_ev (fIdx (fun x => eqS s x) 0 gNames) [] (by decide) (by decide)
        refine ⟨_, _, Ev.step (p_read_eq · _) (Ev.bind hP (Ev.ff rfl (Ev.bind hC (Ev.ff hM (Ev.let hG (Ev.bind hI (Ev.ff rfl h44))))))), fun h => ?_⟩
        rcases names_idx s with hi | ⟨hi, _⟩
        · rw [hi] at h; cases h
        · have := gNames_facts s hi
          exact ⟨this.1, this.2.2.2.1⟩
    · have hyl : y.length < 1000000 := by rw [hxy] at hs; simp at hs; omega
      cases hM : eqS x [77, 79, 78, 73, 84, 79, 82] with
      | true =>
        have e := (eqS_iff _ _).1 hM
        have h0 := s_Split_ev y 32 hyl
        obtain ⟨a1, a2, a3⟩ := split_any (c := 32) y.length y (Nat.le_refl _)
        obtain ⟨l, ok, h1, h2⟩ := p_read_19_any 0 0 [] 0 0 0 0 0 [] [] 0 0 0 [] 0 0 0 0 (Lib.split y [32]) [] [] (by simp; omega) (fun w hw => by have := a1 w hw; omega) rfl
        refine ⟨l, ok, Ev.step (p_read_eq · _) (Ev.bind hP (Ev.ff rfl (Ev.bind hC (Ev.tt hM (Ev.bind h0 h1))))), fun h => ⟨?_, ?_⟩⟩
        · rw [hxy, e]
          intro hm
          rcases List.mem_append.1 hm with hm | hm
          · exact absurd hm (by decide)
          · rcases List.mem_cons.1 hm with hm | hm
            · exact absurd hm (by decide)
            · obtain ⟨p, p1, p2⟩ := a3 10 hm (by decide)
              exact h2 h p p1 p2
        · rw [hxy, e]; simp
      | false =>
        have hI := x_Index_ev gNames x (by decide)
        have h0 := s_Split_ev y 44 hyl
        obtain ⟨a1, a2, a3⟩ := split_any (c := 44) y.length y (Nat.le_refl _)
        have h44 := p_read_44_ev (fIdx (fun u => eqS x u) 0 gNames) (Lib.split y [44]) (by omega) (fun w hw => by have := a1 w hw; omega)
        refine ⟨_, _, Ev.step (p_read_eq · _) (Ev.bind hP (Ev.ff rfl (Ev.bind hC (Ev.ff hM (Ev.let hG (Ev.bind hI (Ev.tt rfl (Ev.bind h0 h44)))))))), fun h => ?_⟩
        rw [Bool.and_eq_true] at h
        rcases names_idx x with hi | ⟨hi, _⟩
        · rw [hi] at h; cases h.1
        · have hf := gNames_facts x hi
          refine ⟨?_, ?_⟩
          · rw [hxy]
            intro hm
            rcases List.mem_append.1 hm with hm | hm
            · exact hf.1 hm
            · rcases List.mem_cons.1 hm with hm | hm
              · exact absurd hm (by decide)
              · obtain ⟨p, p1, p2⟩ := a3 10 hm (by decide)
                exact name_no (List.all_eq_true.1 h.2 p p1) rfl p2
          · rw [hxy]
            cases x with
            | nil => exact absurd rfl hf.2.2.1
            | cons b x => exact hf.2.2.2.1
end Mini

/- Every line of a program reads as what it says. -/
namespace Mini
open Go
variable [MX]

theorem names_idx_of : ∀ n : _root_.Fin 19, fIdx (fun x => eqS (gNames.getD n.val []) x) 0 gNames = ((n.val : Nat) : Int) := by decide +kernel
theorem names_mem (n : Nat) (h : n < 19) : gNames.getD n [] ∈ gNames := by
  obtain ⟨s, h1, _, h3⟩ := gNames_small n h
  rw [h3]; exact List.mem_of_getElem? h1
theorem names_noDCL {w : Str} (h : w ∈ gNames) (r : Str) : Lib.hasPrefix (w ++ r) [68, 67, 76, 32] = false := by
  have hf := (gNames_facts w h).2.2.2.2.2.2
  have hne := (gNames_facts w h).2.2.1
  have h32 := (gNames_facts w h).2.1
  rw [Bool.eq_false_iff]
  intro hp
  unfold Lib.hasPrefix at hp
  rw [List.isPrefixOf_iff_prefix] at hp
  obtain ⟨q, hq⟩ := hp
  match w, hne, hf, hq with
  | [a], _, _, hq =>
    have : [a] ∉ gNames := by
      intro h1
      have : ∀ w ∈ gNames, w.length ≠ 1 := by decide
      exact this _ h1 rfl
    exact this h
  | a :: b :: w, _, hf, hq =>
    injection hq with e1 hq
    injection hq with e2 hq
    subst e1 e2
    exact hf rfl

def zOp : MiOperand := ([], 0, (0, 0, 0, ()), (0, [], ()), [], 0, 0, ())
def dOpr (o : MiOperand) : Line := (0, 1, o, 0, [], (0, 0, 0, 0, ()), ())
def dIns (op : Nat) (ws : List Str) : Line := (0, 2, zOp, (op : Int), ws, (0, 0, 0, 0, ()), ())
def dMon (m : MiMonitor) : Line := (0, 3, zOp, 0, [], m, ())

theorem read_opr {o : MiOperand} (h : LineIn o) : Ev (fun k => p_read k (opLine o)) (dOpr o, true) := by
  obtain ⟨r, h1, h2⟩ := p_declared_ev h
  have hO := p_operandLine_ev h
  have hI := (p_isName_ev o.1 (by have := (isName_len h.name).2; omega)).eq h.name
  have hh : Lib.hasPrefix (opLine o) [68, 67, 76, 32] = true := by
    unfold Lib.hasPrefix
    rw [List.isPrefixOf_iff_prefix]
    exact ⟨r, h1.symm⟩
  have ht : Lib.trimPrefix (opLine o) [68, 67, 76, 32] = r := by
    unfold Lib.trimPrefix
    rw [if_pos hh, h1]; rfl
  have hP : Ev (fun k => s_CutPrefix k (opLine o) [68, 67, 76, 32]) (r, true) := Ev.ext (s_CutPrefix_eq · _ _) (by unfold xCutPrefix; rw [hh, ht])
  refine Ev.step (p_read_eq · _) (Ev.bind hP (Ev.tt rfl (Ev.bind h2 (Ev.bind (y := true) (Ev.tt rfl hI) (Ev.bind (Ev.tt rfl hO) (Ev.ret.eq ?_))))))
  show (dOpr o, eqS (opLine o) (opLine o)) = (dOpr o, true)
  rw [eqS_self]
theorem read_ins {op : Nat} (hop : op < 19) {ws : List Str} (hs : Small ws) (hn : ∀ w ∈ ws, isNameB w = true) : Ev (fun k => p_read k (insT (gNames.getD op []) ws)) (dIns op ws, true) := by
  have hm := names_mem op hop
  have hi := names_idx_of ⟨op, hop⟩
  simp only at hi
  generalize gNames.getD op [] = nm at hm hi ⊢
  have hf := gNames_facts nm hm
  have hnl : ∀ w ∈ gNames, w.length ≤ 9 := by decide
  have hnl := hnl nm hm
  have hG : subL gNames 0 (gNames.length : Int) = some gNames := rfl
  have hI := (x_Index_ev gNames nm (by decide)).eq hi
  have h44 := p_read_44_ev (op : Int) ws (by have := hs.1; omega) (fun w hw => by have := hs.2 w hw; omega)
  have hall : ws.all isNameB = true := List.all_eq_true.2 hn
  rw [hall, decide_eq_true (by omega)] at h44
  unfold insT
  by_cases h0 : ws = []
  · rw [if_pos h0]
    subst h0
    have hh := names_noDCL hm []
    rw [List.append_nil] at hh
    have hP : Ev (fun k => s_CutPrefix k nm [68, 67, 76, 32]) (Lib.trimPrefix nm [68, 67, 76, 32], false) := Ev.ext (s_CutPrefix_eq · _ _) (by unfold xCutPrefix; rw [hh])
    exact Ev.step (p_read_eq · _) (Ev.bind hP (Ev.ff rfl (Ev.bind (cut_one_miss (by omega) hf.2.1) (Ev.ff hf.2.2.2.2.2.1 (Ev.let hG (Ev.bind hI (Ev.ff rfl h44)))))))
  · rw [if_neg h0]
    have hh := names_noDCL hm (32 :: Lib.join ws [44])
    have hl := join_len [44] (by decide) 10 ws hs.2
    have h4 : (10 + 2) * ws.length ≤ 12 * 10 := Nat.mul_le_mul (by omega) hs.1
    have hP : Ev (fun k => s_CutPrefix k (nm ++ 32 :: Lib.join ws [44]) [68, 67, 76, 32]) (Lib.trimPrefix (nm ++ 32 :: Lib.join ws [44]) [68, 67, 76, 32], false) := Ev.ext (s_CutPrefix_eq · _ _) (by unfold xCutPrefix; rw [hh])
    have hS := s_Split_ev (Lib.join ws [44]) 44 (by omega)
    rw [split_join ws h0 (fun w hw => name_no (hn w hw) rfl)] at hS
    exact Ev.step (p_read_eq · _) (Ev.bind hP (Ev.ff rfl (Ev.bind (cut_one (by simp; omega) hf.2.1) (Ev.ff hf.2.2.2.2.2.1 (Ev.let hG (Ev.bind hI (Ev.tt rfl (Ev.bind hS h44))))))))
theorem read_mon {n : Nat} {m : MiMonitor} (hn : n ≤ 40) (h : MonOK n m) : Ev (fun k => p_read k (monLine m)) (dMon m, true) := by
  obtain ⟨h1, h2, h3, h4, h5⟩ := h
  obtain ⟨m1, m2, m3, m4, _⟩ := m
  simp only at h1 h2 h3 h4 h5
  have l1 := dd_len3 (x := m1) (by omega)
  have l2 := dd_len3 (x := m2) (by omega)
  have l3 := dd_len3 (x := m3) (by omega)
  have l4 := dd_len3 (x := m4) (by omega)
  have i1 := p_natural_dd m1.toNat (by omega)
  have i2 := p_natural_dd m2.toNat (by omega)
  have i3 := p_natural_dd m3.toNat (by omega)
  have i4 := p_natural_dd m4.toNat (by omega)
  rw [nat_of (by omega)] at i1 i2 i3 i4
  have n1 : ∀ q : Nat, (32 : UInt8) ∉ dd q := fun q => not_mem_digits (by decide)
  have hh : Lib.hasPrefix (monLine (m1, m2, m3, m4, ())) [68, 67, 76, 32] = false := rfl
  have hP : Ev (fun k => s_CutPrefix k (monLine (m1, m2, m3, m4, ())) [68, 67, 76, 32]) (Lib.trimPrefix (monLine (m1, m2, m3, m4, ())) [68, 67, 76, 32], false) := Ev.ext (s_CutPrefix_eq · _ _) (by unfold xCutPrefix; rw [hh])
  have hC := cut_one (c := 32) (x := sMON) (y := dd m1.toNat ++ 32 :: (dd m2.toNat ++ 32 :: (dd m3.toNat ++ 32 :: dd m4.toNat))) (by simp [sMON]; omega) (by decide)
  have hS := s_Split_ev (dd m1.toNat ++ 32 :: (dd m2.toNat ++ 32 :: (dd m3.toNat ++ 32 :: dd m4.toNat))) 32 (by simp; omega)
  rw [split_hit _ (n1 _), split_hit _ (n1 _), split_hit _ (n1 _), split_miss (n1 _)] at hS
  refine Ev.step (p_read_eq · _) (Ev.bind hP (Ev.ff rfl (Ev.bind hC (Ev.tt rfl (Ev.bind hS ?_)))))
  refine Ev.step (p_read_19_eq · _ _ _ _ _ _ _ _ _ _ _ _ _ _ _ _ _ _ _ _ _ _) (Ev.tt rfl (Ev.let rfl (Ev.bind i1 (Ev.ff rfl (Ev.let rfl ?_)))))
  refine Ev.step (p_read_19_eq · _ _ _ _ _ _ _ _ _ _ _ _ _ _ _ _ _ _ _ _ _ _) (Ev.tt rfl (Ev.let rfl (Ev.bind i2 (Ev.ff rfl (Ev.let rfl ?_)))))
  refine Ev.step (p_read_19_eq · _ _ _ _ _ _ _ _ _ _ _ _ _ _ _ _ _ _ _ _ _ _) (Ev.tt rfl (Ev.let rfl (Ev.bind i3 (Ev.ff rfl (Ev.let rfl ?_)))))
  refine Ev.step (p_read_19_eq · _ _ _ _ _ _ _ _ _ _ _ _ _ _ _ _ _ _ _ _ _ _) (Ev.tt rfl (Ev.let rfl (Ev.bind i4 (Ev.ff rfl (Ev.let rfl ?_)))))
  exact Ev.step (p_read_19_eq · _ _ _ _ _ _ _ _ _ _ _ _ _ _ _ _ _ _ _ _ _ _) (Ev.ff rfl (Ev.ff rfl (Ev.let rfl (Ev.let rfl (Ev.let rfl (Ev.let rfl Ev.ret))))))
end Mini

/- Reading the lines of a text, one after the other. -/
namespace Mini
open Go

theorem first_eq {c : UInt8} : ∀ (a b y r : Str), c ∉ a → c ∉ b → a ++ c :: y = b ++ c :: r → a = b := by
  intro a
  induction a with
  | nil =>
    intro b y r _ hb h
    cases b with
    | nil => rfl
    | cons x b =>
      injection h with h1 _
      exact absurd (by simp [h1]) hb
  | cons x a ih =>
    intro b y r ha hb h
    cases b with
    | nil =>
      injection h with h1 _
      exact absurd (by simp [h1]) ha
    | cons x' b =>
      injection h with h1 h2
      subst h1
      rw [ih b y r (fun e => ha (by simp [e])) (fun e => hb (by simp [e])) h2]
theorem index_split (s sub : Str) : Lib.index s sub = -1 ∨ ∃ x y, s = x ++ sub ++ y ∧ Lib.index s sub = (x.length : Int) := by
  induction s with
  | nil =>
    unfold Lib.index
    cases sub with
    | nil => exact .inr ⟨[], [], rfl, rfl⟩
    | cons => exact .inl rfl
  | cons c s ih =>
    cases hp : sub.isPrefixOf (c :: s) with
    | true =>
      have hp' := hp
      rw [List.isPrefixOf_iff_prefix] at hp'
      obtain ⟨r, hr⟩ := hp'
      refine .inr ⟨[], r, by rw [← hr]; rfl, ?_⟩
      rw [Lib.index, hp]; rfl
    | false =>
      rcases ih with h | ⟨x, y, h1, h2⟩
      · left; rw [index_skip hp, h]; rfl
      · refine .inr ⟨c :: x, y, by rw [h1]; simp, ?_⟩
        rw [index_past hp h2]; rfl

variable [MX]
theorem s_Cut_two (s : Str) (h : s.length < 1000000) : Ev (fun k => s_Cut k s [59, 10]) (s, [], false) ∨ ∃ x y, s = x ++ 59 :: 10 :: y ∧ Ev (fun k => s_Cut k s [59, 10]) (x, y, true) := by
  rcases index_split s [59, 10] with hi | ⟨x, y, h1, h2⟩
  · exact .inl (s_Cut_miss h hi)
  · exact .inr ⟨x, y, by rw [h1]; simp, s_Cut_hit h h1 h2⟩

/-- a line and what it says -/
structure ReadsL (it : Str × Line) : Prop where
  ev : Ev (fun k => p_read k it.1) (it.2, true)
  no : (10 : UInt8) ∉ it.1
  last : it.1.getLast? ≠ some 59
def Ord : Int → List (Str × Line) → Prop
  | _, [] => True
  | n, it :: r => n ≤ it.2.2.1 ∧ Ord it.2.2.1 r
def lastP : Int → List (Str × Line) → Int
  | n, [] => n
  | _, it :: r => lastP it.2.2.1 r
def datas : Nat → List (Str × Line) → List Line
  | _, [] => []
  | n, it :: r => ((n : Int), it.2.2) :: datas (n + it.1.length + 2) r
def fsts (its : List (Str × Line)) : List Str := its.map (·.1)

section
variable {acc : List Line} {part : Int} {b0 : List MiOperand} {b1 : List MiInstruction} {b2 : List MiMonitor}
theorem parse_step {z : MiProgram × Int × Int} {pre L r : Str} {d : Line} (hl : (pre ++ (L ++ 59 :: 10 :: r)).length < 1000000) (hr : ReadsL (L, d)) (hp : part ≤ d.2.1) (ha : acc.length ≤ 1000000)
    (hk : Ev (fun k => p_ParseProgram_11 k (pre ++ (L ++ 59 :: 10 :: r)) (acc ++ [((pre.length : Int), d.2)]) ((pre.length + L.length + 2 : Nat) : Int) d.2.1 b0 b1 b2) z) :
    Ev (fun k => p_ParseProgram_11 k (pre ++ (L ++ 59 :: 10 :: r)) acc (pre.length : Int) part b0 b1 b2) z := by
  have hlen : pre.length + (L.length + (r.length + 2)) < 1000000 := by simpa using hl
  have hlt : decide ((pre.length : Int) < ((pre ++ (L ++ 59 :: 10 :: r)).length : Int)) = true := by simp; omega
  have s1 : subL (pre ++ (L ++ 59 :: 10 :: r)) (pre.length : Int) ((pre ++ (L ++ 59 :: 10 :: r)).length : Int) = some (L ++ 59 :: 10 :: r) := by
    rw [subL_eq (by simp) (Nat.le_refl _), List.take_length, List.drop_left' rfl]
  have w1 : w64 ((pre.length : Int) + (L.length : Int)) = (((pre ++ L).length : Nat) : Int) := by rw [w64_id (by omega) (by omega), List.length_append]; rfl
  have s3 : subL (pre ++ (L ++ 59 :: 10 :: r)) (w64 ((pre.length : Int) + (L.length : Int))) ((pre ++ (L ++ 59 :: 10 :: r)).length : Int) = some (59 :: 10 :: r) := by
    rw [w1, subL_eq (by simp) (Nat.le_refl _), List.take_length, ← List.append_assoc, List.drop_left' rfl]
  have w2 : w64 ((pre.length : Int) + w64 ((L.length : Int) + 2)) = ((pre.length + L.length + 2 : Nat) : Int) := by
    rw [w64_id (n := (L.length : Int) + 2) (by omega) (by omega), w64_id (by omega) (by omega)]; omega
  have c3 : bsel (bsel (nt true) true (nt true)) true (decide (d.2.1 < part)) = false := by
    show decide (d.2.1 < part) = false
    exact decide_eq_false (by omega)
  refine Ev.step (p_ParseProgram_11_eq · _ _ _ _ _ _ _) (Ev.tt hlt (Ev.let s1 (Ev.bind (cut_line (by simp; omega) hr.no) (Ev.let s3 (Ev.bind ((s_HasPrefix_ev (59 :: 10 :: r) [59, 10]).eq (x := Lib.hasPrefix (59 :: 10 :: r) [59, 10]) (y := true) (by simp [Lib.hasPrefix, List.isPrefixOf])) (Ev.bind hr.ev (Ev.ff c3 (Ev.let (catL_eq (by simp; omega)) ?_))))))))
  rw [w2]
  exact hk
theorem parse_bad {pre rest x y : Str} {b ok : Bool} {l : Line} (hne : rest ≠ []) (hl : (pre ++ rest).length < 1000000) (hc : Ev (fun k => s_Cut k rest [59, 10]) (x, y, b)) (hx : x.length ≤ rest.length) (hr : Ev (fun k => p_read k x) (l, ok))
    (hbad : ok = false ∨ Lib.hasPrefix (rest.drop x.length) [59, 10] = false ∨ l.2.1 < part) :
    Ev (fun k => p_ParseProgram_11 k (pre ++ rest) acc (pre.length : Int) part b0 b1 b2) (([], [], [], ()), (pre.length : Int), 8) := by
  have hlen : pre.length + rest.length < 1000000 := by simpa using hl
  have hpos : 0 < rest.length := List.length_pos_iff.2 hne
  have hlt : decide ((pre.length : Int) < ((pre ++ rest).length : Int)) = true := by simp; omega
  have s1 : subL (pre ++ rest) (pre.length : Int) ((pre ++ rest).length : Int) = some rest := by
    rw [subL_eq (by simp) (Nat.le_refl _), List.take_length, List.drop_left' rfl]
  have w1 : w64 ((pre.length : Int) + (x.length : Int)) = ((pre.length + x.length : Nat) : Int) := by rw [w64_id (by omega) (by omega)]; rfl
  have s3 : subL (pre ++ rest) (w64 ((pre.length : Int) + (x.length : Int))) ((pre ++ rest).length : Int) = some (rest.drop x.length) := by
    rw [w1, subL_eq (by simp; omega) (Nat.le_refl _), List.take_length, ← List.drop_drop, List.drop_left' rfl]
  refine Ev.step (p_ParseProgram_11_eq · _ _ _ _ _ _ _) (Ev.tt hlt (Ev.let s1 (Ev.bind hc (Ev.let s3 (Ev.bind (s_HasPrefix_ev _ _) (Ev.bind hr (Ev.tt ?_ Ev.ret)))))))
  rcases hbad with h | h | h
  · rw [h]; rfl
  · rw [h]; cases ok <;> rfl
  · have : decide (l.2.1 < part) = true := decide_eq_true h
    rw [this]
    cases (bsel (nt ok) true (nt (Lib.hasPrefix (rest.drop x.length) [59, 10]))) <;> rfl
theorem parse_lines {z : MiProgram × Int × Int} {rest : Str} : ∀ (its : List (Str × Line)) (pre : Str) (acc : List Line) (part : Int), (∀ it ∈ its, ReadsL it) → Ord part its → (pre ++ (txt (fsts its) ++ rest)).length < 1000000 → acc.length + its.length ≤ 1000000 →
    Ev (fun k => p_ParseProgram_11 k (pre ++ (txt (fsts its) ++ rest)) (acc ++ datas pre.length its) ((pre.length + (txt (fsts its)).length : Nat) : Int) (lastP part its) b0 b1 b2) z →
    Ev (fun k => p_ParseProgram_11 k (pre ++ (txt (fsts its) ++ rest)) acc (pre.length : Int) part b0 b1 b2) z := by
  intro its
  induction its with
  | nil =>
    intro pre acc part _ _ _ _ h
    simpa [datas, lastP, fsts, txt] using h
  | cons it its ih =>
    intro pre acc part hR hO hl ha hk
    obtain ⟨L, d⟩ := it
    have e : pre ++ (txt (fsts ((L, d) :: its)) ++ rest) = pre ++ (L ++ 59 :: 10 :: (txt (fsts its) ++ rest)) := by
      show pre ++ (txt (L :: fsts its) ++ rest) = _
      rw [txt_cons]; simp
    have e2 : pre ++ (L ++ 59 :: 10 :: (txt (fsts its) ++ rest)) = (pre ++ (L ++ [59, 10])) ++ (txt (fsts its) ++ rest) := by simp
    have hlen : (pre ++ (L ++ [59, 10])).length = pre.length + L.length + 2 := by simp; omega
    have htl : (txt (fsts ((L, d) :: its))).length = L.length + 2 + (txt (fsts its)).length := by
      show (txt (L :: fsts its)).length = _
      rw [txt_cons]; simp; omega
    rw [e] at hl hk ⊢
    rw [List.length_cons] at ha
    refine parse_step hl (hR _ (by simp)) hO.1 (by omega) ?_
    have hi := ih (pre ++ (L ++ [59, 10])) (acc ++ [((pre.length : Int), d.2)]) d.2.1 (fun it h => hR it (by simp [h])) hO.2 (by rw [← e2]; exact hl) (by simp; omega)
    rw [← e2, hlen] at hi
    refine hi ?_
    rw [htl] at hk
    have e3 : acc ++ [((pre.length : Int), d.2)] ++ datas (pre.length + L.length + 2) its = acc ++ datas pre.length ((L, d) :: its) := by simp [datas]
    rw [e3, show pre.length + L.length + 2 + (txt (fsts its)).length = pre.length + (L.length + 2 + (txt (fsts its)).length) by omega]
    exact hk

/-- a line that is run together with the next one -/
theorem parse_joined {pre L r : Str} (hl : (pre ++ (L ++ 10 :: r)).length < 1000000) (hno : (10 : UInt8) ∉ L) (hlast : L.getLast? ≠ some 59) :
    Ev (fun k => p_ParseProgram_11 k (pre ++ (L ++ 10 :: r)) acc (pre.length : Int) part b0 b1 b2) (([], [], [], ()), (pre.length : Int), 8) := by
  have hne : L ++ 10 :: r ≠ [] := by simp
  have hl' : (L ++ 10 :: r).length < 1000000 := by rw [List.length_append] at hl; omega
  rcases s_Cut_two (L ++ 10 :: r) hl' with hc | ⟨x, y, hxy, hc⟩
  · obtain ⟨l, ok, h1, _⟩ := p_read_any (L ++ 10 :: r) hl'
    exact parse_bad hne hl hc (Nat.le_refl _) h1 (.inr (.inl (by rw [List.drop_length]; rfl)))
  · have hxl : x.length ≤ (L ++ 10 :: r).length := by rw [hxy]; simp
    obtain ⟨l, ok, h1, h2⟩ := p_read_any x (by omega)
    refine parse_bad hne hl hc hxl h1 (.inl ?_)
    cases ok with
    | false => rfl
    | true =>
      exfalso
      have hx := (h2 rfl).1
      have := first_eq L (x ++ [59]) r y hno (by simpa using hx) (by rw [hxy]; simp)
      rw [this] at hlast
      simp at hlast
/-- a line with a small letter before it -/
theorem parse_small {pre L r : Str} (hl : (pre ++ (97 :: L ++ 59 :: 10 :: r)).length < 1000000) (hno : (10 : UInt8) ∉ L) :
    Ev (fun k => p_ParseProgram_11 k (pre ++ (97 :: L ++ 59 :: 10 :: r)) acc (pre.length : Int) part b0 b1 b2) (([], [], [], ()), (pre.length : Int), 8) := by
  have hl' : (97 :: L ++ 59 :: 10 :: r).length < 1000000 := by rw [List.length_append] at hl; omega
  have hc := cut_line (x := 97 :: L) (y := r) hl' (by simp [hno])
  have hxl : (97 :: L).length ≤ (97 :: L ++ 59 :: 10 :: r).length := by simp
  obtain ⟨l, ok, h1, h2⟩ := p_read_any (97 :: L) (by omega)
  refine parse_bad (by simp) hl hc hxl h1 (.inl ?_)
  cases ok with
  | false => rfl
  | true => exact absurd rfl (h2 rfl).2
/-- a line without its end -/
theorem parse_open {pre L : Str} (hl : (pre ++ (L ++ [59])).length < 1000000) (hno : (10 : UInt8) ∉ L) :
    Ev (fun k => p_ParseProgram_11 k (pre ++ (L ++ [59])) acc (pre.length : Int) part b0 b1 b2) (([], [], [], ()), (pre.length : Int), 8) := by
  have hl' : (L ++ [59]).length < 1000000 := by rw [List.length_append] at hl; omega
  have hc : Ev (fun k => s_Cut k (L ++ [59]) [59, 10]) (L ++ [59], [], false) := s_Cut_miss hl' (index_two_miss _ (by simp [hno]))
  obtain ⟨l, ok, h1, _⟩ := p_read_any (L ++ [59]) hl'
  exact parse_bad (by simp) hl hc (Nat.le_refl _) h1 (.inr (.inl (by rw [List.drop_length]; rfl)))
/-- a line that stands too late -/
theorem parse_late {pre L r : Str} {d : Line} (hl : (pre ++ (L ++ 59 :: 10 :: r)).length < 1000000) (hr : ReadsL (L, d)) (hp : d.2.1 < part) :
    Ev (fun k => p_ParseProgram_11 k (pre ++ (L ++ 59 :: 10 :: r)) acc (pre.length : Int) part b0 b1 b2) (([], [], [], ()), (pre.length : Int), 8) := by
  have hl' : (L ++ 59 :: 10 :: r).length < 1000000 := by rw [List.length_append] at hl; omega
  exact parse_bad (by simp) hl (cut_line hl' hr.no) (by simp) hr.ev (.inr (.inr hp))
end
end Mini

/- The program of the lines. -/
namespace Mini
open Go
variable [MX]

def opsOf : List Line → List MiOperand
  | [] => []
  | l :: r => if l.2.1 = 1 then l.2.2.1 :: opsOf r else opsOf r
def monsOf : List Line → List MiMonitor
  | [] => []
  | l :: r => if l.2.1 = 3 then l.2.2.2.2.2.1 :: monsOf r else monsOf r

theorem p_programOf_9_ev {x0 : List Line} {z : MiProgram × Int × Int} (hx : x0.length ≤ 1000) (u0 : List MiOperand) (u1 : List MiInstruction) (u2 : List MiMonitor) : ∀ (suf pre : List Line) (a0 : List MiOperand) (a2 : List MiMonitor) (q0 q1 q2 q3 : List Int), pre ++ suf = x0 → (∀ l ∈ suf, l.2.1 = 1 ∨ l.2.1 = 2 ∨ l.2.1 = 3) →
    a0.length ≤ pre.length → a2.length ≤ pre.length → q0.length ≤ pre.length + 1 → q1.length ≤ pre.length → q2.length ≤ pre.length → q3.length ≤ pre.length →
    (∀ q0 q1 q2 q3 : List Int, Ev (fun k => p_programOf_29 k x0 (x0.length : Int) 0 u0 u1 u2 (a0 ++ opsOf suf) [] (a2 ++ monsOf suf) q0 q1 q2 q3) z) →
    Ev (fun k => p_programOf_9 k x0 x0 (x0.length : Int) (pre.length : Int) u0 u1 u2 a0 [] a2 q0 q1 q2 q3) z := by
  intro suf
  induction suf with
  | nil =>
    intro pre a0 a2 q0 q1 q2 q3 he _ _ _ _ _ _ _ hk
    have hlt : decide ((pre.length : Int) < (x0.length : Int)) = false := by rw [← he]; exact lt_end pre
    have := hk q0 q1 q2 q3
    simp only [opsOf, monsOf, List.append_nil] at this
    exact Ev.step (p_programOf_9_eq · _ _ _ _ _ _ _ _ _ _ _ _ _ _) (Ev.ff hlt this)
  | cons l suf ih =>
    intro pre a0 a2 q0 q1 q2 q3 he hp h0 h2 g0 g1 g2 g3 hk
    have hpl : pre.length < 1000 := by rw [← he] at hx; simp at hx; omega
    have hpp : pre.length + 1 ≤ 9223372036854775807 := by omega
    have hlt : decide ((pre.length : Int) < (x0.length : Int)) = true := by rw [← he]; exact lt_mid pre l suf
    have hrd : rd x0 (pre.length : Int) = some l := by rw [← he]; exact rd_mid pre l suf
    have hn := next pre l hpp
    have he' : (pre ++ [l]) ++ suf = x0 := by rw [← he]; simp
    have hlen : (pre ++ [l]).length = pre.length + 1 := by simp
    have ih' := fun a0 a2 q0 q1 q2 q3 => ih (pre ++ [l]) a0 a2 q0 q1 q2 q3 he' (fun x hx => hp x (by simp [hx]))
    rw [hlen] at ih'
    rw [hlen] at hn
    rcases hp l (by simp) with h | h | h
    · have c0 : decide (l.2.1 = 0) = false := by rw [h]; rfl
      have c1 : decide (l.2.1 = 1) = true := by rw [h]; rfl
      refine Ev.step (p_programOf_9_eq · _ _ _ _ _ _ _ _ _ _ _ _ _ _) (Ev.tt hlt (Ev.let hrd (Ev.ff c0 (Ev.tt c1 (Ev.let (catL_eq (by simp; omega)) (Ev.ff c0 (Ev.tt c1 (Ev.tt c1 (Ev.let (catL_eq (by simp; omega)) ?_)))))))))
      rw [hn]
      refine ih' _ _ _ _ _ _ (by simp; omega) (by omega) (by omega) (by simp; omega) (by omega) (by omega) (fun q0 q1 q2 q3 => ?_)
      have := hk q0 q1 q2 q3
      simpa [opsOf, monsOf, h] using this
    · have c0 : decide (l.2.1 = 0) = false := by rw [h]; rfl
      have c1 : decide (l.2.1 = 1) = false := by rw [h]; rfl
      have c2 : decide (l.2.1 = 2) = true := by rw [h]; rfl
      have c3 : decide (l.2.1 = 3) = false := by rw [h]; rfl
      refine Ev.step (p_programOf_9_eq · _ _ _ _ _ _ _ _ _ _ _ _ _ _) (Ev.tt hlt (Ev.let hrd (Ev.ff c0 (Ev.ff c1 (Ev.tt c2 (Ev.let (catL_eq (by simp; omega)) (Ev.ff c0 (Ev.ff c1 (Ev.tt c2 (Ev.ff c1 (Ev.ff c3 ?_)))))))))))
      rw [hn]
      refine ih' _ _ _ _ _ _ (by omega) (by omega) (by omega) (by omega) (by simp; omega) (by omega) (fun q0 q1 q2 q3 => ?_)
      have := hk q0 q1 q2 q3
      simpa [opsOf, monsOf, h] using this
    · have c0 : decide (l.2.1 = 0) = false := by rw [h]; rfl
      have c1 : decide (l.2.1 = 1) = false := by rw [h]; rfl
      have c2 : decide (l.2.1 = 2) = false := by rw [h]; rfl
      have c3 : decide (l.2.1 = 3) = true := by rw [h]; rfl
      refine Ev.step (p_programOf_9_eq · _ _ _ _ _ _ _ _ _ _ _ _ _ _) (Ev.tt hlt (Ev.let hrd (Ev.ff c0 (Ev.ff c1 (Ev.ff c2 (Ev.tt c3 (Ev.let (catL_eq (by simp; omega)) (Ev.ff c0 (Ev.ff c1 (Ev.ff c2 (Ev.tt c3 (Ev.ff c1 (Ev.tt c3 (Ev.let (catL_eq (by simp; omega)) ?_))))))))))))))
      rw [hn]
      refine ih' _ _ _ _ _ _ (by omega) (by simp; omega) (by omega) (by omega) (by omega) (by simp; omega) (fun q0 q1 q2 q3 => ?_)
      have := hk q0 q1 q2 q3
      simpa [opsOf, monsOf, h] using this

/-- the arguments are the first operands of their names -/
def ArgAt (a : List MiOperand) (x : Int) : Prop := ∃ (j : Nat) (o : MiOperand), x = (j : Int) ∧ a[j]? = some o ∧ fIdx (fun u => eqS u.1 o.1) 0 a = (j : Int)
/-- these lines say these instructions -/
def Says (a : List MiOperand) : List Line → List MiInstruction → Prop
  | [], xs => xs = []
  | l :: r, xs => (l.2.1 ≠ 2 ∧ Says a r xs) ∨ (l.2.1 = 2 ∧ ∃ (op : Nat) (args : List Int) (xs' : List MiInstruction), op < 19 ∧ l.2.2.2.1 = (op : Int) ∧ l.2.2.2.2.1 = argNames a args ∧ args.length = (rolesL.getD op []).length ∧ (∀ x ∈ args, ArgAt a x) ∧ xs = ((op : Int), args, ()) :: xs' ∧ Says a r xs')
theorem gOps_rd (op : Nat) (h : op < 19) : ∃ r, rd gOperations (op : Int) = some r ∧ r.length = (rolesL.getD op []).length := by
  rw [ops_roles, rd_nat, List.getElem?_map]
  have : rolesL[op]? = some (rolesL.getD op []) := by
    rw [List.getD_eq_getElem?_getD]
    cases hr : rolesL[op]? with
    | none =>
      rw [List.getElem?_eq_none_iff] at hr
      exact absurd (show rolesL.length = 19 from rfl) (by omega)
    | some x => rfl
  rw [this]
  exact ⟨_, rfl, by simp⟩

section
variable {a : List MiOperand} {x0 : List Line} {z : MiProgram × Int × Int} {u0 : List MiOperand} {u1 : List MiInstruction} {u2 c : List MiMonitor} {q0 q1 q2 q3 : List Int}
theorem p_programOf_43_ev (ha : a.length < 1000) {op : Nat} {i : Int} {acc : List MiInstruction} (hacc : acc.length < 1000) (args : List Int) (hal : args.length ≤ 3) (hA : ∀ x ∈ args, ArgAt a x) (b0 b1 : Int) (b2 : Str) (b3 b4 b5 b6 b7 : Int) (b8 b9 : Str) (b10 b11 b12 : Int) (b13 : List Str) (b14 b15 b16 b17 : Int)
    (hk : Ev (fun k => p_programOf_29 k x0 (x0.length : Int) (w64 (i + 1)) u0 u1 u2 a (acc ++ [((op : Int), args, ())]) c q0 q1 q2 q3) z) : ∀ (suf pre : List Int), pre ++ suf = args →
    Ev (fun k => p_programOf_43 k x0 (x0.length : Int) i (argNames a args) ((argNames a args).length : Int) (pre.length : Int) u0 u1 u2 a acc c q0 q1 q2 q3 b0 b1 b2 b3 b4 b5 b6 b7 b8 b9 b10 b11 b12 b13 b14 b15 b16 b17 (op : Int) pre) z := by
  have hL : (argNames a args).length = args.length := by simp [argNames]
  intro suf
  induction suf with
  | nil =>
    intro pre he
    rw [List.append_nil] at he
    subst he
    exact Ev.step (p_programOf_43_eq · _ _ _ _ _ _ _ _ _ _ _ _ _ _ _ _ _ _ _ _ _ _ _ _ _ _ _ _ _ _ _ _ _ _ _ _) (Ev.ff (by rw [hL]; simp) (Ev.let (catL_eq (by simp; omega)) hk))
  | cons x suf ih =>
    intro pre he
    have hpl : pre.length < 3 := by rw [← he] at hal; simp at hal; omega
    have hpp : pre.length + 1 ≤ 9223372036854775807 := by omega
    have hlt : decide ((pre.length : Int) < ((argNames a args).length : Int)) = true := by rw [hL, ← he]; exact lt_mid pre x suf
    obtain ⟨j, o, rfl, h1, h2⟩ := hA x (by rw [← he]; simp)
    have hrd : rd (argNames a args) (pre.length : Int) = some o.1 := by
      rw [rd_nat, ← he]
      simp [argNames, h1]
    have hN := (p_named_ev a o.1 (by omega)).eq h2
    have hi := ih (pre ++ [(j : Int)]) (by rw [← he]; simp)
    rw [← next pre _ hpp] at hi
    exact Ev.step (p_programOf_43_eq · _ _ _ _ _ _ _ _ _ _ _ _ _ _ _ _ _ _ _ _ _ _ _ _ _ _ _ _ _ _ _ _ _ _ _ _) (Ev.tt hlt (Ev.let hrd (Ev.bind hN (Ev.ff (decide_eq_false (by omega)) (Ev.let (catL_eq (by simp; omega)) hi)))))
theorem p_programOf_29_ev (ha : a.length < 1000) (hx : x0.length ≤ 1000) {xs0 : List MiInstruction} (hC : Ev (fun k => p_CheckProgram k (a, xs0, c, ())) ((0, 0, ()), 0)) : ∀ (suf pre : List Line) (acc xs : List MiInstruction), pre ++ suf = x0 → acc ++ xs = xs0 → acc.length ≤ pre.length → Says a suf xs →
    Ev (fun k => p_programOf_29 k x0 (x0.length : Int) (pre.length : Int) u0 u1 u2 a acc c q0 q1 q2 q3) ((a, xs0, c, ()), 0, 0) := by
  intro suf
  induction suf with
  | nil =>
    intro pre acc xs he hxs _ hS
    have hS' : xs = [] := hS
    rw [hS', List.append_nil] at hxs
    subst hxs
    have hlt : decide ((pre.length : Int) < (x0.length : Int)) = false := by rw [← he]; exact lt_end pre
    exact Ev.step (p_programOf_29_eq · _ _ _ _ _ _ _ _ _ _ _ _ _) (Ev.ff hlt (Ev.bind hC (Ev.ff rfl Ev.ret)))
  | cons l suf ih =>
    intro pre acc xs he hxs hal hS
    have hpl : pre.length < 1000 := by rw [← he] at hx; simp at hx; omega
    have hpp : pre.length + 1 ≤ 9223372036854775807 := by omega
    have hlt : decide ((pre.length : Int) < (x0.length : Int)) = true := by rw [← he]; exact lt_mid pre l suf
    have hrd : rd x0 (pre.length : Int) = some l := by rw [← he]; exact rd_mid pre l suf
    have hn := next pre l hpp
    have he' : (pre ++ [l]) ++ suf = x0 := by rw [← he]; simp
    rcases hS with ⟨h, hS⟩ | ⟨h, op, args, xs', hop, e1, e2, e3, e4, rfl, hS⟩
    · have hi := ih (pre ++ [l]) acc xs he' hxs (by simp; omega) hS
      rw [← hn] at hi
      exact Ev.step (p_programOf_29_eq · _ _ _ _ _ _ _ _ _ _ _ _ _) (Ev.tt hlt (Ev.let hrd (Ev.tt (by simpa using h) hi)))
    · have hi := ih (pre ++ [l]) (acc ++ [((op : Int), args, ())]) xs' he' (by rw [← hxs]; simp) (by simp; omega) hS
      rw [← hn] at hi
      obtain ⟨r, hr, hrl⟩ := gOps_rd op hop
      rw [← e1] at hr
      have hargs : args.length ≤ 3 := by have := roles_len op; omega
      have hL : (argNames a args).length = args.length := by simp [argNames]
      refine Ev.step (p_programOf_29_eq · _ _ _ _ _ _ _ _ _ _ _ _ _) (Ev.tt hlt (Ev.let hrd (Ev.ff (by simp [h]) (Ev.let hr (Ev.ff (by rw [e2, hL, hrl, e3]; simp) ?_)))))
      rw [e2, e1]
      exact p_programOf_43_ev ha (by omega) args hargs e4 _ _ _ _ _ _ _ _ _ _ _ _ _ _ _ _ _ _ hi args [] rfl
end
theorem p_programOf_ev {p : MiProgram} {ls : List Line} (hV : Valid p) (hl : ls.length ≤ 1000) (hp : ∀ l ∈ ls, l.2.1 = 1 ∨ l.2.1 = 2 ∨ l.2.1 = 3) (h1 : opsOf ls = p.1) (h2 : monsOf ls = p.2.2.1) (h3 : Says p.1 ls p.2.1) : Ev (fun k => p_programOf k ls) (p, 0, 0) := by
  refine Ev.step (p_programOf_eq · _) (p_programOf_9_ev hl _ _ _ ls [] [] [] _ _ _ _ rfl hp (by simp) (by simp) (by simp) (by simp) (by simp) (by simp) (fun q0 q1 q2 q3 => ?_))
  rw [h1, h2, List.nil_append, List.nil_append]
  exact p_programOf_29_ev (by have := hV.ops; omega) hl (p_CheckProgram_ev hV) ls [] [] p.2.1 rfl rfl (by simp) h3
end Mini

/- The lines of a valid program, and what they say. -/
namespace Mini
open Go

theorem last_ne {s : Str} {c : UInt8} (h : c ∉ s) : s.getLast? ≠ some c := fun e => h (List.mem_of_getLast? e)

variable [MX]
theorem Ev.uniq {α : Type} {f : Nat → Option α} {x y : α} (h1 : Ev f x) (h2 : Ev f y) : x = y := by
  obtain ⟨N, h1⟩ := h1
  obtain ⟨M, h2⟩ := h2
  have e1 := h1 (N + M) (by omega)
  have e2 := h2 (N + M) (by omega)
  exact Option.some.inj (e1.symm.trans e2)
theorem ReadsL.mk' {L : Str} {d : Line} (h : Ev (fun k => p_read k L) (d, true)) (hl : L.length < 1000000) (hlast : L.getLast? ≠ some 59) : ReadsL (L, d) := by
  refine ⟨h, ?_, hlast⟩
  obtain ⟨l, ok, h1, h2⟩ := p_read_any L hl
  have := h.uniq h1
  have hok : ok = true := (congrArg Prod.snd this).symm
  exact (h2 hok).1

theorem opLine_last {o : MiOperand} (h : LineIn o) : (opLine o).getLast? ≠ some 59 := by
  have hn : (59 : UInt8) ∉ o.1 := name_no h.name rfl
  have hd : ∀ n : Nat, (59 : UInt8) ∉ dd n := fun n => not_mem_digits (by decide)
  have e41 : ∀ x : Str, (x ++ [41]).getLast? ≠ some 59 := fun x => by simp
  unfold opLine
  rcases kinds h.kind.1 h.kind.2 with h | h | h | h | h | h <;> rw [h]
  · have := e41 (sDD ++ (o.1 ++ 32 :: (typeT o.2.2.1 ++ [32, 73, 78, 73, 84, 40] ++ valueT o.2.2.1 o.2.2.2.1)))
    simpa using this
  · have := e41 (sDD ++ (o.1 ++ 32 :: (typeT o.2.2.1 ++ [32, 68, 69, 70, 40] ++ (o.2.2.2.2.1 ++ 44 :: dd o.2.2.2.2.2.1.toNat))))
    simpa using this
  · have := e41 (sDD ++ (o.1 ++ 32 :: (typeT o.2.2.1 ++ [32, 66, 65, 83, 40] ++ (o.2.2.2.2.1 ++ 44 :: dd o.2.2.2.2.2.1.toNat))))
    simpa using this
  · refine last_ne ?_
    have : (59 : UInt8) ∉ sPTR := by decide
    simp [hn, this]
  · have := e41 (sCON ++ (o.1 ++ 32 :: (typeT o.2.2.1 ++ [32, 73, 78, 73, 84, 40] ++ valueT o.2.2.1 o.2.2.2.1)))
    simpa using this
  · refine last_ne ?_
    have : (59 : UInt8) ∉ sLAB := by decide
    simp [hn, this, hd]
theorem join_no {c : UInt8} (hc : c ≠ 44) : ∀ ws : List Str, (∀ w ∈ ws, c ∉ w) → c ∉ Lib.join ws [44] := by
  intro ws
  induction ws with
  | nil => intro _; rw [Lib.join_nil]; simp
  | cons x r ih =>
    intro h
    cases r with
    | nil => rw [Lib.join_one]; exact h x (by simp)
    | cons y r =>
      have e : Lib.join (x :: y :: r) [44] = x ++ 44 :: Lib.join (y :: r) [44] := by
        rw [Lib.join_cons, Lib.join_cons]; simp [Lib.joinTail]
      rw [e]
      have h1 := h x (by simp)
      have h2 := ih (fun w hw => h w (by simp [hw]))
      simp [h1, h2, hc]
theorem gNames_no59 : ∀ w ∈ gNames, (59 : UInt8) ∉ w := by decide
theorem insT_last {nm : Str} (hm : nm ∈ gNames) {ws : List Str} (hn : ∀ w ∈ ws, isNameB w = true) : (insT nm ws).getLast? ≠ some 59 := by
  refine last_ne ?_
  have h1 := gNames_no59 nm hm
  unfold insT
  split
  · exact h1
  · have := join_no (c := 59) (by decide) ws (fun w hw => name_no (hn w hw) rfl)
    simp [h1, this]
theorem monLine_last (m : MiMonitor) : (monLine m).getLast? ≠ some 59 := by
  refine last_ne ?_
  have hd : ∀ n : Nat, (59 : UInt8) ∉ dd n := fun n => not_mem_digits (by decide)
  have : (59 : UInt8) ∉ sMON := by decide
  unfold monLine
  simp [hd, this]

def itO (a : List MiOperand) : List (Str × Line) := a.map fun o => (opLine o, dOpr o)
def itI (a : List MiOperand) (b : List MiInstruction) : List (Str × Line) := b.map fun x => (insLine a x, dIns x.1.toNat (argNames a x.2.1))
def itM (c : List MiMonitor) : List (Str × Line) := c.map fun m => (monLine m, dMon m)
def items (p : MiProgram) : List (Str × Line) := itO p.1 ++ (itI p.1 p.2.1 ++ itM p.2.2.1)
theorem items_fst (p : MiProgram) : fsts (items p) = lines p := by
  simp [fsts, items, lines, itO, itI, itM, Function.comp_def]
theorem items_len (p : MiProgram) : (items p).length = p.1.length + p.2.1.length + p.2.2.1.length := by
  simp [items, itO, itI, itM]; omega

theorem argNames_names {a : List MiOperand} (hn : ∀ o ∈ a, isNameB o.1 = true) {args : List Int} (hA : ArgIn a args) : ∀ w ∈ argNames a args, isNameB w = true := by
  intro w hw
  unfold argNames at hw
  obtain ⟨x, hx, rfl⟩ := List.mem_map.1 hw
  obtain ⟨j, o, rfl, e2, _⟩ := hA.2 x hx
  simp only [Int.toNat_natCast, e2, Option.map_some, Option.getD_some]
  exact hn o (List.mem_of_getElem? e2)
theorem items_reads {p : MiProgram} (h : Valid p) : ∀ it ∈ items p, ReadsL it := by
  intro it hit
  rcases List.mem_append.1 hit with hit | hit
  · obtain ⟨o, ho, rfl⟩ := List.mem_map.1 hit
    have hL := h.line o ho
    exact ReadsL.mk' (read_opr hL) (by have := opLine_len hL; omega) (opLine_last hL)
  · rcases List.mem_append.1 hit with hit | hit
    · obtain ⟨x, hx, rfl⟩ := List.mem_map.1 hit
      obtain ⟨⟨op, hop, ho⟩, hA⟩ := h.args x hx
      have hs := argNames_small hA
      have hn := argNames_names h.names hA
      have e : insLine p.1 x = insT (gNames.getD op []) (argNames p.1 x.2.1) := by simp [insLine, ho]
      have e2 : x.1.toNat = op := by rw [ho]; rfl
      show ReadsL (insLine p.1 x, dIns x.1.toNat (argNames p.1 x.2.1))
      rw [e, e2]
      exact ReadsL.mk' (read_ins hop hs hn) (by have := insT_len hop hs; omega) (insT_last (names_mem op hop) hn)
    · obtain ⟨m, hm, rfl⟩ := List.mem_map.1 hit
      have hM := h.mon m hm
      exact ReadsL.mk' (read_mon h.ins hM) (by have := monLine_len h.ins hM; omega) (monLine_last m)

/-! ### the parts rise -/
theorem Ord.weaken {n m : Int} (h : n ≤ m) : ∀ {its : List (Str × Line)}, Ord m its → Ord n its := by
  intro its hO
  cases its with
  | nil => trivial
  | cons it r => exact ⟨by have := hO.1; omega, hO.2⟩
theorem Ord.append {q : Int} {y : List (Str × Line)} : ∀ {x : List (Str × Line)} {n : Int}, n ≤ q → (∀ it ∈ x, it.2.2.1 = q) → Ord q y → Ord n (x ++ y) := by
  intro x
  induction x with
  | nil => intro n hn _ hy; exact hy.weaken hn
  | cons it x ih =>
    intro n hn hx hy
    have h1 := hx it (by simp)
    exact ⟨by rw [h1]; exact hn, ih (by rw [h1]; exact Int.le_refl _) (fun i hi => hx i (by simp [hi])) hy⟩
theorem itO_part (a : List MiOperand) : ∀ it ∈ itO a, it.2.2.1 = 1 := fun it h => by
  obtain ⟨o, _, rfl⟩ := List.mem_map.1 h; rfl
theorem itI_part (a : List MiOperand) (b : List MiInstruction) : ∀ it ∈ itI a b, it.2.2.1 = 2 := fun it h => by
  obtain ⟨o, _, rfl⟩ := List.mem_map.1 h; rfl
theorem itM_part (c : List MiMonitor) : ∀ it ∈ itM c, it.2.2.1 = 3 := fun it h => by
  obtain ⟨o, _, rfl⟩ := List.mem_map.1 h; rfl
theorem items_ord (p : MiProgram) : Ord 1 (items p) := by
  have h3 : Ord 3 (itM p.2.2.1 ++ []) := Ord.append (Int.le_refl _) (itM_part _) trivial
  rw [List.append_nil] at h3
  exact Ord.append (Int.le_refl _) (itO_part _) ((Ord.append (Int.le_refl _) (itI_part _ _) (h3.weaken (by decide))).weaken (by decide))
theorem Ord.take : ∀ {x y : List (Str × Line)} {n : Int}, Ord n (x ++ y) → Ord n x := by
  intro x
  induction x with
  | nil => intro y n _; trivial
  | cons it x ih => intro y n h; exact ⟨h.1, ih h.2⟩
theorem lastP_app : ∀ (x y : List (Str × Line)) (n : Int), lastP n (x ++ y) = lastP (lastP n x) y := by
  intro x
  induction x with
  | nil => intro y n; rfl
  | cons it x ih => intro y n; exact ih y _
theorem lastP_ge : ∀ {x : List (Str × Line)} {n : Int}, Ord n x → n ≤ lastP n x := by
  intro x
  induction x with
  | nil => intro n _; exact Int.le_refl _
  | cons it x ih =>
    intro n h
    have h1 := h.1
    have h2 := ih h.2
    show n ≤ lastP it.2.2.1 x
    omega
theorem items_last {p : MiProgram} (h : p.2.1.length ≠ 0) : 2 ≤ lastP 1 (items p) := by
  unfold items
  rw [lastP_app, lastP_app]
  have h3 : Ord 3 (itM p.2.2.1 ++ []) := Ord.append (Int.le_refl _) (itM_part _) trivial
  rw [List.append_nil] at h3
  have e3 : Ord 2 (itM p.2.2.1) := h3.weaken (by decide)
  have e2 : ∀ n : Int, lastP n (itI p.1 p.2.1) = 2 := by
    intro n
    cases hb : p.2.1 with
    | nil => rw [hb] at h; exact absurd rfl h
    | cons x b =>
      show lastP 2 (itI p.1 b) = 2
      clear hb
      induction b with
      | nil => rfl
      | cons y b ih => exact ih
  rw [e2]
  exact lastP_ge e3

/-! ### what the lines say -/
theorem datas_app : ∀ (x y : List (Str × Line)) (n : Nat), datas n (x ++ y) = datas n x ++ datas (n + (txt (fsts x)).length) y := by
  intro x
  induction x with
  | nil => intro y n; rfl
  | cons it x ih =>
    intro y n
    have htl : (txt (fsts (it :: x))).length = it.1.length + 2 + (txt (fsts x)).length := by
      show (txt (it.1 :: fsts x)).length = _
      rw [txt_cons]; simp; omega
    show _ :: datas (n + it.1.length + 2) (x ++ y) = _ :: (datas (n + it.1.length + 2) x ++ _)
    rw [ih, htl, show n + (it.1.length + 2 + (txt (fsts x)).length) = n + it.1.length + 2 + (txt (fsts x)).length by omega]
theorem datas_len : ∀ (x : List (Str × Line)) (n : Nat), (datas n x).length = x.length := by
  intro x
  induction x with
  | nil => intro n; rfl
  | cons it x ih => intro n; simp [datas, ih]
theorem opsOf_app : ∀ x y : List Line, opsOf (x ++ y) = opsOf x ++ opsOf y := by
  intro x
  induction x with
  | nil => intro y; rfl
  | cons l x ih => intro y; simp only [List.cons_append, opsOf, ih]; split <;> simp
theorem monsOf_app : ∀ x y : List Line, monsOf (x ++ y) = monsOf x ++ monsOf y := by
  intro x
  induction x with
  | nil => intro y; rfl
  | cons l x ih => intro y; simp only [List.cons_append, monsOf, ih]; split <;> simp
theorem opsOf_O : ∀ (a : List MiOperand) (n : Nat), opsOf (datas n (itO a)) = a ∧ monsOf (datas n (itO a)) = [] := by
  intro a
  induction a with
  | nil => intro n; exact ⟨rfl, rfl⟩
  | cons o a ih =>
    intro n
    obtain ⟨h1, h2⟩ := ih (n + (opLine o).length + 2)
    refine ⟨?_, ?_⟩
    · show o :: opsOf (datas (n + (opLine o).length + 2) (itO a)) = _
      rw [h1]
    · exact h2
theorem opsOf_I (a : List MiOperand) : ∀ (b : List MiInstruction) (n : Nat), opsOf (datas n (itI a b)) = [] ∧ monsOf (datas n (itI a b)) = [] := by
  intro b
  induction b with
  | nil => intro n; exact ⟨rfl, rfl⟩
  | cons o b ih => intro n; exact ih _
theorem opsOf_M : ∀ (c : List MiMonitor) (n : Nat), opsOf (datas n (itM c)) = [] ∧ monsOf (datas n (itM c)) = c := by
  intro c
  induction c with
  | nil => intro n; exact ⟨rfl, rfl⟩
  | cons o c ih =>
    intro n
    obtain ⟨h1, h2⟩ := ih (n + (monLine o).length + 2)
    refine ⟨h1, ?_⟩
    show o :: monsOf (datas (n + (monLine o).length + 2) (itM c)) = _
    rw [h2]
theorem Says.skip {a : List MiOperand} {xs : List MiInstruction} {y : List Line} : ∀ {x : List Line}, (∀ l ∈ x, l.2.1 ≠ 2) → Says a y xs → Says a (x ++ y) xs := by
  intro x
  induction x with
  | nil => intro _ h; exact h
  | cons l x ih => intro hx h; exact .inl ⟨hx l (by simp), ih (fun i hi => hx i (by simp [hi])) h⟩
theorem datas_part : ∀ (x : List (Str × Line)) (n : Nat) (l : Line), l ∈ datas n x → ∃ it ∈ x, l.2.1 = it.2.2.1 := by
  intro x
  induction x with
  | nil => intro n l h; cases h
  | cons it x ih =>
    intro n l h
    rcases List.mem_cons.1 h with rfl | h
    · exact ⟨it, by simp, rfl⟩
    · obtain ⟨i, h1, h2⟩ := ih _ l h
      exact ⟨i, by simp [h1], h2⟩
theorem OprsOK.first {a : List MiOperand} {n : Nat} (h : OprsOK a n a.length) {j : Nat} {o : MiOperand} (ho : a[j]? = some o) : fIdx (fun u => eqS u.1 o.1) 0 a = (j : Int) := by
  have hj : j < a.length := (List.getElem?_eq_some_iff.1 ho).1
  have h2 := (h j o hj ho).2.1
  rcases fIdx_spec (pName o.1) a 0 with ⟨e1, e2⟩ | ⟨i, u, e1, e2, e3, e4⟩
  · have := e2 o (List.mem_of_getElem? ho)
    unfold pName at this
    rw [eqS_self] at this
    cases this
  · have e3' : fIdx (pName o.1) 0 a = (i : Int) := by rw [e3]; simp
    rw [e3'] at h2
    have hij : i = j := by
      refine Classical.byContradiction fun hne => ?_
      have hlt : j < i := by omega
      have := e4 j o hlt ho
      unfold pName at this
      rw [eqS_self] at this
      cases this
    rw [← hij]
    exact e3'
theorem says_I {a : List MiOperand} {n0 : Nat} (hO : OprsOK a n0 a.length) {c : List MiMonitor} : ∀ (b : List MiInstruction) (n : Nat), (∀ x ∈ b, InsOK a x) → Says a (datas n (itI a b) ++ datas (n + (txt (fsts (itI a b))).length) (itM c)) b := by
  intro b
  induction b with
  | nil =>
    intro n _
    have : Says a (datas (n + (txt (fsts (itI a []))).length) (itM c) ++ []) [] := Says.skip (fun l hl => by
      obtain ⟨it, h1, h2⟩ := datas_part _ _ l hl
      rw [h2, itM_part _ it h1]; decide) rfl
    rw [List.append_nil] at this
    exact this
  | cons x b ih =>
    intro n hb
    obtain ⟨op, h1, h2, h3, h4⟩ := hb x (by simp)
    have hi := ih (n + (insLine a x).length + 2) (fun y hy => hb y (by simp [hy]))
    have htl : (txt (fsts (itI a (x :: b)))).length = (insLine a x).length + 2 + (txt (fsts (itI a b))).length := by
      show (txt (insLine a x :: fsts (itI a b))).length = _
      rw [txt_cons]; simp; omega
    rw [htl, show n + ((insLine a x).length + 2 + (txt (fsts (itI a b))).length) = n + (insLine a x).length + 2 + (txt (fsts (itI a b))).length by omega]
    obtain ⟨xo, args, ⟨⟩⟩ := x
    simp only at h2 h3 h4
    refine .inr ⟨rfl, op, args, b, h1, ?_, rfl, h3, fun y hy => ?_, by rw [h2], hi⟩
    · show ((xo.toNat : Nat) : Int) = _
      rw [h2]; rfl
    · obtain ⟨j, o, e1, e2⟩ := h4.mem y hy
      exact ⟨j, o, e1, e2, hO.first e2⟩
theorem items_program {p : MiProgram} (h : Valid p) : Ev (fun k => p_programOf k (datas 0 (items p))) (p, 0, 0) := by
  have e : datas 0 (items p) = datas 0 (itO p.1) ++ (datas (0 + (txt (fsts (itO p.1))).length) (itI p.1 p.2.1) ++ datas (0 + (txt (fsts (itO p.1))).length + (txt (fsts (itI p.1 p.2.1))).length) (itM p.2.2.1)) := by
    unfold items
    rw [datas_app, datas_app]
  refine p_programOf_ev h ?_ (fun l hl => ?_) ?_ ?_ ?_
  · rw [datas_len, items_len]
    have := h.ops; have := h.ins; have := h.mons
    omega
  · obtain ⟨it, h1, h2⟩ := datas_part _ _ l hl
    rw [h2]
    rcases List.mem_append.1 h1 with h1 | h1
    · exact .inl (itO_part _ it h1)
    · rcases List.mem_append.1 h1 with h1 | h1
      · exact .inr (.inl (itI_part _ _ it h1))
      · exact .inr (.inr (itM_part _ it h1))
  · rw [e, opsOf_app, opsOf_app, (opsOf_O _ _).1, (opsOf_I _ _ _).1, (opsOf_M _ _).1]; simp
  · rw [e, monsOf_app, monsOf_app, (opsOf_O _ _).2, (opsOf_I _ _ _).2, (opsOf_M _ _).2]; simp
  · rw [e]
    refine Says.skip (fun l hl => ?_) (says_I h.opr p.2.1 _ h.inst)
    obtain ⟨it, h1, h2⟩ := datas_part _ _ l hl
    rw [h2, itO_part _ it h1]; decide
end Mini

/- The plain law of row 1. -/
namespace Mini
open Go
variable [MX]

def offs : Nat → List Str → List Int
  | _, [] => []
  | n, L :: r => (n : Int) :: offs (n + L.length + 2) r
theorem startsFrom_line : ∀ (L r : Str) (i : Nat) (b : Bool), (10 : UInt8) ∉ L → startsFrom i b (L ++ 59 :: 10 :: r) = (if b = true then [(i : Int)] else []) ++ startsFrom (i + L.length + 2) true r := by
  intro L
  induction L with
  | nil =>
    intro r i b _
    have e : decide ((59 : UInt8) = 10) = false := by decide
    cases b <;> simp [startsFrom]
  | cons c L ih =>
    intro r i b h
    have hc : c ≠ 10 := fun e => h (by simp [e])
    have hi := ih r (i + 1) false (fun e => h (by simp [e]))
    rw [List.cons_append, startsFrom, decide_eq_false hc, hi, List.length_cons, show i + 1 + L.length + 2 = i + (L.length + 1) + 2 by omega]
    cases b <;> simp
theorem startsFrom_txt : ∀ (ls : List Str) (i : Nat), (∀ L ∈ ls, (10 : UInt8) ∉ L) → startsFrom i true (txt ls) = offs i ls := by
  intro ls
  induction ls with
  | nil => intro i _; rfl
  | cons L ls ih =>
    intro i h
    have e : txt (L :: ls) = L ++ 59 :: 10 :: txt ls := by rw [txt_cons]; simp
    rw [e, startsFrom_line L _ i true (h L (by simp)), ih _ (fun x hx => h x (by simp [hx]))]
    rfl
theorem offs_len : ∀ (ls : List Str) (n : Nat), (offs n ls).length = ls.length := by
  intro ls
  induction ls with
  | nil => intro n; rfl
  | cons L ls ih => intro n; simp [offs, ih]
theorem offs_at : ∀ (ls : List Str) (n i : Nat), i < ls.length → (offs n ls)[i]? = some ((n + (txt (ls.take i)).length : Nat) : Int) := by
  intro ls
  induction ls with
  | nil => intro n i h; exact absurd h (Nat.not_lt_zero _)
  | cons L ls ih =>
    intro n i h
    cases i with
    | zero => rfl
    | succ i =>
      have := ih (n + L.length + 2) i (by simpa using h)
      rw [List.take_succ_cons, txt_cons]
      show (offs (n + L.length + 2) ls)[i]? = _
      rw [this]
      congr 2
      simp
      omega
theorem txt_ge (ls : List Str) : 2 * ls.length ≤ (txt ls).length := by
  induction ls with
  | nil => simp
  | cons L ls ih => rw [txt_cons]; simp; omega
theorem split_at {α : Type} (l : List α) (i : Nat) (h : i < l.length) : ∃ x, l = l.take i ++ x :: l.drop (i + 1) := by
  refine ⟨l[i], ?_⟩
  rw [List.getElem_cons_drop, List.take_append_drop]

theorem top_62 {bad : Str} {place e : Int} (b0 : List MiOperand) (b1 : List MiInstruction) (b2 : List MiMonitor) (h : Ev (fun k => p_ParseProgram k bad) (([], [], [], ()), place, e)) : Ev (fun k => t_TopTextsRefused_62 k bad place e b0 b1 b2) true := by
  refine Ev.step (t_TopTextsRefused_62_eq · _ _ _ _ _ _) (Ev.bind h (Ev.ret.eq ?_))
  have : w64 (w64 (((([] : List MiOperand).length : Nat) : Int) + ((([] : List MiInstruction).length : Nat) : Int)) + ((([] : List MiMonitor).length : Nat) : Int)) = 0 := rfl
  simp only [this]
  simp
theorem top_56 {bad : Str} {place : Int} (b0 : List MiOperand) (b1 : List MiInstruction) (b2 : List MiMonitor) (h : bad.length ≤ 6000 → Ev (fun k => p_ParseProgram_11 k bad [] 0 1 [] [] []) (([], [], [], ()), place, 8)) : Ev (fun k => t_TopTextsRefused_56 k bad place b0 b1 b2) true := by
  by_cases hl : 6000 < bad.length
  · exact Ev.step (t_TopTextsRefused_56_eq · _ _ _ _ _) (Ev.tt (decide_eq_true (by omega)) (top_62 b0 b1 b2 (Ev.step (p_ParseProgram_eq · _) (Ev.tt (decide_eq_true (by omega)) Ev.ret))))
  · exact Ev.step (t_TopTextsRefused_56_eq · _ _ _ _ _) (Ev.ff (decide_eq_false (by omega)) (top_62 b0 b1 b2 (Ev.step (p_ParseProgram_eq · _) (Ev.ff (decide_eq_false (by omega)) (h (by omega))))))

/-- the text is read as the program -/
theorem parse_whole {p : MiProgram} (h : Valid p) (hl : (txt (lines p)).length ≤ 6000) : Ev (fun k => p_ParseProgram k (txt (lines p))) (p, 0, 0) := by
  have hI := items_fst p
  have hp := parse_lines (z := (p, 0, 0)) (rest := []) (b0 := []) (b1 := []) (b2 := []) (items p) [] [] 1 (items_reads h) (items_ord p) (by rw [hI]; simp; omega) (by
    rw [items_len]
    have := h.ops; have := h.ins; have := h.mons
    simp; omega)
  rw [hI, List.nil_append, List.append_nil] at hp
  refine Ev.step (p_ParseProgram_eq · _) (Ev.ff (decide_eq_false (by omega)) (hp ?_))
  refine Ev.step (p_ParseProgram_11_eq · _ _ _ _ _ _ _) (Ev.ff (by simp) (Ev.bind (items_program h) Ev.ret))

theorem fsts_app (x y : List (Str × Line)) : fsts (x ++ y) = fsts x ++ fsts y := by simp [fsts]
/-- the lines before a wrong one -/
theorem parse_upto {p : MiProgram} (h : Valid p) {A B : List (Str × Line)} (hAB : items p = A ++ B) {rest : Str} {z : MiProgram × Int × Int} (hl : (txt (fsts A) ++ rest).length < 1000000)
    (hk : Ev (fun k => p_ParseProgram_11 k (txt (fsts A) ++ rest) (datas 0 A) (((txt (fsts A)).length : Nat) : Int) (lastP 1 A) [] [] []) z) : Ev (fun k => p_ParseProgram_11 k (txt (fsts A) ++ rest) [] 0 1 [] [] []) z := by
  have hO := items_ord p
  rw [hAB] at hO
  have hp := parse_lines (z := z) (rest := rest) (b0 := []) (b1 := []) (b2 := []) A [] [] 1 (fun it hi => items_reads h it (by rw [hAB]; simp [hi])) hO.take (by simpa using hl) (by
    have e := items_len p
    rw [hAB, List.length_append] at e
    have := h.ops; have := h.ins; have := h.mons
    simp; omega)
  rw [List.nil_append, List.nil_append] at hp
  exact hp (by simpa using hk)

theorem zz_line : LineIn ([90, 90, 90, 90, 90, 90, 90, 90, 90, 90], 3, (0, 0, 0, ()), (0, [], ()), [], 0, 0, ()) := by
  refine ⟨by decide, by decide, ?_, (fun h => by cases h), (fun h => by rcases h with h | h <;> cases h), (fun h => by rcases h with h | h <;> cases h), (fun h => by cases h)⟩
  simp [Canon]

theorem top_ways {p : MiProgram} (h : Valid p) (hl : (txt (lines p)).length ≤ 6000) {i : Nat} (hi : i < (lines p).length) {to : Int} (hto : to = ((txt ((lines p).take (i + 1))).length : Int)) (w : Int) (hw : 0 ≤ w ∧ w ≤ 3) (b0 : List MiOperand) (b1 : List MiInstruction) (b2 : List MiMonitor) :
    Ev (fun k => t_TopTextsRefused_32 k w (txt (lines p)) (offs 0 (lines p)) (((txt ((lines p).take i)).length : Nat) : Int) to b0 b1 b2) true := by
  have hI := items_fst p
  have hil : i < (items p).length := by
    rw [← hI] at hi; simpa [fsts] using hi
  obtain ⟨it, hs⟩ := split_at (items p) i hil
  obtain ⟨L, d⟩ := it
  have hR := items_reads h (L, d) (by rw [hs]; simp)
  generalize hA : (items p).take i = A at hs
  generalize hB : (items p).drop (i + 1) = B at hs
  have hAl : A.length = i := by rw [← hA, List.length_take]; omega
  have hlines : lines p = fsts A ++ L :: fsts B := by rw [← hI, hs, fsts_app]; rfl
  have hfl : (fsts A).length = i := by simp [fsts, hAl]
  have ht1 : (lines p).take i = fsts A := by rw [hlines, List.take_left' hfl]
  have ht2 : (lines p).take (i + 1) = fsts A ++ [L] := by
    rw [hlines, show fsts A ++ L :: fsts B = (fsts A ++ [L]) ++ fsts B by simp, List.take_left' (by simp [hfl])]
  have hT : txt (lines p) = txt (fsts A) ++ (L ++ 59 :: 10 :: txt (fsts B)) := by rw [hlines, txt_app, txt_cons]; simp
  have hlen : (txt (lines p)).length = (txt (fsts A)).length + (L.length + 2 + (txt (fsts B)).length) := by rw [hT]; simp; omega
  have hto' : to = (((txt (fsts A)).length + L.length + 2 : Nat) : Int) := by
    rw [hto, ht2, txt_app, List.length_append]
    have : (txt [L]).length = L.length + 2 := by rw [txt_cons]; simp [txt]
    rw [this]; congr 1
  have hLne : 0 < L.length := by
    refine List.length_pos_iff.2 fun e => ?_
    obtain ⟨l, ok, h1, h2⟩ := p_read_any L (by omega)
    have hu := hR.ev.uniq h1
    have hLin : L ∈ lines p := by rw [hlines]; simp
    -- no line is empty
    unfold lines at hLin
    rcases List.mem_append.1 hLin with hm | hm
    · obtain ⟨o, ho, hoe⟩ := List.mem_map.1 hm
      obtain ⟨r, hr, _⟩ := p_declared_ev (h.line o ho)
      rw [hr, e] at hoe
      cases hoe
    · rcases List.mem_append.1 hm with hm | hm
      · obtain ⟨x, hx, hxe⟩ := List.mem_map.1 hm
        obtain ⟨⟨op, hop, ho⟩, _⟩ := h.args x hx
        have hne := (gNames_facts _ (names_mem op hop)).2.2.1
        have e2 : insLine p.1 x = insT (gNames.getD op []) (argNames p.1 x.2.1) := by simp [insLine, ho]
        rw [e2, e] at hxe
        unfold insT at hxe
        split at hxe
        · exact hne hxe
        · cases hq : gNames.getD op [] with
          | nil => exact hne hq
          | cons => rw [hq] at hxe; cases hxe
      · obtain ⟨m, _, hme⟩ := List.mem_map.1 hm
        rw [e] at hme
        cases hme
  rw [ht1]
  have c0 : decide (w64 (to - (((txt (fsts A)).length : Nat) : Int)) < 3) = false := by
    rw [hto', w64_id (by omega) (by omega)]
    exact decide_eq_false (by omega)
  have hsA : subL (txt (lines p)) 0 (((txt (fsts A)).length : Nat) : Int) = some (txt (fsts A)) := by
    have := subL_eq (xs := txt (lines p)) (a := 0) (b := (txt (fsts A)).length) (by omega) (by omega)
    rw [show ((0 : Nat) : Int) = 0 from rfl] at this
    rw [this, hT, List.take_left' rfl]; rfl
  have hw' : w = 0 ∨ w = 1 ∨ w = 2 ∨ w = 3 := by omega
  refine Ev.step (t_TopTextsRefused_32_eq · _ _ _ _ _ _ _ _) (Ev.ff c0 ?_)
  rcases hw' with rfl | rfl | rfl | rfl
  · have hsB : subL (txt (lines p)) (((txt (fsts A)).length : Nat) : Int) (((txt (lines p)).length : Nat) : Int) = some (L ++ 59 :: 10 :: txt (fsts B)) := by
      rw [subL_eq (by omega) (Nat.le_refl _), List.take_length, hT, List.drop_left' rfl]
    refine Ev.tt rfl (Ev.let hsA (Ev.let (catL_eq (by simp; omega)) (Ev.let hsB (Ev.let (catL_eq (by simp; omega)) ?_))))
    refine top_56 b0 b1 b2 fun hb => ?_
    have e : txt (fsts A) ++ [97] ++ (L ++ 59 :: 10 :: txt (fsts B)) = txt (fsts A) ++ (97 :: L ++ 59 :: 10 :: txt (fsts B)) := by simp
    rw [e] at hb ⊢
    exact parse_upto h hs (by omega) (parse_small (by omega) hR.no)
  · have w2 : w64 (to - 2) = (((txt (fsts A)).length + L.length : Nat) : Int) := by rw [hto', w64_id (by omega) (by omega)]; omega
    have w3 : w64 (to - 1) = (((txt (fsts A)).length + L.length + 1 : Nat) : Int) := by rw [hto', w64_id (by omega) (by omega)]; omega
    have s1 : subL (txt (lines p)) 0 (w64 (to - 2)) = some (txt (fsts A) ++ L) := by
      have := subL_eq (xs := txt (lines p)) (a := 0) (b := (txt (fsts A)).length + L.length) (by omega) (by omega)
      rw [show ((0 : Nat) : Int) = 0 from rfl] at this
      rw [w2, this, hT, show txt (fsts A) ++ (L ++ 59 :: 10 :: txt (fsts B)) = (txt (fsts A) ++ L) ++ 59 :: 10 :: txt (fsts B) by simp, List.take_left' (by simp)]
      rfl
    have s2 : subL (txt (lines p)) (w64 (to - 1)) (((txt (lines p)).length : Nat) : Int) = some (10 :: txt (fsts B)) := by
      rw [w3, subL_eq (by omega) (Nat.le_refl _), List.take_length, hT, show txt (fsts A) ++ (L ++ 59 :: 10 :: txt (fsts B)) = (txt (fsts A) ++ L ++ [59]) ++ 10 :: txt (fsts B) by simp, List.drop_left' (by simp; omega)]
    refine Ev.ff rfl (Ev.tt rfl (Ev.let s1 (Ev.let s2 (Ev.let (catL_eq (by simp; omega)) ?_))))
    refine top_56 b0 b1 b2 fun hb => ?_
    have e : txt (fsts A) ++ L ++ 10 :: txt (fsts B) = txt (fsts A) ++ (L ++ 10 :: txt (fsts B)) := by simp
    rw [e] at hb ⊢
    exact parse_upto h hs (by omega) (parse_joined (by omega) hR.no hR.last)
  · -- the last line
    have hnl : (items p).length - 1 < (items p).length := by omega
    obtain ⟨it2, hs2⟩ := split_at (items p) ((items p).length - 1) hnl
    obtain ⟨L2, d2⟩ := it2
    have hR2 := items_reads h (L2, d2) (by rw [hs2]; simp)
    rw [List.drop_eq_nil_of_le (by omega)] at hs2
    generalize hA2 : (items p).take ((items p).length - 1) = A2 at hs2
    have hA2l : A2.length = (items p).length - 1 := by rw [← hA2, List.length_take]; omega
    have hlines2 : lines p = fsts A2 ++ [L2] := by rw [← hI, hs2, fsts_app]; rfl
    have hll : (lines p).length = (items p).length := by rw [← hI]; simp [fsts]
    have hT2 : txt (lines p) = (txt (fsts A2) ++ (L2 ++ [59])) ++ [10] := by rw [hlines2, txt_app, txt_cons]; simp [txt]
    have hlen2 : (txt (lines p)).length = (txt (fsts A2)).length + L2.length + 2 := by rw [hT2]; simp; omega
    have w1 : w64 ((((txt (lines p)).length : Nat) : Int) - 1) = (((txt (fsts A2)).length + L2.length + 1 : Nat) : Int) := by rw [hlen2, w64_id (by omega) (by omega)]; omega
    have s1 : subL (txt (lines p)) 0 (w64 ((((txt (lines p)).length : Nat) : Int) - 1)) = some (txt (fsts A2) ++ (L2 ++ [59])) := by
      have := subL_eq (xs := txt (lines p)) (a := 0) (b := (txt (fsts A2)).length + L2.length + 1) (by omega) (by omega)
      rw [show ((0 : Nat) : Int) = 0 from rfl] at this
      rw [w1, this, hT2, List.take_left' (by simp; omega)]
      rfl
    have w2 : w64 (((offs 0 (lines p)).length : Int) - 1) = (((items p).length - 1 : Nat) : Int) := by
      have := items_len p
      have := h.ops; have := h.ins; have := h.mons
      rw [offs_len, hll, w64_id (by omega) (by omega)]; omega
    have hr : rd (offs 0 (lines p)) (w64 (((offs 0 (lines p)).length : Int) - 1)) = some (((txt (fsts A2)).length : Nat) : Int) := by
      rw [w2, rd_nat, offs_at _ _ _ (by omega), hlines2, List.take_left' (by simp [fsts, hA2l]), Nat.zero_add]
    refine Ev.ff rfl (Ev.ff rfl (Ev.tt rfl (Ev.let s1 (Ev.let hr ?_))))
    refine top_56 b0 b1 b2 fun hb => ?_
    exact parse_upto h hs2 (by omega) (parse_open (by omega) hR2.no)
  · have hz := read_opr zz_line
    have hzR : ReadsL (opLine ([90, 90, 90, 90, 90, 90, 90, 90, 90, 90], 3, (0, 0, 0, ()), (0, [], ()), [], 0, 0, ()), dOpr ([90, 90, 90, 90, 90, 90, 90, 90, 90, 90], 3, (0, 0, 0, ()), (0, [], ()), [], 0, 0, ())) := ReadsL.mk' hz (by decide) (by decide)
    refine Ev.ff rfl (Ev.ff rfl (Ev.ff rfl (Ev.tt rfl (Ev.let (catL_eq (by simp; omega)) ?_))))
    refine top_56 b0 b1 b2 fun hb => ?_
    have hAll : items p = items p ++ [] := by simp
    have e : txt (lines p) = txt (fsts (items p)) := by rw [hI]
    rw [e] at hb ⊢
    have hlast := items_last h.some_
    exact parse_upto h hAll (by omega) (parse_late (L := opLine ([90, 90, 90, 90, 90, 90, 90, 90, 90, 90], 3, (0, 0, 0, ()), (0, [], ()), [], 0, 0, ())) (r := []) (by rw [List.length_append] at hb ⊢; exact Nat.lt_of_le_of_lt hb (by decide)) hzR (by show (1 : Int) < lastP 1 (items p); omega))

theorem top_ev (p : MiProgram) (l w : Int) : Ev (fun k => t_TopTextsRefused k p l w) true := by
  have hF := l_Few_ev p
  cases hf : fewB p with
  | false =>
    rw [hf] at hF
    exact Ev.step (t_TopTextsRefused_eq · _ _ _) (Ev.bind hF (Ev.bind (y := 0) (Ev.ff rfl Ev.ret) (Ev.bind (y := false) (Ev.ff rfl Ev.ret) (Ev.tt rfl Ev.ret))))
  | true =>
    rw [hf] at hF
    have hf' := hf
    unfold fewB at hf'
    simp only [Bool.and_eq_true, decide_eq_true_eq, List.all_eq_true] at hf'
    obtain ⟨⟨⟨f1, f2⟩, f3⟩, f4, f5⟩ := hf'
    have hn : ∀ o ∈ p.1, o.1.length < 1000000 := fun o ho => by
      have := f4 o ho
      unfold fewOp at this
      simp only [Bool.and_eq_true, decide_eq_true_eq] at this
      omega
    have hx : ∀ x ∈ p.2.1, x.2.1.length < 1000000 := fun x hx => by
      have := f5 x hx
      unfold fewIns at this
      simp only [decide_eq_true_eq] at this
      omega
    obtain ⟨e, hE, hV⟩ := r_Err_ev p (by omega) (by omega) (by omega) hn
    by_cases he : e = 0
    · subst he
      have h := hV rfl
      have hW := b_Within_ev w 0 3
      cases hw : inB w 0 3 with
      | false =>
        rw [hw] at hW
        exact Ev.step (t_TopTextsRefused_eq · _ _ _) (Ev.bind hF (Ev.bind (Ev.tt rfl hE) (Ev.bind (Ev.tt rfl hW) (Ev.tt rfl Ev.ret))))
      | true =>
        rw [hw] at hW
        have hw' := (inB_iff _ _ _).1 hw
        have hO := r_Own_ev p (by omega) (by omega) (by omega) hx
        have hP := p_FormatProgram_ev h
        refine Ev.step (t_TopTextsRefused_eq · _ _ _) (Ev.bind hF (Ev.bind (Ev.tt rfl hE) (Ev.bind (Ev.tt rfl hW) (Ev.ff rfl (Ev.bind hO (Ev.bind hP ?_))))))
        unfold fmtR
        by_cases hl : 6000 < (txt (lines p)).length
        · rw [if_pos hl]
          refine Ev.tt rfl (Ev.bind (Ev.tt rfl (r_Format_ev h)) (Ev.ret.eq ?_))
          show decide (6000 < ((txt (lines p)).length : Int)) = true
          exact decide_eq_true (by omega)
        · rw [if_neg hl]
          have hS := r_Same_ev p (by omega) (by omega) (by omega) hx
          have hT := t_startsOf_ev (txt (lines p)) (by omega)
          have hno : ∀ L ∈ lines p, (10 : UInt8) ∉ L := fun L hL => by
            rw [← items_fst p] at hL
            obtain ⟨it, hit, rfl⟩ := List.mem_map.1 hL
            exact (items_reads h it hit).no
          rw [startsFrom_txt _ _ hno] at hT
          have hlen : (lines p).length = p.1.length + p.2.1.length + p.2.2.1.length := by simp [lines]; omega
          have hpos : 0 < (lines p).length := by have := h.some_; omega
          refine Ev.ff rfl (Ev.bind (parse_whole h (by omega)) (Ev.bind (Ev.tt rfl hS) (Ev.ff rfl (Ev.bind hT ?_))))
          by_cases hl0 : l < 0
          · refine Ev.tt ?_ (Ev.ret.eq (decide_eq_true hl0))
            rw [decide_eq_true hl0]; rfl
          · have hcond : bsel (decide (l < 0)) true (decide (((offs 0 (lines p)).length : Int) = 0)) = false := by
              rw [bsel_or, Bool.or_eq_false_iff]
              exact ⟨decide_eq_false hl0, decide_eq_false (by rw [offs_len]; omega)⟩
            refine Ev.ff hcond ?_
            obtain ⟨n, rfl⟩ := Int.eq_ofNat_of_zero_le (show 0 ≤ l by omega)
            have hrem : remI (n : Int) ((offs 0 (lines p)).length : Int) = some ((n % (lines p).length : Nat) : Int) := by
              unfold remI
              rw [offs_len, if_neg (by omega), Int.tmod_eq_emod_of_nonneg (by omega)]
              rfl
            have hi : n % (lines p).length < (lines p).length := Nat.mod_lt _ hpos
            generalize n % (lines p).length = i at hrem hi
            have hlen70 : (lines p).length ≤ 70 := by
              have := h.ops; have := h.ins; have := h.mons
              omega
            have hr1 : rd (offs 0 (lines p)) (i : Int) = some (((txt ((lines p).take i)).length : Nat) : Int) := by rw [rd_nat, offs_at _ _ _ hi, Nat.zero_add]
            have hw1 : w64 ((i : Int) + 1) = ((i + 1 : Nat) : Int) := by rw [w64_id (by omega) (by omega)]; rfl
            refine Ev.let hrem (Ev.let hr1 ?_)
            by_cases hi1 : i + 1 < (lines p).length
            · have hr2 : rd (offs 0 (lines p)) (w64 ((i : Int) + 1)) = some (((txt ((lines p).take (i + 1))).length : Nat) : Int) := by rw [hw1, rd_nat, offs_at _ _ _ hi1, Nat.zero_add]
              refine Ev.tt ?_ (Ev.let hr2 (top_ways h (by omega) hi rfl w hw' _ _ _))
              rw [hw1, offs_len]; exact decide_eq_true (by omega)
            · refine Ev.ff ?_ (top_ways h (by omega) hi ?_ w hw' _ _ _)
              · rw [hw1, offs_len]; exact decide_eq_false (by omega)
              · rw [List.take_of_length_le (by omega)]
    · exact Ev.step (t_TopTextsRefused_eq · _ _ _) (Ev.bind hF (Ev.bind (Ev.tt rfl hE) (Ev.bind (y := false) (Ev.ff (by simp [he, nt_not]) Ev.ret) (Ev.tt (by simp [he, nt_not]) Ev.ret))))
end Mini
