/- An evaluator of plain data over the form of a program, and its soundness. -/
import Derived.Test.YtapjdlcdgnochaaGreatDoorMa2
import Derived.Laws.BitsLemmas
import Derived.Laws.AppendOwn
set_option linter.unusedSectionVars false
set_option linter.unusedSimpArgs false
set_option linter.unusedVariables false

/- New variables, stores. -/
namespace Mini
open Go

section
variable {E : Env} {B : Base} {κ : Nat} {G : Gh} {m : Mem} {p : Nat → Prop} {w : World} {tm : List T} {a : Act} {o : Oper}

theorem cells_one {v : Value} (h : v.oneCell = true) : v.cells = #[v] := by
  cases v <;> first | rfl | simp [Value.oneCell] at h

/-- a value that a cell may hold -/
theorem storable_val {u : T} {v : Value} (h : RelAll E B G m p w tm a) (hs : storable m u = true) (hr : RelT G m p w u v) : v.oneCell = true ∧ Rel1 G m p w u v := by
  cases u with
  | dat t x =>
    simp only [storable, Bool.not_eq_true'] at hs
    exact ⟨(repV_one hs hr).2, hr⟩
  | nil => obtain rfl : v = _ := hr; exact ⟨rfl, rfl⟩
  | own k =>
    have hr' : Rel1 G m p w (.own k) v := hr
    obtain ⟨hp, g, hg, hv⟩ := hr'
    simp only [storable, alive, hg, Bool.not_eq_true', decide_eq_false_iff_not] at hs
    obtain ⟨ad, len, cap, h1, _⟩ := gr_row h hp hg hs
    refine ⟨?_, hp, g, hg, hv⟩
    rw [hv hs, h1]; rfl
  | addr i off => have hr' : Rel1 G m p w (.addr i off) v := hr; obtain ⟨_, _, rfl⟩ := id hr'; exact ⟨rfl, hr'⟩
  | clo f caps => have hr' : Rel1 G m p w (.clo f caps) v := hr; obtain ⟨cs, rfl, _⟩ := id hr'; exact ⟨rfl, hr'⟩
  | _ => simp [storable] at hs

theorem run_newVar {t : TypeId} {v : Value} : (newVar t v).run E.P w = .ok ⟨w.heap.size, 0, none⟩ (w.alloc (.cells v.cells t)) := by
  rfl

theorem ok_newB {cs : List T} {v : Value} {t : TypeId} {c : Array Value} (h : RelAll E B G m p w tm a) (hr : Runs E a o w (ptr w.heap.size 0) (w.alloc (.cells c t))) (hlen : cs.length = c.size)
    (hval : ∀ j (hj : j < c.size), c[j].oneCell = true ∧ Rel1 G m p w (getT cs j) c[j]) : OpOK E B κ G m p w tm a o (.newB [] cs) := by
  rintro u m' p' ⟨rfl, hn, hb, hg, hgn⟩ next Q hnx
  obtain ⟨G', h', hle, hk, hbx⟩ := new_box h (made_alloc w c t) hn hb (by
    rcases hgn with hgn | hgn
    · exact .inl hgn
    · exact .inr hgn) hg hlen hval
  refine wp_runs hr (hnx _ _ G' h' (relT_of1 ⟨hn.new, ⟨cs, hb⟩, ?_⟩))
  rw [hbx]

theorem alloc_ok (hE : EnvOK E) {t : TypeId} {t' : Ty} (h : RelAll E B G m p w tm a) (ho : o.op = .alloc t) (hty : E.ty t = some t') :
    OpOK E B κ G m p w tm a o (.newB [] (expl0 t')) := by
  obtain ⟨i, z, hi, hs, _, hz, hzc⟩ := info_of (fit_info (hE.ty _ _ hty))
  have hc : z.cells = (zcells t').toArray := by
    split at hzc
    · subst hzc; rfl
    · rename_i hna
      have h1 := rep_one _ _ _ (rep_zero (w := w) (ow := G.ow) t') z (by rw [hzc]; simp)
      rw [cells_one h1, hzc]
  refine ok_newB (v := z) (t := t) (c := z.cells) h ?_ ?_ ?_
  · refine runs_v (s := Instr.alloc t true (.tuple #[])) (by unfold execOp; rw [ho]) ?_
    unfold Instr.alloc
    rw [run_bindM (run_zero hi hz)]
    simp only
    rw [run_bindM run_newVar]; rfl
  · rw [hc, List.size_toArray, zcells_len, expl0_len]
  · intro j hj
    have hj' : j < (zcells t').length := by rw [hc] at hj; simpa using hj
    have he : z.cells[j] = (zcells t')[j] := by simp only [hc, List.getElem_toArray]
    rw [he]
    exact ⟨rep_one _ _ _ (rep_zero (w := w) (ow := G.ow) t') _ (List.getElem_mem _), expl0_rel t' j hj'⟩

theorem runs_box {t : TypeId} {x : Operand} (ho : o.op = .box t x) : Runs E a o w (ptr w.heap.size 0) (w.alloc (.cells (a.eval x).cells t)) := by
  refine runs_v (s := Instr.box t (a.eval x)) (by unfold execOp; rw [ho]) ?_
  unfold Instr.box
  rw [run_bindM run_newVar]; rfl

theorem box_ok (hE : EnvOK E) {t : TypeId} {x : Operand} {u : T} (h : RelAll E B G m p w tm a) (ho : o.op = .box t x) (hx : RelT G m p w u (a.eval x)) :
    OpOK E B κ G m p w tm a o (boxT E m t u) := by
  have one : storable m u = true → OpOK E B κ G m p w tm a o (.newB [] [u]) := by
    intro hs
    obtain ⟨h1, h2⟩ := storable_val h hs hx
    have hc := cells_one h1
    refine ok_newB (v := a.eval x) (t := t) (c := (a.eval x).cells) h (runs_box ho) (by rw [hc]; rfl) ?_
    intro j hj
    have : j = 0 := by rw [hc] at hj; simpa using hj
    subst this
    simp only [hc]
    exact ⟨h1, h2⟩
  unfold boxT
  split
  · rename_i t' hty
    split
    · split
      · rename_i u' y
        split
        · rename_i he _
          have hr := repV_cells (show RepV w G.ow u' y (a.eval x) from hx)
          refine ok_newB (v := a.eval x) (t := t) (c := (a.eval x).cells) h (runs_box ho) ?_ ?_
          · rw [expl_len, ← rep_len _ _ _ hr]; simp
          · intro j hj
            have h1 := rep_one _ _ _ hr (a.eval x).cells[j] (by simp)
            have h2 := expl_rel (G := G) (m := m) (p := p) rfl u' y _ hr j (by simpa using hj)
            exact ⟨h1, by simpa using h2⟩
        · exact ok_bad
      · rename_i u' l
        split
        · split
          · obtain ⟨vs, e, hl, hv⟩ : ∃ vs : Array Value, a.eval x = .agg vs ∧ l.length = vs.size ∧ ∀ i, i < l.length → Rel1 G m p w (getT l i) (vs.getD i undef) ∧ (vs.getD i undef).oneCell = true := hx
            refine ok_newB (v := a.eval x) (t := t) (c := (a.eval x).cells) h (runs_box ho) (by rw [e]; exact hl) ?_
            intro j hj
            have e2 : (a.eval x).cells[j] = vs.getD j undef := by
              simp only [e]
              have hj' : j < vs.size := by rw [e] at hj; exact hj
              simp [hj', Value.cells]
            rw [e2]
            have hj' : j < l.length := by rw [hl]; rw [e] at hj; exact hj
            exact ⟨(hv j hj').2, (hv j hj').1⟩
          · exact ok_bad
        · exact ok_bad
      · exact ok_bad
    · split
      · rename_i hs; exact one hs
      · exact ok_bad
  · split
    · rename_i hs; exact one hs.2
    · exact ok_bad

/-! ### stores -/

theorem wp_skip {w' : World} {next : Act → World → Prop} {Q : Exit → Act → World → Prop}
    (h : (execOp a.eval o).run E.P w = .ok .skip w') (hn : next (a.put o.dst undef) w') : o.wp E.P a w next Q := by
  unfold Oper.wp; rw [h]; exact hn

theorem run_storeAt {t : TypeId} {x y : Operand} {b o' : Nat} {w' : World} (ho : o.op = .store t x y) (hx : a.eval x = ptr b o') (h : (storeVar t ⟨b, o', none⟩ (a.eval y)).run E.P w = .ok () w') :
    (execOp a.eval o).run E.P w = .ok .skip w' := by
  unfold execOp; rw [ho]
  simp only [hx]
  unfold Instr.storeAt
  refine (run_bindM (x := ()) (w1 := w') ?_).trans rfl
  rw [run_bindM (show (Instr.sureAddr (ptr b o')).run E.P w = .ok ⟨b, o', none⟩ w from rfl)]
  exact h

theorem run_storeVar_one {tid b o' : Nat} {v : Value} {i : TypeInfo} (hi : E.P.info? tid = some i) (hs : i.size = 1) (h1 : v.oneCell = true) (hc : ∃ u, cl w b o' = some u) (hf : fz w b o' = false) :
    ∃ w', (storeVar tid ⟨b, o', none⟩ v).run E.P w = .ok () w' ∧ Wrote w w' b o' [v] := by
  obtain ⟨w', hr, hw⟩ := storeCells_run (P := E.P) (b := b) (o := o') [v] 0 w (by
    intro j hj
    have : j = 0 := by simpa using hj
    subst this
    exact ⟨by simpa using hc, by simpa using hf, h1⟩)
  refine ⟨w', ?_, by simpa using hw⟩
  unfold storeVar
  rw [run_bindM (run_sizeOf hi), hs, cells_one h1, if_neg (by simp)]
  exact hr

theorem one_size {tid : Nat} (h : oneB E.P tid = true) : ∃ i, E.P.info? tid = some i ∧ i.size = 1 := by
  unfold oneB at h
  split at h <;> try (cases h; done)
  rename_i i hi
  simp only [Bool.and_eq_true, beq_iff_eq] at h
  exact ⟨i, hi, h.1⟩

/-- a store into a box: a run of cells -/
theorem store_box {tid : TypeId} {x y : Operand} {i off : Nat} {cs l : List T} (h : RelAll E B G m p w tm a) (ho : o.op = .store tid x y) (hx : RelT G m p w (.addr i off) (a.eval x))
    (hc : lk m.boxes i = some cs) (hoff : off + l.length ≤ cs.length) {vs : List Value} (hl : l.length = vs.length) (hval : ∀ j (hj : j < vs.length), vs[j].oneCell = true ∧ Rel1 G m p w (getT l j) vs[j])
    (H : ∀ b o', (∀ j, j < vs.length → (∃ u, cl w b (o' + j) = some u) ∧ fz w b (o' + j) = false) → ∃ w', (storeVar tid ⟨b, o', none⟩ (a.eval y)).run E.P w = .ok () w' ∧ Wrote w w' b o' vs) :
    OpOK E B κ G m p w tm a o (.ok .unk ⟨setB m.boxes i (setCells cs off l), m.gr⟩) := by
  obtain ⟨hp, _, ev⟩ := hx
  rintro u m' p' ⟨rfl, rfl, rfl⟩ next Q hn
  obtain ⟨w', hr, hw⟩ := H (G.bx i).1 ((G.bx i).2 + off) (fun j hj => by
    obtain ⟨_, c1, v, c2, _⟩ := h.inv.box i cs hp hc (off + j) (by omega)
    rw [Nat.add_assoc]
    exact ⟨⟨v, c2⟩, c1⟩)
  exact wp_skip (run_storeAt ho ev hr) (hn undef w' G (box_store h hp hc hoff hl hw hval) trivial)

theorem setSub_len {t : Ty} {l r : List Value} {off : Nat} (h1 : l.length = t.size) (h2 : off + r.length ≤ l.length) (j : Nat) (hj : j < t.size) :
    (l.take off ++ r ++ l.drop (off + r.length))[j]? = if off ≤ j ∧ j < off + r.length then r[j - off]? else l[j]? := by
  by_cases ha : j < off
  · rw [if_neg (by omega), List.append_assoc, List.getElem?_append_left (by rw [List.length_take]; omega), List.getElem?_take, if_pos ha]
  · by_cases hb : j < off + r.length
    · rw [if_pos (by omega), List.getElem?_append_left (by rw [List.length_append, List.length_take]; omega), List.getElem?_append_right (by rw [List.length_take]; omega)]
      congr 1; rw [List.length_take]; omega
    · rw [if_neg (by omega), List.getElem?_append_right (by rw [List.length_append, List.length_take]; omega), List.getElem?_drop]
      congr 1; rw [List.length_append, List.length_take]; omega


theorem rd_notup {gr : List (Nat × Gr)} {t : Ty} {u : T} {x : El t} (h : rdCell gr t u = some x) : u.isTup = false := by
  cases u <;> first | rfl | (simp [rdCell] at h; done)

/-- a slot that reads as data is data, behind its sharing -/
theorem rd_dat {t : Ty} {u : T} {v : Value} {x : El t} {ks : List Nat} (h : RelAll E B G (m.share ks) p w tm a) (hr : RelT G (m.share ks) p w u v) (hx : rdCell m.gr t u = some x) (hk : ∀ k ∈ ownsOf [u], k ∈ ks) : RepV w G.ow t x v := by
  have hx' : rdCell (m.share ks).gr t u = some x := by simp only [Mem.share, rdCell_share]; exact hx
  rw [relT_eq1 (rd_notup hx)] at hr
  refine rd_rep h.inv.gr hr hx' ?_
  rintro k g rfl hg
  exact share_notexcl (hk k (by simp [ownsOf])) hg

theorem repN_set {α : Type} {one : α → List Value → Prop} {sz : Nat} (hsz : ∀ x l, one x l → l.length = sz) : ∀ (xs : List α) (l r : List Value) (q : Nat) (y : α), q < xs.length → RepN one xs l → one y r →
    RepN one (xs.set q y) (l.take (q * sz) ++ r ++ l.drop (q * sz + r.length)) := by
  intro xs
  induction xs with
  | nil => intro l r q y hq; simp at hq
  | cons x xs ih =>
    intro l r q y hq hl hr
    obtain ⟨l1, l2, rfl, h1, h2⟩ := hl
    have e1 := hsz _ _ h1
    have e2 := hsz _ _ hr
    cases q with
    | zero =>
      refine ⟨r, l2, ?_, hr, h2⟩
      simp [e2, ← e1]
    | succ q =>
      refine ⟨l1, l2.take (q * sz) ++ r ++ l2.drop (q * sz + r.length), ?_, h1, ih l2 r q y (by simpa using hq) h2 hr⟩
      have e3 : (q + 1) * sz = l1.length + q * sz := by rw [e1, Nat.succ_mul]; omega
      rw [e3, Nat.add_assoc, List.take_length_add_append, List.drop_length_add_append]
      simp

/-- a store of a part, seen as a store of the whole -/
theorem wrote_whole {w' : World} {b o' q : Nat} {vs r : List Value} (hw : Wrote w w' b (o' + q) r) (hq : q + r.length ≤ vs.length) (hc : ∀ j, j < vs.length → cl w b (o' + j) = vs[j]?)
    (hz : vs.length = 0 → r = []) : Wrote w w' b o' (vs.take q ++ r ++ vs.drop (q + r.length)) := by
  have hl : (vs.take q ++ r ++ vs.drop (q + r.length)).length = vs.length := by simp; omega
  refine ⟨hw.os, hw.tape, hw.output, hw.size, fun b' o2 => ?_, hw.froz, fun b' hb => ?_⟩
  · rw [hw.cell, hl]
    by_cases hin : b' = b ∧ o' ≤ o2 ∧ o2 < o' + vs.length
    · obtain ⟨rfl, h1, h2⟩ := hin
      rw [if_pos (show b' = b' ∧ o' ≤ o2 ∧ o2 < o' + vs.length from ⟨rfl, h1, h2⟩)]
      by_cases ha : o2 - o' < q
      · rw [if_neg (by omega), List.append_assoc, List.getElem?_append_left (by rw [List.length_take]; omega), List.getElem?_take, if_pos ha, ← hc _ (by omega)]
        congr 1; omega
      · by_cases hb : o2 - o' < q + r.length
        · rw [if_pos (by omega), List.getElem?_append_left (by rw [List.length_append, List.length_take]; omega), List.getElem?_append_right (by rw [List.length_take]; omega)]
          congr 1; rw [List.length_take]; omega
        · rw [if_neg (by omega), List.getElem?_append_right (by rw [List.length_append, List.length_take]; omega), List.getElem?_drop]
          have := hc (o2 - o') (by omega)
          rw [show o' + (o2 - o') = o2 by omega] at this
          rw [this]
          congr 1; rw [List.length_append, List.length_take]; omega
    · rw [if_neg hin, if_neg (by omega)]
  · refine hw.block b' (hb.imp id fun he => ?_)
    refine hz ?_
    rw [← hl, he]; rfl

theorem store_ok (hE : EnvOK E) {tid : TypeId} {x y : Operand} {u v : T} (h : RelAll E B G m p w tm a) (ho : o.op = .store tid x y) (hx : RelT G m p w u (a.eval x)) (hy : RelT G m p w v (a.eval y)) :
    OpOK E B κ G m p w tm a o (storeT E m tid u v) := by
  cases u with
  | addr i off =>
    have one : ∀ cs, lk m.boxes i = some cs → (∃ inf, E.P.info? tid = some inf ∧ inf.size = 1) → storable m v = true → off < cs.length → OpOK E B κ G m p w tm a o (.ok .unk ⟨setB m.boxes i (setCells cs off [v]), m.gr⟩) := by
      rintro cs hc ⟨inf, hi, hs1⟩ hs hlt
      obtain ⟨h1, h2⟩ := storable_val h hs hy
      refine store_box (vs := [a.eval y]) h ho hx hc (by simp only [List.length_singleton]; omega) rfl ?_ ?_
      · intro j hj
        have : j = 0 := by simpa using hj
        subst this
        exact ⟨h1, h2⟩
      · intro b o' hcl
        obtain ⟨c1, c2⟩ := hcl 0 (by simp)
        exact run_storeVar_one hi hs1 h1 (by simpa using c1) (by simpa using c2)
    simp only [storeT]
    split
    · rename_i cs t hc hty
      split
      · split
        · rename_i u' z
          split
          · rename_i q he
            obtain rfl := eq?_eq he
            split
            · rename_i hoff
              have hr := repV_cells (show RepV w G.ow u' z (a.eval y) from hy)
              have hlen := rep_len _ _ _ hr
              refine store_box (vs := (a.eval y).cells.toList) h ho hx hc (by rw [expl_len]; exact hoff) (by rw [expl_len, hlen]) ?_ ?_
              · intro j hj
                exact ⟨rep_one _ _ _ hr _ (List.getElem_mem _), expl_rel (G := G) (m := m) (p := p) rfl u' z _ hr j hj⟩
              · intro b o' hcl
                exact run_storeVar (hE.ty _ _ hty) (by simpa using hlen) fun j hj => ⟨(hcl j hj).1, (hcl j hj).2, rep_one _ _ _ hr _ (List.getElem_mem _)⟩
            · exact ok_bad
          · exact ok_bad
        · rename_i u' l
          split
          · rename_i q he
            obtain rfl := eq?_eq he
            split
            · rename_i hoff
              obtain ⟨vs, e, hl, hv⟩ : ∃ vs : Array Value, a.eval y = .agg vs ∧ l.length = vs.size ∧ ∀ i, i < l.length → Rel1 G m p w (getT l i) (vs.getD i undef) ∧ (vs.getD i undef).oneCell = true := hy
              have e2 : (a.eval y).cells.toList = vs.toList := by rw [e]; rfl
              have hget : ∀ j (hj : j < vs.toList.length), vs.toList[j].oneCell = true ∧ Rel1 G m p w (getT l j) vs.toList[j] := by
                intro j hj
                have hj' : j < vs.size := by simpa using hj
                have := hv j (by rw [hl]; exact hj')
                have e3 : vs.getD j undef = vs.toList[j] := by simp [hj']
                rw [e3] at this
                exact ⟨this.2, this.1⟩
              have hlen : vs.toList.length = u'.size := by rw [← hoff.1, hl]; simp
              refine store_box (vs := vs.toList) h ho hx hc (by rw [hoff.1]; exact hoff.2) (by rw [hl]; simp) hget ?_
              intro b o' hcl
              have := run_storeVar (P := E.P) (w := w) (b := b) (o := o') (v := a.eval y) (hE.ty _ _ hty) (by rw [← Array.length_toList, e2]; exact hlen) (fun j hj => by
                have hj' : j < vs.toList.length := by rw [e2] at hj; exact hj
                refine ⟨(hcl j hj').1, (hcl j hj').2, ?_⟩
                simp only [e2]; exact (hget j hj').1)
              rw [e2] at this
              exact this
            · exact ok_bad
          · exact ok_bad
        · exact ok_bad
      · rename_i hag
        split
        · rename_i hs
          obtain ⟨inf, z, hi, hs1, _⟩ := info_of (fit_info (hE.ty _ _ hty))
          refine one cs hc ⟨inf, hi, ?_⟩ hs.1 hs.2
          rw [hs1]; cases t <;> first | rfl | exact absurd rfl hag
        · exact ok_bad
    · rename_i cs hc hty
      split
      · rename_i hs
        exact one cs hc (one_size (hE.one _ hs.1)) hs.2.1 hs.2.2
      · exact ok_bad
    · exact ok_bad
  | eptr k ver i off t z =>
    simp only [storeT]
    split
    · rename_i g u hg hty
      split
      · rename_i yv hrd
        split
        · rename_i zn q hsub hmd he
          split
          · rename_i hcond
            obtain ⟨hver, hnk⟩ := hcond
            rintro u' m' p' ⟨rfl, rfl, rfl⟩ next Q hn
            have hpk : p' k := hx.1
            obtain ⟨G', h', hle, hk, hbx, hgv, hsh⟩ := share_all (ownsOf [v]) h (fun q hq => by
              cases v with
              | own q' =>
                simp only [ownsOf, List.mem_singleton] at hq
                subst hq
                exact hy.1
              | _ => simp [ownsOf] at hq)
            have hx' := relT_mono hle hk hx
            have hy' := relT_mono hle hk hy
            have hnot : k ∉ ownsOf [v] := by
              intro hm; rw [← List.elem_iff] at hm; rw [hm] at hnk; cases hnk
            have hg' : lk (m.share (ownsOf [v])).gr k = some g := by
              simp only [Mem.share, lk_shareKs, hg, Option.map_some, if_neg hnot]
            obtain ⟨tt, xs, md, vr⟩ := g
            simp only at hver hmd he
            subst hmd; subst hver
            have het : t = tt := by injection (show Ty.sl t = Ty.sl tt from q)
            subst het
            obtain ⟨_, g2, hg2, hv2⟩ := hx'
            rw [hg'] at hg2
            obtain rfl := Option.some.inj hg2
            obtain ⟨b, o', len, cap, g1, i0, i1, ev, _, g6⟩ := hv2 (by simp)
            obtain ⟨_, g7⟩ := g6 rfl
            simp only at i1 g7 ev
            have hz : xs[i.toNat] = z := by
              rw [List.getElem?_eq_getElem i1] at g7
              exact Option.some.inj g7
            have hok := h'.inv.gr k _ hpk hg'
            simp only [GrOK] at hok
            obtain ⟨ad, len', cap', r1, r2, r3, r4⟩ := hok
            rw [g1] at r1
            simp only [Value.slice.injEq] at r1
            obtain ⟨rfl, rfl, rfl⟩ := r1
            obtain ⟨b', o2, r5, hrow, _⟩ := r4 (by omega)
            simp only [Option.some.injEq, Addr.mk.injEq] at r5
            obtain ⟨rfl, rfl, _⟩ := r5
            obtain ⟨l, hl, hcc⟩ := hrow _ i1
            rw [hz] at hl
            have hll := rep_len _ _ _ hl
            have hrep : RepV w G'.ow u yv (a.eval y) := rd_dat h' hy' hrd (fun _ h => h)
            have hcl := repV_cells hrep
            have hclen := rep_len _ _ _ hcl
            obtain ⟨s1, s2⟩ := setSub_spec (w := w) (ow := G'.ow) t z off u yv zn hsub
            have hzr := s2 l _ hl hcl
            have hfz : ∀ j, j < t.size → fz w b (o' + i.toNat * t.size + j) = false := fun j hj => (hcc j hj).1.2 rfl
            obtain ⟨w', hr, hw⟩ := run_storeVar (P := E.P) (w := w) (b := b) (o := o' + i.toNat * t.size + off) (v := a.eval y) (hE.ty _ _ hty) (by simpa using hclen) (by
              intro j hj
              have hjl : off + j < t.size := by omega
              refine ⟨⟨l[off + j]'(by omega), ?_⟩, ?_, rep_one _ _ _ hcl _ (List.getElem_mem _)⟩
              · have := (hcc (off + j) hjl).2
                rw [Nat.add_assoc, this, List.getElem?_eq_getElem]
              · rw [Nat.add_assoc]; exact hfz _ hjl)
            obtain ⟨hfin, _, _⟩ := gr_store (z := zn) (idx := i.toNat) (off := off) (vs := (a.eval y).cells.toList) h' hpk hg' rfl g1 i1 (by simp only; omega) hw
              ⟨_, hzr, fun j hj => by
                rw [← hclen, setSub_len hll (by omega) j hj, (hcc j hj).2]⟩
            exact wp_skip (run_storeAt ho ev hr) (hn undef w' G' hfin trivial)
          · exact ok_bad
        · exact ok_bad
      · exact ok_bad
    · exact ok_bad
  | aptr i off n u ix =>
    simp only [storeT]
    split
    · rename_i cs t hc hty
      split
      · rename_i xs r yv q hasm hrd he
        obtain rfl := eq?_eq he
        split
        · rename_i hlen
          rintro u' m' p' ⟨rfl, rfl, rfl⟩ next Q hn
          obtain ⟨G', h', hle, hk, hbx, hgv, hsh⟩ := share_all (ownsOf (v :: (cs.drop off).take (n * u.size))) h (fun q hq => by
            have hcell : ∀ k ∈ ownsOf ((cs.drop off).take (n * u.size)), p' k := owns_act (G := G) (m := m) (w := w) (fun j hj => by
              rw [List.length_take, List.length_drop] at hj
              obtain ⟨_, _, v2, _, _, c3⟩ := h.inv.box i cs hx.1 hc (off + j) (by omega)
              exact ⟨v2, by rw [getT_take _ _ _ (by omega), getT_drop]; exact c3⟩)
            cases v with
            | own q' =>
              simp only [ownsOf, List.mem_cons] at hq
              rcases hq with rfl | hq
              · exact hy.1
              · exact hcell q hq
            | _ => simp only [ownsOf] at hq; exact hcell q hq)
          obtain ⟨hp, _, i0, i1, ev⟩ := relT_mono hle hk hx
          have hy' := relT_mono hle hk hy
          have hsub : ∀ k ∈ ownsOf ((cs.drop off).take (n * u.size)), k ∈ ownsOf (v :: (cs.drop off).take (n * u.size)) := by
            intro k hk'; cases v <;> simp [ownsOf, hk']
          have hrep : RepV w G'.ow u yv (a.eval y) := rd_dat h' hy' hrd (fun k hk' => by cases v <;> simp [ownsOf] at hk' ⊢ <;> simp [hk'])
          have hcl := repV_cells hrep
          have hclen := rep_len _ _ _ hcl
          obtain ⟨vs, hvl, hvs⟩ := box_vals (off := off) (cs := cs) (n := n * u.size) h' hp hc hlen
          have hxs : Rep w G'.ow (.arr n u) xs vs := by
            refine asm_rep (G := G') (m := m.share (ownsOf (v :: (cs.drop off).take (n * u.size)))) (p := p') h'.inv.gr (.arr n u) (cs.drop off) xs r vs ?_ hvl (fun j hj => (hvs j hj).2.2) ?_
            · simp only [Mem.share]; rw [asm_share]; exact hasm
            · intro j hj k g he hg
              refine share_notexcl (hsub _ (mem_ownsOf (l := (cs.drop off).take (n * u.size)) (j := j) ?_ ?_)) hg
              · rw [List.length_take, List.length_drop]; simp only [Ty.size] at hj; omega
              · rw [getT_take _ _ _ (show j < n * u.size from hj)]; exact he
          have hxl : xs.length = n := hxs.1
          have hq : ix.toNat < xs.length := by omega
          have hnew := repN_set (sz := u.size) (fun x l h => rep_len u x l h) xs vs _ ix.toNat yv hq hxs.2 hcl
          have hb : (ix.toNat + 1) * u.size ≤ n * u.size := Nat.mul_le_mul_right _ (by omega)
          rw [Nat.succ_mul] at hb
          have hvq : ix.toNat * u.size + (a.eval y).cells.toList.length ≤ vs.length := by omega
          obtain ⟨w', hr, hw⟩ := run_storeVar (P := E.P) (w := w) (b := (G'.bx i).1) (o := (G'.bx i).2 + off + ix.toNat * u.size) (v := a.eval y) (hE.ty _ _ hty) (by simpa using hclen) (by
            intro j hj
            have hj2 : off + (ix.toNat * u.size + j) < cs.length := by omega
            obtain ⟨_, c1, v2, c2, _⟩ := h'.inv.box i cs hp hc _ hj2
            have e : (G'.bx i).2 + off + ix.toNat * u.size + j = (G'.bx i).2 + (off + (ix.toNat * u.size + j)) := by omega
            rw [e]
            exact ⟨⟨v2, c2⟩, c1, rep_one _ _ _ hcl _ (List.getElem_mem _)⟩)
          have hww := wrote_whole (vs := vs) hw hvq (fun j hj => by rw [(hvs j hj).1, List.getElem?_eq_getElem]) (fun h0 => List.length_eq_zero_iff.1 (by omega))
          have hnewl : (vs.take (ix.toNat * u.size) ++ (a.eval y).cells.toList ++ vs.drop (ix.toNat * u.size + (a.eval y).cells.toList.length)).length = n * u.size := by
            simp; simp at hvq; omega
          have hRn : Rep w G'.ow (.arr n u) (List.set (α := El u) xs ix.toNat yv) _ := ⟨(List.length_set (α := El u)).trans hxl, hnew⟩
          have hexl : (expl (.arr n u) (List.set (α := El u) xs ix.toNat yv)).length = n * u.size := expl_len (.arr n u) _
          have hfin := box_store (l := expl (.arr n u) (List.set (α := El u) xs ix.toNat yv)) h' hp hc (by rw [hexl]; exact hlen) (by rw [hexl, hnewl]) hww (by
            intro j hj
            exact ⟨rep_one _ _ _ hRn _ (List.getElem_mem _), expl_rel (G := G') (m := m.share (ownsOf (v :: (cs.drop off).take (n * u.size)))) (p := p') rfl (.arr n u) _ _ hRn j hj⟩)
          exact wp_skip (run_storeAt ho ev hr) (hn undef w' G' hfin trivial)
        · exact ok_bad
      · exact ok_bad
    · exact ok_bad
  | _ => exact ok_bad

end
end Mini

/- New slices; values of their parts. -/
namespace Mini
open Go

section
variable {E : Env} {B : Base} {κ : Nat} {G : Gh} {m : Mem} {p : Nat → Prop} {w : World} {tm : List T} {a : Act} {o : Oper}

/-- a slice that lies in a new block, or is empty -/
def NewSl (G : Gh) (w w' : World) (v : Value) (g : Gr) : Prop :=
  g.md ≠ .dead ∧ ((∃ c len cap, Made w w' c ∧ v = .slice (some ⟨w.heap.size, 0, none⟩) len cap ∧ len = g.xs.length ∧ len ≤ cap ∧ cap * g.t.size ≤ c.size ∧
    ∀ i (hi : i < g.xs.length), ∃ l, Rep w G.ow g.t g.xs[i] l ∧ ∀ j, j < g.t.size → c[i * g.t.size + j]? = l[j]?) ∨
  (Quiet w w' ∧ g.xs = [] ∧ ∃ ad, v = .slice ad 0 0))

theorem new_key {m' : Mem} {p' : Nat → Prop} {g : Gr} {v : Value} (h : RelAll E B G m p w tm a) (hn : NewKey m m' p p' κ) (hg : lk m'.gr κ = some g) (hb : lk m'.boxes κ = none)
    (hok : GrOK { G with gv := fun q => if q = κ then v else G.gv q } w κ g) :
    ∃ G', RelAll E B G' m' p' w tm a ∧ MemLe G m p G' m' p' ∧ Keeps w G.ow w G'.ow ∧ G'.gv κ = v := by
  let G' : Gh := { G with gv := fun q => if q = κ then v else G.gv q }
  have hk : Keeps w G.ow w G'.ow := Keeps.refl _ _
  have hle : MemLe G m p G' m' p' := newKey_le hn (fun _ _ => rfl) (fun k hk => by show (if k = κ then _ else G.gv k) = _; rw [if_neg hk])
  refine ⟨G', ⟨relTm_mono hle hk h.tms, ⟨?_, ?_, h.inv.lt⟩, h.fr, h.glob, h.defers, bx_mono hle h.bx, h.sz⟩, hle, hk, by show (if κ = κ then _ else _) = _; rw [if_pos rfl]⟩
  · intro k cs hk' hc
    by_cases he : k = κ
    · subst he; rw [hb] at hc; cases hc
    · have hpk : p k := (hn.down k hk').resolve_right he
      rw [hn.box k he] at hc
      exact boxOK_mono hle hk rfl (fun b o ho => ⟨ho, rfl, rfl⟩) (h.inv.box k cs hpk hc)
  · intro k g' hk' hg'
    by_cases he : k = κ
    · subst he
      rw [hg] at hg'
      obtain rfl := Option.some.inj hg'
      exact hok
    · have hpk : p k := (hn.down k hk').resolve_right he
      rw [hn.gr k he] at hg'
      exact grOK_mono hk (by show (if k = κ then _ else G.gv k) = _; rw [if_neg he]) (fun b o ho => ⟨ho, rfl, rfl⟩) (h.inv.gr k g' hpk hg')

theorem new_sl {m' : Mem} {p' : Nat → Prop} {g : Gr} {v : Value} {w' : World} (h : RelAll E B G m p w tm a) (hs : NewSl G w w' v g) (hn : NewKey m m' p p' κ) (hg : lk m'.gr κ = some g) (hb : lk m'.boxes κ = none) :
    ∃ G', RelAll E B G' m' p' w' tm a ∧ MemLe G m p G' m' p' ∧ Keeps w G.ow w' G'.ow ∧ G'.gv κ = v := by
  obtain ⟨hmd, ⟨c, len, cap, hm, rfl, h1, h2, h3, h4⟩ | ⟨hq, hxs, ad, rfl⟩⟩ := hs
  · exact new_gr h hm hn hg hmd hb h1 h2 h3 h4
  · obtain ⟨G', h', hle, hk, hv⟩ := new_key (v := .slice ad 0 0) h hn hg hb (by
      have hrow : ∀ c, GrRow { G with gv := fun q => if q = κ then .slice ad 0 0 else G.gv q } w κ g.t g.xs c := fun c =>
        ⟨ad, 0, 0, by simp, by rw [hxs]; rfl, Nat.le_refl _, fun h => by omega⟩
      unfold GrOK
      split
      · trivial
      · exact hrow _
      · exact hrow _)
    exact ⟨G', quiet_rel h' hq, hle, hk.trans (hq.keeps _), hv⟩

theorem ok_newG {ks : List Nat} {g : Gr} (h : RelAll E B G m p w tm a) (hks : ∀ k ∈ ks, p k)
    (H : ∀ G', RelAll E B G' (m.share ks) p w tm a → MemLe G m p G' (m.share ks) p → Keeps w G.ow w G'.ow → ∃ v w', NewSl G' w w' v g ∧ Runs E a o w v w') :
    OpOK E B κ G m p w tm a o (.newG ks g) := by
  rintro u m' p' ⟨rfl, hn, hg, hb⟩ next Q hnx
  obtain ⟨G1, h1, hle, hk, _⟩ := share_all ks h hks
  obtain ⟨v, w', hs, hr⟩ := H G1 h1 hle hk
  obtain ⟨G', h', _, _, hv⟩ := new_sl h1 hs hn hg hb
  exact wp_runs hr (hnx v w' G' h' (relT_of1 ⟨hn.new, g, hg, fun _ => hv.symm⟩))

theorem ok_gpart {ks : List Nat} {τ : Ty} {x : Option (El τ)} {f : El τ → Gr} (h : RelAll E B G m p w tm a) (hks : ∀ k ∈ ks, p k)
    (H : ∀ y, x = some y → ∀ G', RelAll E B G' (m.share ks) p w tm a → MemLe G m p G' (m.share ks) p → Keeps w G.ow w G'.ow → ∃ v w', NewSl G' w w' v (f y) ∧ Runs E a o w v w') :
    OpOK E B κ G m p w tm a o (.gpart ks τ x f) := by
  rintro u m' p' ⟨y, hy, rfl, hn, hg, hb⟩ next Q hnx
  obtain ⟨G1, h1, hle, hk, _⟩ := share_all ks h hks
  obtain ⟨v, w', hs, hr⟩ := H y hy G1 h1 hle hk
  obtain ⟨G', h', _, _, hv⟩ := new_sl h1 hs hn hg hb
  exact wp_runs hr (hnx v w' G' h' (relT_of1 ⟨hn.new, f y, hg, fun _ => hv.symm⟩))

/-! ### parts -/

theorem fold_set {off : Nat} : ∀ (l : List Value) (s : Nat) (cells : Array Value), off + s + l.length ≤ cells.size →
    ((l.zipIdx s).foldl (fun (cs : Array Value) (x : Value × Nat) => cs.setIfInBounds (off + x.2) x.1) cells).toList = cells.toList.take (off + s) ++ l ++ cells.toList.drop (off + s + l.length) := by
  intro l
  induction l with
  | nil => intro s cells _; simp
  | cons v l ih =>
    intro s cells h
    simp only [List.length_cons] at h
    simp only [List.zipIdx_cons, List.foldl_cons]
    rw [ih (s + 1) _ (by rw [Array.size_setIfInBounds]; omega)]
    simp only [Array.toList_setIfInBounds, List.length_cons]
    have hlt : off + s < cells.toList.length := by simp; omega
    rw [List.take_set, List.drop_set_of_lt (by omega), show off + (s + 1) = off + s + 1 by omega]
    rw [List.take_succ_eq_append_getElem hlt, List.set_append_right _ _ (by rw [List.length_take]; omega)]
    simp only [List.length_take, List.append_assoc]
    rw [show off + s - min (off + s) cells.toList.length = 0 by omega]
    simp only [List.set_cons_zero, List.cons_append, List.nil_append]
    rw [show off + s + 1 + l.length = off + s + (l.length + 1) by omega]

theorem fold_cells {off : Nat} {v : Value} {cells : Array Value} (h : off + v.cells.size ≤ cells.size) :
    (v.cells.zipIdx.foldl (fun (cs : Array Value) (x : Value × Nat) => cs.setIfInBounds (off + x.2) x.1) cells).toList = cells.toList.take off ++ v.cells.toList ++ cells.toList.drop (off + v.cells.toList.length) := by
  rw [← Array.foldl_toList, Array.toList_zipIdx, fold_set _ 0 _ (by simpa using h)]
  simp

theorem fill_step {place : Nat → Option (Nat × Nat)} {cells : Array Value} {i off size : Nat} {v : Value} {rest : List (Nat × Value)} (hp : place i = some (off, size)) (hs : v.cells.toList.length = size) (h : off + size ≤ cells.toList.length) :
    ∃ cells', Instr.fill place cells ((i, v) :: rest) = Instr.fill place cells' rest ∧ cells'.toList = cells.toList.take off ++ v.cells.toList ++ cells.toList.drop (off + v.cells.toList.length) := by
  refine ⟨_, ?_, fold_cells (off := off) (v := v) (cells := cells) (by simp at hs h; omega)⟩
  simp only [Instr.fill, hp]
  rw [if_neg]
  simp at hs h ⊢
  omega

theorem build_cells {ks : List Nat} {t : Ty} {place : Nat → Option (Nat × Nat)} {ρ : Operand → T} (hp : ∀ i off u, fieldTy t i = some (off, u) → place i = some (off, u.size))
    (h : RelAll E B G (m.share ks) p w tm a) (hρ : ∀ x, RelT G (m.share ks) p w (ρ x) (a.eval x)) : ∀ (l : List (Nat × Operand)) (x x' : El t) (cells : Array Value), (∀ k ∈ ownsOf (partVs (ops2 ρ l)), k ∈ ks) →
    buildF m.gr t (ops2 ρ l) x = some x' → Rep w G.ow t x cells.toList → ∃ cells', Instr.fill place cells (l.map fun (i, x) => (i, a.eval x)) = some cells' ∧ Rep w G.ow t x' cells'.toList := by
  intro l
  induction l with
  | nil =>
    intro x x' cells _ hb hr
    obtain rfl := Option.some.inj (show some x = some x' from hb)
    exact ⟨cells, rfl, hr⟩
  | cons q l ih =>
    intro x x' cells hk hb hr
    obtain ⟨i, z⟩ := q
    simp only [ops2, buildF] at hb
    split at hb
    · rename_i off u hf
      split at hb
      · rename_i y hy
        split at hb
        · rename_i x1 hx1
          obtain ⟨off', e1, e2, e3⟩ := setField_spec (w := w) (ow := G.ow) t x i u y x1 hx1
          rw [hf] at e1
          obtain ⟨rfl, _⟩ := Prod.mk.inj (Option.some.inj e1)
          have hv := repV_cells (rd_dat h (hρ z) hy (fun k hk' => hk k (by
            simp only [ops2, partVs]
            cases hz : ρ z <;> simp [hz, ownsOf] at hk' ⊢ <;> simp [hk'])))
          have hvl := rep_len _ _ _ hv
          have hcl := rep_len _ _ _ hr
          obtain ⟨c1, f1, f2⟩ := fill_step (rest := l.map fun (i, x) => (i, a.eval x)) (cells := cells) (hp i off u hf) hvl (by omega)
          have hr1 := e3 _ _ hr hv
          rw [← hvl, ← f2] at hr1
          obtain ⟨c2, g1, g2⟩ := ih x1 x' c1 (fun k hk' => hk k (by
            simp only [ops2, partVs]
            cases ρ z <;> simp [ownsOf, hk'])) hb hr1
          exact ⟨c2, by rw [List.map_cons]; exact f1.trans g1, g2⟩
        · cases hb
      · cases hb
    · cases hb

theorem buildL_cells {ks : List Nat} {t : Ty} {ρ : Operand → T}
    (h : RelAll E B G (m.share ks) p w tm a) (hρ : ∀ x, RelT G (m.share ks) p w (ρ x) (a.eval x)) : ∀ (l : List (Nat × Operand)) (xs xs' : List (El t)) (cells : Array Value), (∀ k ∈ ownsOf (partVs (ops2 ρ l)), k ∈ ks) →
    buildL m.gr t (ops2 ρ l) xs = some xs' → RepN (fun x l => Rep w G.ow t x l) xs cells.toList → xs'.length = xs.length ∧ ∃ cells', Instr.fill (fun i => some (i * t.size, t.size)) cells (l.map fun (i, x) => (i, a.eval x)) = some cells' ∧ RepN (fun x l => Rep w G.ow t x l) xs' cells'.toList := by
  intro l
  induction l with
  | nil =>
    intro xs xs' cells _ hb hr
    obtain rfl := Option.some.inj (show some xs = some xs' from hb)
    exact ⟨rfl, cells, rfl, hr⟩
  | cons q l ih =>
    intro xs xs' cells hk hb hr
    obtain ⟨i, z⟩ := q
    simp only [ops2, buildL] at hb
    split at hb
    · rename_i y hy
      split at hb
      · rename_i hi
        have hv := repV_cells (rd_dat h (hρ z) hy (fun k hk' => hk k (by
          simp only [ops2, partVs]
          cases hz : ρ z <;> simp [hz, ownsOf] at hk' ⊢ <;> simp [hk'])))
        have hvl := rep_len _ _ _ hv
        have hcl := repN_len (sz := t.size) (fun x l h => rep_len t x l h) _ _ hr
        have hb2 : (i + 1) * t.size ≤ xs.length * t.size := Nat.mul_le_mul_right _ (by omega)
        rw [Nat.succ_mul] at hb2
        obtain ⟨c1, f1, f2⟩ := fill_step (place := fun i => some (i * t.size, t.size)) (rest := l.map fun (i, x) => (i, a.eval x)) (cells := cells) (i := i) rfl hvl (by omega)
        have hr1 := repN_set (sz := t.size) (fun x l h => rep_len t x l h) xs _ _ i y hi hr hv
        rw [← f2] at hr1
        obtain ⟨g0, c2, g1, g2⟩ := ih (xs.set i y) xs' c1 (fun k hk' => hk k (by
          simp only [ops2, partVs]
          cases ρ z <;> simp [ownsOf, hk'])) hb hr1
        exact ⟨by rw [g0, List.length_set], c2, by rw [List.map_cons]; exact f1.trans g1, g2⟩
      · cases hb
    · cases hb

theorem repV_get : ∀ (n : Nat) (l : List Value), (zcells.repV n l).length = n * l.length ∧ ∀ j, j < n * l.length → (zcells.repV n l)[j]? = l[j % l.length]? := by
  intro n
  induction n with
  | zero => intro l; simp [zcells.repV]
  | succ n ih =>
    intro l
    obtain ⟨h1, h2⟩ := ih l
    refine ⟨by simp only [zcells.repV, List.length_append, h1, Nat.succ_mul]; omega, fun j hj => ?_⟩
    rw [Nat.succ_mul] at hj
    simp only [zcells.repV]
    by_cases hlt : j < l.length
    · rw [List.getElem?_append_left hlt, Nat.mod_eq_of_lt hlt]
    · rw [List.getElem?_append_right (by omega), h2 _ (by omega)]
      congr 1
      exact (Nat.mod_eq_sub_mod (by omega)).symm

/-- a row of new cells -/
theorem zrow (n : Nat) (z : Array Value) : ((Array.range (n * z.size)).map (z[· % z.size]!)).toList = zcells.repV n z.toList := by
  obtain ⟨h1, h2⟩ := repV_get n z.toList
  apply List.ext_getElem?
  intro j
  by_cases hj : j < n * z.size
  · rw [h2 j (by simpa using hj)]
    have hz : j % z.size < z.size := Nat.mod_lt _ (by
      rcases Nat.eq_zero_or_pos z.size with h | h
      · rw [h] at hj; simp at hj
      · exact h)
    simp [hj, hz, getElem!_pos]
  · rw [List.getElem?_eq_none (by simpa using Nat.le_of_not_lt hj), List.getElem?_eq_none (by rw [h1]; simpa using Nat.le_of_not_lt hj)]

theorem repN_zero (t : Ty) (n : Nat) : RepN (fun x l => Rep w G.ow t x l) (List.replicate n (zero t)) (zcells.repV n (zcells t)) := (rep_zero (w := w) (ow := G.ow) (.arr n t)).2

/-- the cells of a row, element by element -/
theorem row_of {t : Ty} {xs : List (El t)} {cells : Array Value} (h : RepN (fun x l => Rep w G.ow t x l) xs cells.toList) :
    ∀ i (hi : i < xs.length), ∃ l, Rep w G.ow t xs[i] l ∧ ∀ j, j < t.size → cells[i * t.size + j]? = l[j]? := by
  intro i hi
  refine ⟨_, repN_get (sz := t.size) (fun x l h => rep_len t x l h) xs _ i hi h, fun j hj => ?_⟩
  rw [List.getElem?_take, if_pos hj, List.getElem?_drop]
  simp

theorem ops2_owns {ρ : Operand → T} (hρ : ∀ x, RelT G m p w (ρ x) (a.eval x)) : ∀ (l : List (Nat × Operand)), ∀ k ∈ ownsOf (partVs (ops2 ρ l)), p k := by
  intro l
  induction l with
  | nil => intro k hk; simp [ops2, partVs, ownsOf] at hk
  | cons q l ih =>
    obtain ⟨i, z⟩ := q
    intro k hk
    simp only [ops2, partVs] at hk
    have := hρ z
    cases hz : ρ z with
    | own j =>
      rw [hz] at hk this
      simp only [ownsOf, List.mem_cons] at hk
      rcases hk with rfl | hk
      · exact this.1
      · exact ih k hk
    | _ => rw [hz] at hk; exact ih k hk

end
end Mini

/- Values of their parts; conversions; new slices. -/
namespace Mini
open Go

section
variable {E : Env} {B : Base} {κ : Nat} {G : Gh} {m : Mem} {p : Nat → Prop} {w : World} {tm : List T} {a : Act} {o : Oper}

theorem run_places {P : Program} : ∀ (l : List Field), (∀ fd ∈ l, ∃ i, P.info? fd.type = some i) →
    (l.mapM fun f => (do pure (f.offset, ← Go.sizeOf f.type) : Sem (Nat × Nat))).run P w = .ok (l.map fun f => (f.offset, ((P.info? f.type).map (·.size)).getD 0)) w := by
  intro l
  induction l with
  | nil => intro _; rfl
  | cons f l ih =>
    intro h
    obtain ⟨i, hi⟩ := h f (by simp)
    rw [List.mapM_cons]
    rw [run_bindM (x := (f.offset, i.size)) (w1 := w) (by rw [run_bindM (run_sizeOf hi)]; rfl)]
    rw [run_bindM (ih fun fd hfd => h fd (by simp [hfd]))]
    simp only [List.map_cons, hi, Option.map_some, Option.getD_some]
    rfl

theorem fitF_all {P : Program} : ∀ (t : Ty) (fs : List Field) (base : Nat), fitF P t fs base = true → ∀ fd ∈ fs, ∃ i, P.info? fd.type = some i := by
  intro t
  induction t with
  | pair a b _ ihb =>
    intro fs base h fd hfd
    cases fs with
    | nil => simp at hfd
    | cons g fs =>
      simp only [fitF, Bool.and_eq_true, beq_iff_eq] at h
      rcases List.mem_cons.1 hfd with rfl | hfd
      · obtain ⟨i, hi, _⟩ := fit_size h.1.2
        exact ⟨i, hi⟩
      · exact ihb fs _ h.2 fd hfd
  | unit => intro fs base h fd hfd; cases fs <;> simp [fitF] at h hfd
  | _ => intro fs base h fd hfd; simp [fitF] at h

theorem fit_struct {P : Program} {t : Ty} {tid : Nat} (h : fitB P t tid = true) (hag : t.isAgg = true) (hna : ∀ n u, t ≠ .arr n u) : ∃ fs, P.underlying tid = some (.struct fs) ∧ ∀ fd ∈ fs.toList, ∃ i, P.info? fd.type = some i := by
  cases t with
  | unit =>
    unfold fitB at h
    simp only [Bool.and_eq_true] at h
    obtain ⟨_, h⟩ := h
    split at h
    · rename_i fs hu
      refine ⟨fs, hu, fun fd hfd => ?_⟩
      rw [List.isEmpty_iff.1 h] at hfd
      simp at hfd
    · cases h
  | pair a b =>
    unfold fitB at h
    simp only [Bool.and_eq_true] at h
    obtain ⟨_, h⟩ := h
    split at h
    · rename_i fs hu
      refine ⟨fs, hu, ?_⟩
      split at h
      · rename_i g l hl
        simp only [Bool.and_eq_true, beq_iff_eq] at h
        have hF : fitF P (.pair a b) fs.toList 0 = true := by
          rw [hl]; simp only [fitF, Bool.and_eq_true, beq_iff_eq]
          exact ⟨⟨h.1.1, h.1.2⟩, by simpa using h.2⟩
        exact fitF_all _ _ 0 hF
      · cases h
    · cases h
  | arr n u => exact absurd rfl (hna n u)
  | _ => cases hag

theorem zero_cells {t : Ty} {tid : Nat} (h : fitB E.P t tid = true) : ∃ i z, E.P.info? tid = some i ∧ i.size = t.size ∧ i.zero = some z ∧ z.cells.toList = zcells t ∧ i.bytes ≤ 16384 := by
  obtain ⟨i, z, hi, hs, hb, hz, hzc⟩ := info_of (fit_info h)
  refine ⟨i, z, hi, hs, hz, ?_, hb⟩
  split at hzc
  · subst hzc; rfl
  · have h1 := rep_one _ _ _ (rep_zero (w := default) (ow := fun _ _ => .none) t) z (by rw [hzc]; simp)
    rw [cells_one h1, hzc]

theorem runs_build {t : TypeId} {parts : Array (Nat × Operand)} {v : Value} (ho : o.op = .build t parts) (h : (Instr.build t (parts.map fun (i, x) => (i, a.eval x))).run E.P w = .ok v w) : Runs E a o w v w :=
  runs_v (s := Instr.build t (parts.map fun (i, x) => (i, a.eval x))) (by unfold execOp; rw [ho]) h

theorem repV_agg' {t : Ty} {x : El t} {cs : Array Value} (ha : t.isAgg = true) (h : Rep w G.ow t x cs.toList) : RepV w G.ow t x (.agg cs) := by
  unfold RepV
  rw [if_pos ha]
  exact ⟨cs, rfl, h⟩

theorem build_ok (hE : EnvOK E) {t : TypeId} {t' : Ty} {parts : Array (Nat × Operand)} {ρ : Operand → T} (h : RelAll E B G m p w tm a) (ho : o.op = .build t parts) (hty : E.ty t = some t') (hρ : ∀ x, RelT G m p w (ρ x) (a.eval x)) :
    OpOK E B κ G m p w tm a o (buildT m t' (ops2 ρ parts.toList)) := by
  obtain ⟨i, z, hi, hs, hz, hzc, _⟩ := zero_cells (hE.ty _ _ hty)
  have hst : t'.isAgg = true → (∀ n u, t' ≠ .arr n u) → OpOK E B κ G m p w tm a o (match buildF m.gr t' (ops2 ρ parts.toList) (zero t') with
      | some x => .val (ownsOf (partVs (ops2 ρ parts.toList))) (.dat t' x)
      | none => .bad) := by
    intro hag hna
    split
    · rename_i x hx
      refine ok_val h (ops2_owns hρ _) fun G' h' hle hk => ?_
      obtain ⟨fs, hu, hall⟩ := fit_struct (hE.ty _ _ hty) hag hna
      obtain ⟨cells, f1, f2⟩ := build_cells (place := fun i => ((fs.toList.map fun f => (f.offset, ((E.P.info? f.type).map (·.size)).getD 0)).toArray)[i]?) (cells := z.cells) (by
          intro i off u hf
          obtain ⟨fs', fd, e1, e2, e3, e4⟩ := fit_field (hE.ty _ _ hty) hf
          rw [hu] at e1
          obtain rfl : fs = fs' := by injection (Option.some.inj e1)
          obtain ⟨inf, e5, e6⟩ := fit_size e4
          have e2' : fs.toList[i]? = some fd := by simpa using e2
          simp only [List.getElem?_toArray, List.getElem?_map, e2', Option.map_some, e5, Option.getD_some, e3, e6])
        h' (fun x => relT_mono hle hk (hρ x)) parts.toList (zero t') x (fun _ h => h) hx (by rw [hzc]; exact rep_zero t')
      refine ⟨.agg cells, w, Quiet.refl w, runs_build ho ?_, dat_rep (repV_agg' hag f2)⟩
      unfold Instr.build
      rw [run_bindM (run_zero hi hz)]
      rw [run_bindM (run_underlying hu)]
      simp only
      rw [Array.mapM_eq_mapM_toList]
      rw [run_bindM (x := (fs.toList.map fun f => (f.offset, ((E.P.info? f.type).map (·.size)).getD 0)).toArray) (w1 := w) (by
        rw [map_eq_pure_bind, run_bindM (run_places _ hall)]; rfl)]
      rw [Array.toList_map, f1]
      rfl
    · exact ok_bad
  cases t' with
  | arr n u =>
    simp only [buildT]
    split
    · rename_i xs hxs
      refine ok_val h (ops2_owns hρ _) fun G' h' hle hk => ?_
      obtain ⟨e, hu, he⟩ := fit_arr (hE.ty _ _ hty)
      obtain ⟨inf, e5, e6⟩ := fit_size he
      obtain ⟨f0, cells, f1, f2⟩ := buildL_cells h' (fun x => relT_mono hle hk (hρ x)) parts.toList _ xs z.cells (fun _ h => h) hxs (by rw [hzc]; exact repN_zero u n)
      refine ⟨.agg cells, w, Quiet.refl w, runs_build ho ?_, dat_rep (repV_agg' rfl ⟨f0.trans (List.length_replicate ..), f2⟩)⟩
      unfold Instr.build
      rw [run_bindM (run_zero hi hz)]
      rw [run_bindM (run_underlying hu)]
      simp only
      rw [run_bindM (run_sizeOf e5), e6, Array.toList_map, f1]
      rfl
    · exact ok_bad
  | pair x y => simp only [buildT, Ty.isAgg, if_true]; exact hst rfl (fun _ _ h => by cases h)
  | unit => simp only [buildT, Ty.isAgg, if_true]; exact hst rfl (fun _ _ h => by cases h)
  | _ => exact ok_bad

/-- a part, cell by cell -/
theorem partC_ok {u : Ty} {v : T} {val : Value} {new : List T} (h : RelAll E B G m p w tm a) (hr : RelT G m p w v val) (hp : partC m u v = some new) :
    val.cells.toList.length = u.size ∧ new.length = u.size ∧ ∀ j (hj : j < val.cells.toList.length), val.cells.toList[j].oneCell = true ∧ Rel1 G m p w (getT new j) val.cells.toList[j] := by
  have one : (∃ t, u = .sl t) → storable m v = true → new = [v] → val.cells.toList.length = u.size ∧ new.length = u.size ∧ ∀ j (hj : j < val.cells.toList.length), val.cells.toList[j].oneCell = true ∧ Rel1 G m p w (getT new j) val.cells.toList[j] := by
    rintro ⟨t, rfl⟩ hs rfl
    obtain ⟨h1, h2⟩ := storable_val h hs hr
    have hc := cells_one h1
    refine ⟨by rw [hc]; rfl, rfl, fun j hj => ?_⟩
    have : j = 0 := by rw [hc] at hj; simpa using hj
    subst this
    simp only [hc]
    exact ⟨h1, h2⟩
  cases v with
  | dat u' x =>
    simp only [partC] at hp
    split at hp
    · rename_i q he
      obtain rfl := eq?_eq he
      obtain rfl := Option.some.inj hp
      have hv := repV_cells (show RepV w G.ow u' x val from hr)
      have hl := rep_len _ _ _ hv
      exact ⟨hl, expl_len _ _, fun j hj => ⟨rep_one _ _ _ hv _ (List.getElem_mem _), expl_rel (G := G) (m := m) (p := p) rfl u' x _ hv j hj⟩⟩
    · cases hp
  | nil =>
    cases u <;> first | (cases hp; done) | exact one ⟨_, rfl⟩ rfl (Option.some.inj hp).symm
  | own k =>
    simp only [partC] at hp
    split at hp
    · rename_i t ha
      exact one ⟨_, rfl⟩ ha (Option.some.inj hp).symm
    · cases hp
  | _ => cases hp

theorem buildC_ok {t : Ty} {place : Nat → Option (Nat × Nat)} {ρ : Operand → T} (hp : ∀ i off u, partTy t i = some (off, u) → place i = some (off, u.size))
    (h : RelAll E B G m p w tm a) (hρ : ∀ x, RelT G m p w (ρ x) (a.eval x)) : ∀ (l : List (Nat × Operand)) (cs cs' : List T) (cells : Array Value),
    buildC m t (ops2 ρ l) cs = some cs' → cs.length = cells.size → (∀ j (hj : j < cells.size), cells[j].oneCell = true ∧ Rel1 G m p w (getT cs j) cells[j]) →
    ∃ cells', Instr.fill place cells (l.map fun (i, x) => (i, a.eval x)) = some cells' ∧ cs'.length = cells'.size ∧ ∀ j (hj : j < cells'.size), cells'[j].oneCell = true ∧ Rel1 G m p w (getT cs' j) cells'[j] := by
  intro l
  induction l with
  | nil =>
    intro cs cs' cells hb hl hr
    obtain rfl := Option.some.inj (show some cs = some cs' from hb)
    exact ⟨cells, rfl, hl, hr⟩
  | cons q l ih =>
    intro cs cs' cells hb hl hr
    obtain ⟨i, z⟩ := q
    simp only [ops2, buildC] at hb
    split at hb
    · rename_i off u hf
      split at hb
      · rename_i new hnew
        split at hb
        · rename_i hoff
          obtain ⟨p1, p2, p3⟩ := partC_ok h (hρ z) hnew
          obtain ⟨c1, f1, f2⟩ := fill_step (rest := l.map fun (i, x) => (i, a.eval x)) (cells := cells) (hp i off u hf) p1 (by rw [Array.length_toList, ← hl]; exact hoff)
          have hsz : c1.size = cells.size := by
            rw [← Array.length_toList, f2]; simp only [List.length_append, List.length_take, List.length_drop, p1, Array.length_toList]; omega
          have hlen : (setCells cs off new).length = cs.length := setCells_len (by rw [p2]; exact hoff)
          obtain ⟨c2, g1, g2, g3⟩ := ih (setCells cs off new) cs' c1 hb (by rw [hlen, hl, hsz]) (fun j hj => by
            have hget := getT_setCells (cs := cs) (l := new) (off := off) (by rw [p2]; exact hoff) j
            have e : c1[j]? = if off ≤ j ∧ j < off + new.length then (a.eval z).cells.toList[j - off]? else cells[j]? := by
              have : c1[j]? = c1.toList[j]? := by simp
              rw [this, f2]
              have := setSub_len (t := .arr cells.size .bool) (l := cells.toList) (r := (a.eval z).cells.toList) (off := off) (by simp [Ty.size]) (by rw [p1, Array.length_toList, ← hl]; exact hoff) j (by simp only [Ty.size]; omega)
              rw [this, p1, p2]
              simp
            by_cases hin : off ≤ j ∧ j < off + new.length
            · rw [if_pos hin] at e hget
              rw [hget]
              have hj2 : j - off < (a.eval z).cells.toList.length := by rw [p1, ← p2]; omega
              have e2 : c1[j] = (a.eval z).cells.toList[j - off] := by
                rw [List.getElem?_eq_getElem hj2, Array.getElem?_eq_getElem hj] at e
                exact Option.some.inj e
              rw [e2]
              exact p3 _ hj2
            · rw [if_neg hin] at e hget
              rw [hget]
              have hj2 : j < cells.size := by omega
              have e2 : c1[j] = cells[j] := by
                rw [Array.getElem?_eq_getElem hj2, Array.getElem?_eq_getElem hj] at e
                exact Option.some.inj e
              rw [e2]
              exact hr j hj2)
          exact ⟨c2, by rw [List.map_cons]; exact f1.trans g1, g2, g3⟩
        · cases hb
      · cases hb
    · cases hb

theorem buildA_ok (hE : EnvOK E) {t : TypeId} {t' : Ty} {parts : Array (Nat × Operand)} {ρ : Operand → T} (h : RelAll E B G m p w tm a) (ho : o.op = .build t parts) (hty : E.ty t = some t') (hρ : ∀ x, RelT G m p w (ρ x) (a.eval x)) :
    OpOK E B κ G m p w tm a o (buildA m t' (ops2 ρ parts.toList)) := by
  obtain ⟨i, z, hi, hs, hz, hzc, _⟩ := zero_cells (hE.ty _ _ hty)
  unfold buildA
  split
  · rename_i hag
    split
    · rename_i cs hcs
      have h0 : (expl0 t').length = z.cells.size ∧ ∀ j (hj : j < z.cells.size), z.cells[j].oneCell = true ∧ Rel1 G m p w (getT (expl0 t') j) z.cells[j] := by
        refine ⟨by rw [expl0_len, ← zcells_len, ← hzc]; simp, fun j hj => ?_⟩
        have hj' : j < (zcells t').length := by rw [← hzc]; simpa using hj
        have e : z.cells[j] = (zcells t')[j] := by simp only [← hzc, Array.getElem_toList]
        rw [e]
        exact ⟨rep_one _ _ _ (rep_zero (w := w) (ow := G.ow) t') _ (List.getElem_mem _), expl0_rel t' j hj'⟩
      have fin : ∀ (cells : Array Value), cs.length = cells.size → (∀ j (hj : j < cells.size), cells[j].oneCell = true ∧ Rel1 G m p w (getT cs j) cells[j]) → RelT G m p w (.agv t' cs) (.agg cells) := by
        intro cells h1 h2
        refine ⟨cells, rfl, h1, fun j hj => ?_⟩
        have hj' : j < cells.size := by rw [← h1]; exact hj
        have e : cells.getD j undef = cells[j] := by simp [hj']
        rw [e]
        exact ⟨(h2 j hj').2, (h2 j hj').1⟩
      have hst : (∀ n u, t' ≠ .arr n u) → OpOK E B κ G m p w tm a o (.val [] (.agv t' cs)) := by
        intro hna
        obtain ⟨fs, hu, hall⟩ := fit_struct (hE.ty _ _ hty) hag hna
        obtain ⟨cells, f1, f2, f3⟩ := buildC_ok (place := fun i => ((fs.toList.map fun f => (f.offset, ((E.P.info? f.type).map (·.size)).getD 0)).toArray)[i]?) (t := t') (by
            intro i off u hf
            have hf : fieldTy t' i = some (off, u) := by
              unfold partTy at hf
              split at hf
              · exact absurd rfl (hna _ _)
              · exact hf
            obtain ⟨fs', fd, e1, e2, e3, e4⟩ := fit_field (hE.ty _ _ hty) hf
            rw [hu] at e1
            obtain rfl : fs = fs' := by injection (Option.some.inj e1)
            obtain ⟨inf, e5, e6⟩ := fit_size e4
            have e2' : fs.toList[i]? = some fd := by simpa using e2
            simp only [List.getElem?_toArray, List.getElem?_map, e2', Option.map_some, e5, Option.getD_some, e3, e6])
          h hρ parts.toList (expl0 t') cs z.cells hcs h0.1 h0.2
        refine ok_val0 h (v := .agg cells) (runs_build ho ?_) (fin cells f2 f3)
        unfold Instr.build
        rw [run_bindM (run_zero hi hz)]
        rw [run_bindM (run_underlying hu)]
        simp only
        rw [Array.mapM_eq_mapM_toList]
        rw [run_bindM (x := (fs.toList.map fun f => (f.offset, ((E.P.info? f.type).map (·.size)).getD 0)).toArray) (w1 := w) (by
          rw [map_eq_pure_bind, run_bindM (run_places _ hall)]; rfl)]
        rw [Array.toList_map, f1]
        rfl
      cases t' with
      | arr n u =>
        obtain ⟨e, hu, he⟩ := fit_arr (hE.ty _ _ hty)
        obtain ⟨inf, e5, e6⟩ := fit_size he
        obtain ⟨cells, f1, f2, f3⟩ := buildC_ok (place := fun i => some (i * u.size, u.size)) (t := .arr n u) (by
            intro i off u' hf
            simp only [partTy] at hf
            split at hf
            · obtain ⟨rfl, rfl⟩ := Prod.mk.inj (Option.some.inj hf); rfl
            · cases hf) h hρ parts.toList _ cs z.cells hcs h0.1 h0.2
        refine ok_val0 h (v := .agg cells) (runs_build ho ?_) (fin cells f2 f3)
        unfold Instr.build
        rw [run_bindM (run_zero hi hz)]
        rw [run_bindM (run_underlying hu)]
        simp only
        rw [run_bindM (run_sizeOf e5), e6, Array.toList_map, f1]
        rfl
      | pair x y => exact hst (fun _ _ h => by cases h)
      | unit => exact hst (fun _ _ h => by cases h)
      | _ => cases hag
    · exact ok_bad
  · exact ok_bad

theorem made_newRow {e : TypeId} {c : Array Value} : (newRow e c).run E.P w = .ok ⟨w.heap.size, 0, none⟩ (w.alloc (.cells c e)) := rfl

theorem zrow_cells {t : Ty} {z : Array Value} (hz : z.toList = zcells t) (n : Nat) : ((Array.range (n * t.size)).map ((if n * t.size = 0 then #[] else z)[· % (if n * t.size = 0 then #[] else z).size]!)).toList = zcells.repV n (zcells t) := by
  have hs : z.size = t.size := by rw [← zcells_len t, ← hz]; simp
  split
  · rename_i h0
    have := (repV_get n (zcells t)).1
    rw [zcells_len, h0] at this
    rw [List.length_eq_zero_iff.1 this, h0]; simp
  · rw [← hs, zrow, hz]

/-- a row that is made of its parts -/
theorem buildSlice_run (hE : EnvOK E) {t : TypeId} {u : Ty} {len : Nat} {parts : Array (Nat × Operand)} {ρ : Operand → T} {ks : List Nat} (ho : o.op = .buildSlice t len parts) (hty : E.ty t = some (.sl u))
    (hlim : len * u.size ≤ 16777216) {xs : List (El u)} (hxs : buildL m.gr u (ops2 ρ parts.toList) (List.replicate len (zero u)) = some xs) (h' : RelAll E B G (m.share ks) p w tm a) (hρ : ∀ x, RelT G (m.share ks) p w (ρ x) (a.eval x)) (hks : ∀ k ∈ ownsOf (partVs (ops2 ρ parts.toList)), k ∈ ks) :
    ∃ (cells : Array Value) (e : TypeId), E.P.underlying t = some (.slice e) ∧ fitB E.P u e = true ∧ xs.length = len ∧ len * u.size ≤ cells.size ∧ (∀ i (hi : i < xs.length), ∃ l, Rep w G.ow u xs[i] l ∧ ∀ j, j < u.size → cells[i * u.size + j]? = l[j]?) ∧
      Runs E a o w (.slice (some ⟨w.heap.size, 0, none⟩) len len) (w.alloc (.cells cells e)) := by
  obtain ⟨e, hu, he⟩ := fit_slice (hE.ty _ _ hty)
  obtain ⟨i, z, hi, hs, hz, hzc, _⟩ := zero_cells he
  obtain ⟨f0, cells, f1, f2⟩ := buildL_cells h' hρ parts.toList _ xs
    ((Array.range (len * u.size)).map ((if len * u.size = 0 then #[] else z.cells)[· % (if len * u.size = 0 then #[] else z.cells).size]!)) hks hxs (by rw [zrow_cells hzc]; exact repN_zero u len)
  rw [List.length_replicate] at f0
  refine ⟨cells, e, hu, he, f0, ?_, row_of f2, ?_⟩
  · have := repN_len (sz := u.size) (fun x l h => rep_len u x l h) _ _ f2
    rw [← f0, ← this]; simp
  · refine runs_v (s := Instr.buildSlice t len (parts.map fun (i, x) => (i, a.eval x))) (by unfold execOp; rw [ho]) ?_
    unfold Instr.buildSlice
    rw [run_bindM (run_underlying hu)]
    simp only
    rw [run_bindM (run_sizeOf hi), hs]
    rw [if_neg (by omega)]
    have f1' : Instr.fill (fun i => some (i * u.size, u.size)) ((Array.range (len * u.size)).map ((if len * u.size = 0 then #[] else z.cells)[· % (if len * u.size = 0 then #[] else z.cells).size]!)) (parts.map fun (i, x) => (i, a.eval x)).toList = some cells := by
      rw [Array.toList_map]; exact f1
    by_cases h0 : len * u.size = 0
    · rw [if_pos h0]
      simp only [if_pos h0] at f1'
      rw [run_bindM (show ((pure #[] : Sem (Array Value))).run E.P w = .ok #[] w from rfl)]
      simp only [f1']
      rw [run_bindM made_newRow]
      rfl
    · rw [if_neg h0]
      simp only [if_neg h0] at f1'
      rw [run_bindM (run_zero hi hz)]
      rw [run_bindM (show ((pure z.cells : Sem (Array Value))).run E.P w = .ok z.cells w from rfl)]
      simp only [f1']
      rw [run_bindM made_newRow]
      rfl

theorem buildSlice_ok (hE : EnvOK E) {t : TypeId} {u : Ty} {len : Nat} {parts : Array (Nat × Operand)} {ρ : Operand → T} (h : RelAll E B G m p w tm a) (ho : o.op = .buildSlice t len parts) (hty : E.ty t = some (.sl u)) (hρ : ∀ x, RelT G m p w (ρ x) (a.eval x))
    (hlim : len * u.size ≤ 16777216) {xs : List (El u)} (hxs : buildL m.gr u (ops2 ρ parts.toList) (List.replicate len (zero u)) = some xs) :
    OpOK E B κ G m p w tm a o (.newG (ownsOf (partVs (ops2 ρ parts.toList))) ⟨u, xs, .excl, 0⟩) := by
  refine ok_newG h (ops2_owns hρ _) fun G' h' hle hk => ?_
  obtain ⟨cells, e, _, _, f0, f1, f2, f3⟩ := buildSlice_run hE ho hty hlim hxs h' (fun x => relT_mono hle hk (hρ x)) (fun _ h => h)
  exact ⟨.slice (some ⟨w.heap.size, 0, none⟩) len len, w.alloc (.cells cells e), ⟨by simp, .inl ⟨cells, len, len, made_alloc w cells e, rfl, f0.symm, Nat.le_refl _, f1, f2⟩⟩, f3⟩

end
end Mini

/- Conversions; new slices; what is appended. -/
namespace Mini
open Go

section
variable {E : Env} {B : Base} {κ : Nat} {G : Gh} {m : Mem} {p : Nat → Prop} {w : World} {tm : List T} {a : Act} {o : Oper}

theorem i64_small {n : Int} (h0 : 0 ≤ n) (h1 : n < 9223372036854775808) : IntKind.i64.wrap n = n := by
  rw [IntKind.wrap_i64]; omega

theorem run_askRoom {n : Nat} : (askRoom n).run E.P w = .ok () w := by
  unfold askRoom
  split <;> rfl

theorem makeSlice_ok (hE : EnvOK E) {t : TypeId} {u : Ty} {x y : Operand} {un uc : T} {n c : Int} (h : RelAll E B G m p w tm a) (ho : o.op = .makeSlice t x y) (hty : E.ty t = some (.sl u))
    (hx : RelT G m p w un (a.eval x)) (hy : RelT G m p w uc (a.eval y)) (hn : intOf un = some n) (hc : intOf uc = some c) :
    OpOK E B κ G m p w tm a o (.gpart [] (.sl u) (mkL (α := El u) n c (zero u)) fun xs => ⟨u, xs, .excl, 0⟩) := by
  obtain ⟨k1, e1⟩ := intOf_rel hn hx
  obtain ⟨k2, e2⟩ := intOf_rel hc hy
  obtain ⟨e, hu, he⟩ := fit_slice (hE.ty _ _ hty)
  obtain ⟨i, z, hi, hs, hz, hzc, hb⟩ := zero_cells he
  refine ok_gpart h (fun _ hk => by simp at hk) fun xs hxs G' h' hle hk => ?_
  unfold mkL at hxs
  split at hxs
  · rename_i hcond
    obtain ⟨h0, h1, h2⟩ := hcond
    simp only [LIM] at h2
    obtain rfl := Option.some.inj hxs
    refine ⟨.slice (some ⟨w.heap.size, 0, none⟩) n.toNat c.toNat, w.alloc (.cells ((Array.range (c.toNat * u.size)).map ((if c.toNat * u.size = 0 then #[] else z.cells)[· % (if c.toNat * u.size = 0 then #[] else z.cells).size]!)) e),
      ⟨by simp, .inl ⟨_, n.toNat, c.toNat, made_alloc w _ e, rfl, (List.length_replicate ..).symm, by omega, ?_, ?_⟩⟩, ?_⟩
    · simp
    · intro q hq
      have hq' : q < n.toNat := by simpa using hq
      have := row_of (w := w) (G := G') (t := u) (xs := List.replicate c.toNat (zero u)) (cells := (Array.range (c.toNat * u.size)).map ((if c.toNat * u.size = 0 then #[] else z.cells)[· % (if c.toNat * u.size = 0 then #[] else z.cells).size]!))
        (by rw [zrow_cells hzc]; exact repN_zero u c.toNat) q (by rw [List.length_replicate]; omega)
      rw [List.getElem_replicate] at this
      rw [List.getElem_replicate]
      exact this
    · refine runs_v (s := Instr.makeSlice t (a.eval x) (a.eval y)) (by unfold execOp; rw [ho]) ?_
      rw [e1, e2]
      unfold Instr.makeSlice
      rw [run_bindM (run_underlying hu)]
      simp only
      rw [run_bindM (show (asInt (.int k1 n)).run E.P w = .ok n w from rfl), run_bindM (show (asInt (.int k2 c)).run E.P w = .ok c w from rfl), run_bindM (run_typeInfo hi)]
      simp only [i64_small h0 (show n < 9223372036854775808 by omega), i64_small (show 0 ≤ c by omega) (show c < 9223372036854775808 by omega)]
      have hbc : (i.bytes : Int) * c ≤ 2 ^ 48 := by
        have : (i.bytes : Int) * c ≤ 16384 * c := Int.mul_le_mul_of_nonneg_right (by omega) (by omega)
        omega
      rw [if_neg (by simp; omega)]
      rw [run_bindM run_askRoom, run_bindM (run_sizeOf hi), hs]
      by_cases hz0 : c.toNat * u.size = 0
      · simp only [if_pos hz0]
        rw [run_bindM (show ((pure #[] : Sem (Array Value))).run E.P w = .ok #[] w from rfl)]
        rw [run_bindM made_newRow]
        rfl
      · simp only [if_neg hz0]
        rw [run_bindM (run_zero hi hz)]
        rw [run_bindM (show ((pure z.cells : Sem (Array Value))).run E.P w = .ok z.cells w from rfl)]
        rw [run_bindM made_newRow]
        rfl
  · cases hxs

/-! ### reading a slice whole -/

theorem sl_read {t : Ty} {u : T} {v : Value} {xs : List (El t)} (h : RelAll E B G m p w tm a) (hr : RelT G m p w u v) (hx : rdCell m.gr (.sl t) u = some xs) :
    ∃ ad len cap, v = .slice ad len cap ∧ len = xs.length ∧ len ≤ cap ∧ (xs ≠ [] → ∃ b o, ad = some ⟨b, o, none⟩ ∧ Row w (fun _ _ => True) (fun x l => Rep w G.ow t x l) t.size b o xs) := by
  cases u with
  | dat t' y =>
    simp only [rdCell] at hx
    split at hx
    · rename_i he _
      subst he
      obtain rfl := Option.some.inj hx
      obtain ⟨ad, len, cap, h1, h2, h3, h4⟩ := rel_sl hr
      refine ⟨ad, len, cap, h1, h2, h3, fun hne => ?_⟩
      obtain ⟨b, o, e, hrow⟩ := h4 hne
      exact ⟨b, o, e, row_mono (fun _ _ h => h) (fun _ _ => ⟨trivial, rfl⟩) hrow⟩
    · cases hx
  | nil =>
    obtain rfl := Option.some.inj (show some ([] : List (El t)) = some xs from hx)
    exact ⟨none, 0, 0, hr, rfl, Nat.le_refl _, fun h => absurd rfl h⟩
  | own k =>
    simp only [rdCell] at hx
    cases hg : lk m.gr k with
    | none => rw [hg] at hx; cases hx
    | some g =>
      rw [hg] at hx
      simp only at hx
      obtain ⟨hp, g', hg', hv⟩ := hr
      rw [hg] at hg'; obtain rfl := Option.some.inj hg'
      by_cases hd : g.md = .dead
      · rw [hd] at hx; cases hx
      split at hx
      · exact absurd (by assumption) hd
      · rename_i he _ _
        obtain ⟨gt, gx, gm, gver⟩ := g
        have het : gt = t := by injection he
        subst het
        obtain rfl := Option.some.inj hx
        obtain ⟨ad, len, cap, h1, h2, h3, h4⟩ := gr_row h hp hg hd
        refine ⟨ad, len, cap, (hv hd).trans h1, h2, h3, fun hne => h4 ?_⟩
        rcases Nat.eq_zero_or_pos cap with hz | hz
        · have : gx.length = 0 := by simp only at h2; omega
          exact absurd (List.length_eq_zero_iff.1 this) hne
        · exact hz
      · cases hx
  | _ => simp [rdCell] at hx

theorem row_cells {t : Ty} {xs : List (El t)} {b o' : Nat} (hr : Row w (fun _ _ => True) (fun x l => Rep w G.ow t x l) t.size b o' xs) :
    ∃ l : List Value, RepN (fun x l => Rep w G.ow t x l) xs l ∧ ∀ j, j < xs.length * t.size → cl w b (o' + j) = l[j]? := by
  induction xs generalizing o' with
  | nil => exact ⟨[], rfl, fun j hj => by simp at hj⟩
  | cons x xs ih =>
    obtain ⟨l1, h1, h2⟩ := hr 0 (by simp)
    have e1 := rep_len _ _ _ h1
    obtain ⟨l2, h3, h4⟩ := ih (o' := o' + t.size) (fun i hi => by
      obtain ⟨l, hl, hc⟩ := hr (i + 1) (by simpa using hi)
      refine ⟨l, hl, fun j hj => ⟨trivial, ?_⟩⟩
      have := (hc j hj).2
      rw [Nat.succ_mul] at this
      rw [← this]; congr 1; omega)
    refine ⟨l1 ++ l2, ⟨l1, l2, rfl, h1, h3⟩, fun j hj => ?_⟩
    rw [List.length_cons, Nat.succ_mul] at hj
    by_cases hlt : j < t.size
    · rw [List.getElem?_append_left (by omega)]
      have := (h2 j hlt).2
      rw [Nat.zero_mul, Nat.add_zero] at this
      exact this
    · rw [List.getElem?_append_right (by omega), e1]
      have := h4 (j - t.size) (by omega)
      rw [← this]; congr 1; omega

theorem run_firstCells {t : Ty} {xs : List (El t)} {ad : Option Addr} {len cap : Nat} (hl : len = xs.length)
    (hr : xs ≠ [] → ∃ b o, ad = some ⟨b, o, none⟩ ∧ Row w (fun _ _ => True) (fun x l => Rep w G.ow t x l) t.size b o xs) :
    ∃ l : List Value, RepN (fun x l => Rep w G.ow t x l) xs l ∧ ∀ w', Quiet w w' → (Builtin.firstCells t.size len (.slice ad len cap)).run E.P w' = .ok l.toArray w' := by
  by_cases hne : xs = []
  · subst hne
    refine ⟨[], rfl, fun w' _ => ?_⟩
    have : len = 0 := hl
    subst this
    cases ad with
    | none => rfl
    | some ad => simp only [Builtin.firstCells, Nat.zero_mul]; rfl
  · obtain ⟨b, o', rfl, hrow⟩ := hr hne
    obtain ⟨l, h1, h2⟩ := row_cells hrow
    have hll := repN_len (sz := t.size) (fun x l h => rep_len t x l h) _ _ h1
    refine ⟨l, h1, fun w' hq => ?_⟩
    simp only [Builtin.firstCells]
    exact run_loadCells (by rw [hll, hl]) (fun j hj => by rw [hq.cl]; exact h2 j (by rw [← hl]; exact hj))

theorem u8_cells : ∀ (ns : List Int) (l : List Value), RepN (fun x l => Rep w G.ow (.int .u8) x l) ns l → l = ns.map (Value.int .u8) := by
  intro ns
  induction ns with
  | nil => intro l h; exact h
  | cons n ns ih =>
    intro l h
    obtain ⟨l1, l2, rfl, h1, h2⟩ := h
    obtain rfl : l1 = [.int .u8 n] := h1
    rw [ih l2 h2]; rfl

theorem fold_text : ∀ (ns : List Int) (s : List UInt8), ns.foldl (fun (r : ByteArray) n => r.push (UInt8.ofNat n.toNat)) ⟨⟨s⟩⟩ = ⟨⟨s ++ textT ns⟩⟩ := by
  intro ns
  induction ns with
  | nil => intro s; simp [textT]
  | cons n ns ih =>
    intro s
    rw [List.foldl_cons]
    have : (⟨⟨s⟩⟩ : ByteArray).push (UInt8.ofNat n.toNat) = ⟨⟨s ++ [UInt8.ofNat n.toNat]⟩⟩ := by
      show (⟨(⟨s⟩ : Array UInt8).push _⟩ : ByteArray) = _
      congr 1; apply Array.ext'; simp
    rw [this, ih]
    simp [textT]

theorem made_freeze {w1 : World} (hq : Quiet w w1) (c : Array Value) (t : TypeId) : Made w ((w1.alloc (.cells c t)).freeze ⟨w.heap.size, c.size, none⟩ 1) c := by
  have hm := made_quiet hq (made_alloc w1 c t)
  have hheap : ((w1.alloc (.cells c t)).freeze ⟨w.heap.size, c.size, none⟩ 1).heap = (w.heap.push (.cells c t)).modify w.heap.size fun
      | .cells c' elem (lo, hi) => .cells c' elem (if lo == hi then (c.size, c.size + 1) else (min lo c.size, max hi (c.size + 1)))
      | o => o := by
    rw [← hq.heap]; rfl
  have hh1 : (w1.alloc (.cells c t)).heap = w.heap.push (.cells c t) := by show w1.heap.push (.cells c t) = _; rw [hq.heap]
  refine ⟨hm.os, hm.tape, hm.output, by rw [hheap]; simp, fun b o' => ?_, fun b o' => ⟨fun hb ho' => ?_, fun hb => ?_⟩, fun b hb => ?_⟩
  · rw [← hm.cell b o']
    unfold cl World.cell?
    rw [hheap, Array.getElem?_modify, hh1]
    by_cases hbb : w.heap.size = b
    · subst hbb
      simp
    · simp only [if_neg hbb]
  · subst hb
    unfold fz World.frozen?
    rw [hheap, Array.getElem?_modify, if_pos rfl]
    simp
    omega
  · unfold fz World.frozen?
    rw [hheap, Array.getElem?_modify, if_neg (Ne.symm hb)]
    rw [Array.getElem?_push, if_neg hb]
  · rw [hheap, Array.getElem?_modify, if_neg (by omega), Array.getElem?_push, if_neg (by omega)]

theorem quiet_drew (w : World) : Quiet w w.drew := ⟨rfl, rfl, rfl, rfl⟩

theorem bytes_made (el : TypeId) (s : List UInt8) : ∃ v w', (Conv.stringToBytes el ⟨⟨s⟩⟩).run E.P w = .ok v w' ∧ NewSl G w w' v ⟨.int .u8, bytesT s, .excl, 0⟩ := by
  have hcap : s.length ≤ grownCap w s.length 0 el := grownCap_ge _ _ _ _
  let cells : Array Value := (⟨⟨s⟩⟩ : ByteArray).data.map (fun b => Value.int .u8 b.toNat) ++ Array.replicate (grownCap w s.length 0 el - s.length) (.int .u8 0)
  have hsz : cells.size = grownCap w s.length 0 el := by
    simp only [cells, Array.size_append, Array.size_map, Array.size_replicate]
    show s.length + _ = _
    omega
  have hl : (bytesT s).length = s.length := List.length_map ..
  refine ⟨.slice (some ⟨w.heap.size, 0, none⟩) s.length (grownCap w s.length 0 el), (w.drew.alloc (.cells cells el)).freeze ⟨w.heap.size, cells.size, none⟩ 1, ?_, by simp, .inl ⟨cells, s.length, grownCap w s.length 0 el, made_freeze (quiet_drew w) cells el, rfl, hl.symm, hcap, ?_, ?_⟩⟩
  · have hsz2 : (⟨⟨s⟩⟩ : ByteArray).size = s.length := rfl
    unfold Conv.stringToBytes
    rw [run_bindM (show (choose (.appendCap (⟨⟨s⟩⟩ : ByteArray).size 0 el)).run E.P w = .ok (grownCap w s.length 0 el) w.drew from rfl)]
    rw [run_bindM (made_newRow (w := w.drew))]
    rw [run_bindM (x := ()) (w1 := (w.drew.alloc (.cells cells el)).freeze ⟨w.heap.size, cells.size, none⟩ 1) (by
      unfold markStringish
      have hsh : (shape w.drew.heap.size).run E.P (w.drew.alloc (.cells cells el)) = .ok (some (el, cells.size)) (w.drew.alloc (.cells cells el)) := by
        show Result.ok ((w.drew.alloc (.cells cells el)).shape? w.drew.heap.size) _ = _
        congr 1
        unfold World.shape?
        show (match (w.heap.push (.cells cells el))[w.heap.size]? with
          | some (.cells c elem _) => some (elem, c.size)
          | _ => none) = _
        simp
      refine (run_bindM hsh).trans rfl)]
    rfl
  · show _ * 1 ≤ _
    omega
  · intro i hi
    have hi2 : i < s.length := by rw [← hl]; exact hi
    refine ⟨[.int .u8 (s[i].toNat : Int)], ?_, fun j hj => ?_⟩
    · show [Value.int .u8 (s[i].toNat : Int)] = [.int .u8 (bytesT s)[i]]
      simp [bytesT]
    · have : j = 0 := by have : j < 1 := hj; omega
      subst this
      show cells[i * 1 + 0]? = _
      rw [Nat.mul_one, Nat.add_zero]
      simp only [cells]
      rw [Array.getElem?_append_left (by rw [Array.size_map]; exact hi2), Array.getElem?_map]
      have : (⟨⟨s⟩⟩ : ByteArray).data[i]? = some s[i] := by
        show (⟨s⟩ : Array UInt8)[i]? = _
        simp [hi2]
      rw [this]
      rfl

theorem runs_convert {src dst : TypeId} {x : Operand} {v : Value} {w' : World} (ho : o.op = .convert src dst x) (h : (convert src dst (a.eval x)).run E.P w = .ok v w') : Runs E a o w v w' :=
  runs_v (s := convert src dst (a.eval x)) (by unfold execOp; rw [ho]) h

theorem convert_ok (hE : EnvOK E) {src dst : TypeId} {x : Operand} {u : T} (h : RelAll E B G m p w tm a) (ho : o.op = .convert src dst x) (hx : RelT G m p w u (a.eval x)) :
    OpOK E B κ G m p w tm a o (convT E m src dst u) := by
  unfold convT
  split
  · rename_i k' k k2 n hs hd
    have e := rel_int hx
    refine ok_val0 h (v := .int k (k.wrap n)) (runs_convert ho ?_) dat_int
    rw [e]
    unfold convert
    rw [run_bindM (run_underlying (fit_int (hE.ty _ _ hs))), run_bindM (run_underlying (fit_int (hE.ty _ _ hd)))]
    rfl
  · rename_i s hs hd
    have e := rel_str hx
    refine ok_val0 h (v := .string ⟨⟨s⟩⟩) (runs_convert ho ?_) dat_str
    rw [e]
    unfold convert
    rw [run_bindM (run_underlying (fit_str (hE.ty _ _ hs))), run_bindM (run_underlying (fit_str (hE.ty _ _ hd)))]
    rfl
  · rename_i s hs hd
    have e := rel_str hx
    obtain ⟨el, hu, he⟩ := fit_slice (hE.ty _ _ hd)
    have hu8 := fit_int he
    refine ok_gpart h (fun _ hk => by simp at hk) fun ns hns G' h' hle hk => ?_
    unfold bytesL at hns
    split at hns
    · rename_i hlim
      obtain rfl := Option.some.inj hns
      obtain ⟨v, w', h1, h2⟩ := bytes_made (E := E) (G := G') (w := w) el s
      refine ⟨v, w', h2, runs_convert ho ?_⟩
      rw [e]
      unfold convert
      rw [run_bindM (run_underlying (fit_str (hE.ty _ _ hs))), run_bindM (run_underlying hu)]
      simp only
      rw [run_bindM (run_underlying hu8)]
      exact h1
    · cases hns
  · rename_i v hs hd
    split
    · rename_i xs hxs
      obtain ⟨ad, len, cap, e, hl, _, hrow⟩ := sl_read h hx hxs
      obtain ⟨el, hu, he⟩ := fit_slice (hE.ty _ _ hs)
      have hu8 := fit_int he
      refine ok_val0 h (v := .string ⟨⟨textT xs⟩⟩) (runs_convert ho ?_) dat_str
      rw [e, run_convert_bytes_string w src dst el ad len cap hu hu8 (fit_str (hE.ty _ _ hd))]
      by_cases hne : xs = []
      · subst hne
        have : len = 0 := hl
        subst this
        cases ad with
        | none => rfl
        | some ad =>
          rw [run_bytesToString w ad 0 cap [] rfl]
          rfl
      · obtain ⟨b, o', rfl, hr⟩ := hrow hne
        obtain ⟨l, h1, h2⟩ := row_cells hr
        have hl8 := u8_cells _ _ h1
        rw [run_bytesToString w ⟨b, o', none⟩ len cap xs (by
          rw [← hl8]
          refine run_loadCells (by rw [hl8, hl]; exact List.length_map ..) (fun j hj => h2 j ?_)
          simp only [Ty.size]; rw [hl] at hj; rw [Nat.mul_one]; exact hj)]
        have := fold_text xs []
        rw [show (ByteArray.empty : ByteArray) = ⟨⟨[]⟩⟩ from rfl, this]
        simp
    · exact ok_bad
  · exact ok_bad

end
end Mini

/- Append. -/
namespace Mini
open Go

section
variable {E : Env} {B : Base} {κ : Nat} {G : Gh} {m : Mem} {p : Nat → Prop} {w : World} {tm : List T} {a : Act} {o : Oper}

theorem str_app (s : List UInt8) : (Builtin.lenOf (.string ⟨⟨s⟩⟩)).run E.P w = .ok (bytesT s).length w ∧
    ∃ l : List Value, RepN (fun x l => Rep w G.ow (.int .u8) x l) (bytesT s) l ∧ ∀ w', Quiet w w' → (Builtin.firstCells (Ty.int .u8).size (bytesT s).length (.string ⟨⟨s⟩⟩)).run E.P w' = .ok l.toArray w' := by
  have hl : (bytesT s).length = s.length := List.length_map ..
  refine ⟨by rw [hl]; rfl, (bytesT s).map (Value.int .u8), ?_, fun w' _ => ?_⟩
  · have : ∀ ns : List Int, RepN (fun x l => Rep w G.ow (.int .u8) x l) ns (ns.map (Value.int .u8)) := by
      intro ns
      induction ns with
      | nil => rfl
      | cons n ns ih => exact ⟨[.int .u8 n], _, rfl, rfl, ih⟩
    exact this _
  · show Result.ok _ _ = _
    congr 1
    have hx : (⟨⟨s⟩⟩ : ByteArray).extract 0 (bytesT s).length = ⟨⟨s⟩⟩ := by
      rw [extract_str, hl, List.take_length]; rfl
    rw [hx]
    apply Array.ext'
    simp only [Array.toList_map, bytesT]
    exact (List.map_map (l := s)).symm

/-- the cells of what is appended -/
theorem app_cells {t : Ty} {u : T} {v : Value} {ys : List (El t)} (h : RelAll E B G m p w tm a) (hr : RelT G m p w u v) (hx : appended m.gr t u = some ys) :
    (Builtin.lenOf v).run E.P w = .ok ys.length w ∧ ∃ l : List Value, RepN (fun x l => Rep w G.ow t x l) ys l ∧ ∀ w', Quiet w w' → (Builtin.firstCells t.size ys.length v).run E.P w' = .ok l.toArray w' := by
  have sl : rdCell m.gr (.sl t) u = some ys → (Builtin.lenOf v).run E.P w = .ok ys.length w ∧ ∃ l : List Value, RepN (fun x l => Rep w G.ow t x l) ys l ∧ ∀ w', Quiet w w' → (Builtin.firstCells t.size ys.length v).run E.P w' = .ok l.toArray w' := by
    intro hx
    obtain ⟨ad, len, cap, rfl, hl, _, hrow⟩ := sl_read h hr hx
    obtain ⟨l, h1, h2⟩ := run_firstCells (E := E) (cap := cap) hl hrow
    rw [← hl]
    exact ⟨rfl, l, h1, h2⟩
  cases t with
  | int k =>
    cases k with
    | u8 =>
      cases u with
      | dat t' y =>
        cases t' with
        | str =>
          obtain rfl := Option.some.inj (show some (bytesT y) = some ys from hx)
          rw [rel_str hr]
          exact str_app y
        | _ => exact sl hx
      | _ => exact sl hx
    | _ => exact sl hx
  | _ => exact sl hx

/-- an append where there is room -/
theorem run_append_room {t t' ty e : TypeId} {tys : Array TypeId} {d : TypeDesc} {inf : TypeInfo} {base : Option Addr} {len cap n sz : Nat} {x : Value} {news : List Value} {w' : World}
    (h0 : tys[0]? = some t) (h1 : tys[1]? = some t') (hu : E.P.underlying t = some (.slice e)) (hu' : E.P.underlying t' = some d) (hd : (∃ e', d = .slice e') ∨ d = .string) (hi : E.P.info? e = some inf) (hs : inf.size = sz)
    (hL : (Builtin.lenOf x).run E.P w = .ok n w) (hF : (Builtin.firstCells sz n x).run E.P w = .ok news.toArray w) (hroom : len + n ≤ cap)
    (hst : (base = none ∧ w' = w) ∨ ∃ a, base = some a ∧ (storeCells (a.add (len * sz)) news).run E.P w = .ok () w') :
    (Builtin.append_ tys ty #[.slice base len cap, x]).run E.P w = .ok (.slice base (len + n) cap) w' := by
  unfold Builtin.append_
  simp only [h0, h1]
  rw [show (#[Value.slice base len cap, x])[0]? = some (.slice base len cap) from rfl, show (#[Value.slice base len cap, x])[1]? = some x from rfl]
  simp only
  rw [run_bindM (run_underlying hu)]
  simp only
  rw [run_bindM (run_sizeOf hi), hs]
  rw [run_bindM (run_underlying hu')]
  rcases hd with ⟨e', rfl⟩ | rfl <;> (
  simp only
  rw [run_bindM (show ((pure false : Sem Bool)).run E.P w = .ok false w from rfl)]
  simp only [Bool.false_eq_true, if_false]
  rw [run_bindM hL, if_pos hroom]
  simp only [Bool.not_false, if_true]
  rw [run_bindM hF]
  rcases hst with ⟨rfl, rfl⟩ | ⟨ad, rfl, hst⟩
  · rfl
  · simp only
    rw [run_bindM hst]; rfl)

/-- an append that makes a new row -/
theorem run_append_grows {t t' ty e : TypeId} {tys : Array TypeId} {d : TypeDesc} {inf : TypeInfo} {z : Value} {base : Option Addr} {len cap n sz : Nat} {x : Value} {olds news : List Value}
    (h0 : tys[0]? = some t) (h1 : tys[1]? = some t') (hu : E.P.underlying t = some (.slice e)) (hu' : E.P.underlying t' = some d) (hd : (∃ e', d = .slice e') ∨ d = .string) (hi : E.P.info? e = some inf) (hs : inf.size = sz) (hb : inf.bytes ≤ 16384)
    (hz : inf.zero = some z)
    (hL : (Builtin.lenOf x).run E.P w = .ok n w) (hO : (Builtin.firstCells sz len (.slice base len cap)).run E.P w.drew = .ok olds.toArray w.drew) (hF : (Builtin.firstCells sz n x).run E.P w.drew = .ok news.toArray w.drew) (hgrow : cap < len + n)
    (hlim : len + n < LIM) :
    (Builtin.append_ tys ty #[.slice base len cap, x]).run E.P w = .ok (.slice (some ⟨w.heap.size, 0, none⟩) (len + n) (grownCap w (len + n) cap e))
      (w.drew.alloc (.cells (olds.toArray ++ news.toArray ++ Builtin.zeroCells z.cells (grownCap w (len + n) cap e - (len + n))) e)) := by
  simp only [LIM] at hlim
  unfold Builtin.append_
  simp only [h0, h1]
  rw [show (#[Value.slice base len cap, x])[0]? = some (.slice base len cap) from rfl, show (#[Value.slice base len cap, x])[1]? = some x from rfl]
  simp only
  rw [run_bindM (run_underlying hu)]
  simp only
  rw [run_bindM (run_sizeOf hi), hs]
  rw [run_bindM (run_underlying hu')]
  rcases hd with ⟨e', rfl⟩ | rfl <;> (
  simp only
  rw [run_bindM (show ((pure false : Sem Bool)).run E.P w = .ok false w from rfl)]
  simp only [Bool.false_eq_true, if_false]
  rw [run_bindM hL, if_neg (by omega)]
  simp only [Bool.not_false, if_true, false_or]
  rw [run_bindM (run_typeInfo hi)]
  have hmax : ¬ (((len + n : Nat) : Int) > IntKind.i64.max ∧ inf.bytes = 0) := by
    rintro ⟨h, _⟩
    have : IntKind.i64.max = 9223372036854775807 := by rfl
    omega
  rw [if_neg hmax]
  rw [run_bindM (run_typeInfo hi)]
  have hfit := growslice_fits (bytes := inf.bytes) hgrow (by
    have : (len + n) * inf.bytes ≤ 4294967296 * 16384 := Nat.mul_le_mul (by omega) hb
    omega)
  rw [if_neg (by omega)]
  rw [run_bindM (show (choose (.appendCap (len + n) cap e)).run E.P w = .ok (grownCap w (len + n) cap e) w.drew from rfl)]
  rw [run_bindM (run_typeInfo hi)]
  rw [run_bindM run_askRoom]
  rw [run_bindM hO, run_bindM hF]
  rw [run_bindM (run_zero hi hz)]
  rw [run_bindM (made_newRow (w := w.drew))]
  rfl)

end
end Mini

/- Append: the operation. -/
namespace Mini
open Go

section
variable {E : Env} {B : Base} {κ : Nat} {G : Gh} {m : Mem} {p : Nat → Prop} {w : World} {tm : List T} {a : Act} {o : Oper}

theorem repN_append {α : Type} {one : α → List Value → Prop} : ∀ {xs ys : List α} {l r : List Value}, RepN one xs l → RepN one ys r → RepN one (xs ++ ys) (l ++ r) := by
  intro xs
  induction xs with
  | nil => intro ys l r h1 h2; obtain rfl : l = [] := h1; exact h2
  | cons x xs ih =>
    intro ys l r h1 h2
    obtain ⟨l1, l2, rfl, h3, h4⟩ := h1
    exact ⟨l1, l2 ++ r, by rw [List.append_assoc], h3, ih h4 h2⟩

theorem grow_sl {t : Ty} {xs ys : List (El t)} {olds news : List Value} {z : Array Value} {e : TypeId} {md : Mode} {cap : Nat} (hO : RepN (fun x l => Rep w G.ow t x l) xs olds) (hN : RepN (fun x l => Rep w G.ow t x l) ys news)
    (hz : z.toList = zcells t) (hmd : md ≠ .dead) (hcap : xs.length + ys.length ≤ cap) :
    NewSl G w (w.drew.alloc (.cells (olds.toArray ++ news.toArray ++ Builtin.zeroCells z (cap - (xs.length + ys.length))) e)) (.slice (some ⟨w.heap.size, 0, none⟩) (xs.length + ys.length) cap) ⟨t, xs ++ ys, md, 0⟩ := by
  have hR := repN_append hO hN
  have hzs : z.size = t.size := by rw [← zcells_len t, ← hz]; simp
  have h1 := repN_len (sz := t.size) (fun x l h => rep_len t x l h) _ _ hR
  have hsz : (olds.toArray ++ news.toArray).size = (xs.length + ys.length) * t.size := by
    rw [← List.length_append, ← h1]; simp
  refine ⟨hmd, .inl ⟨_, _, cap, made_quiet (quiet_drew w) (made_alloc w.drew _ e), rfl, by simp, hcap, ?_, ?_⟩⟩
  · rw [Array.size_append, hsz, size_zeroCells, hzs, ← Nat.add_mul]
    exact Nat.mul_le_mul_right _ (by omega)
  · intro i hi
    obtain ⟨l, hl, hc⟩ := row_of (cells := olds.toArray ++ news.toArray) (by simpa using hR) i hi
    refine ⟨l, hl, fun j hj => ?_⟩
    rw [← hc j hj, Array.getElem?_append_left]
    rw [hsz]
    have hi' : i < xs.length + ys.length := by simpa using hi
    have : (i + 1) * t.size ≤ (xs.length + ys.length) * t.size := Nat.mul_le_mul_right _ (by omega)
    rw [Nat.succ_mul] at this
    simp only at hj ⊢
    omega

theorem runs_append {c : Call} {x y : Operand} {v : Value} {w' : World} (ho : o.op = .call c) (hc : c.callee = .builtin .append) (hargs : c.args = #[x, y])
    (h : (Builtin.append_ c.argTypes o.type #[a.eval x, a.eval y]).run E.P w = .ok v w') : Runs E a o w v w' := by
  unfold Runs execOp
  rw [ho]
  simp only [resolve, hc, hargs]
  rw [run_bindM run_pure]
  rw [show Array.map a.eval #[x, y] = #[a.eval x, a.eval y] by simp]
  show ((do pure (Next.value (← Builtin.append_ c.argTypes o.type #[a.eval x, a.eval y])) : Sem Next)).run E.P w = _
  rw [run_bindM h]; rfl

theorem catL_some {α : Type} {xs ys zs : List α} (h : catL xs ys = some zs) : zs = xs ++ ys ∧ xs.length + ys.length < LIM := by
  unfold catL at h
  split at h
  · rename_i hl; exact ⟨(Option.some.inj h).symm, hl⟩
  · cases h

theorem anew_key {k : Nat} {g : Gr} (hpκ : p κ) (hb : lk m.boxes κ = none) (hg : lk m.gr κ = none) : NewKey ⟨m.boxes, up m.gr k killG⟩ ⟨m.boxes, (κ, g) :: up m.gr k killG⟩ p p κ := by
  refine ⟨fun _ _ => rfl, fun q hq => by rw [lk_cons, if_neg (Ne.symm hq)], fun _ h => h, fun _ h => .inl h, hpκ, fun _ => hb, fun _ => ?_⟩
  show lk (up m.gr k killG) κ = none
  by_cases hk : κ = k
  · subst hk; rw [lk_up_self, hg]; rfl
  · rw [lk_up_ne _ _ hk]; exact hg

theorem notInt_under (hE : EnvOK E) {tid : TypeId} (h : notInt (E.ty tid) = true) : ∃ d, E.P.underlying tid = some d ∧ ((∃ e', d = .slice e') ∨ d = .string) := by
  cases ht : E.ty tid with
  | none => rw [ht] at h; cases h
  | some t =>
    rw [ht] at h
    cases t <;> first | (cases h; done) | skip
    · exact ⟨_, fit_str (hE.ty _ _ ht), .inr rfl⟩
    · obtain ⟨e, he, _⟩ := fit_slice (hE.ty _ _ ht)
      exact ⟨_, he, .inl ⟨e, rfl⟩⟩

theorem own_append (hE : EnvOK E) {tid yid : TypeId} {t : Ty} {c : Call} {x y : Operand} {k ver : Nat} {uy : T} {gx ys : List (El t)} {md : Mode} (h : RelAll E B G m p w tm a) (ho : o.op = .call c) (hc : c.callee = .builtin .append) (hargs : c.args = #[x, y])
    (h0 : c.argTypes[0]? = some tid) (h1 : c.argTypes[1]? = some yid) (hty : E.ty tid = some (.sl t)) (hny : notInt (E.ty yid) = true) (hx : RelT G m p w (.own k) (a.eval x)) (hy : RelT G m p w uy (a.eval y))
    (hg : lk m.gr k = some ⟨t, gx, md, ver⟩) (hmd : md ≠ .dead) (hys : appended m.gr t uy = some ys) :
    OpOK E B κ G m p w tm a o (.anew k (.sl t) (catL (α := El t) gx ys) fun zs => ⟨t, zs, md, 0⟩) := by
  obtain ⟨e, hu, he⟩ := fit_slice (hE.ty _ _ hty)
  obtain ⟨inf, z, hi, hs, hz, hzc, hb⟩ := zero_cells he
  obtain ⟨d, hu', hd⟩ := notInt_under hE hny
  rintro u m' p' ⟨zs, hzs, rfl, rfl, hpκ, hκg, hκb, rfl⟩ next Q hn
  obtain ⟨rfl, hlim⟩ := catL_some hzs
  have hpk : p' k := hx.1
  obtain ⟨hL, news, hN, hF⟩ := app_cells h hy hys
  have hnl := repN_len (sz := t.size) (fun x l h => rep_len t x l h) _ _ hN
  obtain ⟨_, g', hg', hv⟩ := hx
  rw [hg] at hg'; obtain rfl := Option.some.inj hg'
  have hv := hv hmd
  obtain ⟨ad, len, cap, e1, e2, e3, e4⟩ := gr_row h hpk hg hmd
  simp only at e2 e4
  rw [e1] at hv
  obtain ⟨hk1, hle1⟩ := kill_one h k
  have hlk : ∀ g : Gr, lk ((κ, g) :: up m.gr k killG) κ = some g := fun g => by rw [lk_cons, if_pos rfl]
  by_cases hroom : len + ys.length ≤ cap
  · rcases Nat.eq_zero_or_pos cap with hc0 | hc0
    · have hgx : gx = [] := List.length_eq_zero_iff.1 (by omega)
      have hyn : ys = [] := List.length_eq_zero_iff.1 (by omega)
      subst hgx; subst hyn; subst hc0
      obtain rfl : len = 0 := e2
      obtain rfl : news = [] := hN
      obtain ⟨G', h', hle, _, hgv⟩ := new_key (v := .slice ad 0 0) (g := ⟨t, [], md, 0⟩) hk1 (anew_key hpκ hκb hκg) (hlk _) hκb (by
        have hrow : ∀ c, GrRow { G with gv := fun q => if q = κ then .slice ad 0 0 else G.gv q } w κ t [] c := fun c =>
          ⟨ad, 0, 0, by simp, rfl, Nat.le_refl _, fun h => by omega⟩
        unfold GrOK
        split
        · trivial
        · exact hrow _
        · exact hrow _)
      refine wp_runs (v := .slice ad 0 0) (runs_append ho hc hargs ?_) (hn _ _ G' h' (relT_of1 ⟨hpκ, ⟨t, [], md, 0⟩, hlk _, fun _ => hgv.symm⟩))
      rw [hv]
      exact run_append_room h0 h1 hu hu' hd hi hs hL (hF w (Quiet.refl w)) (by simp) (by
        cases ad with
        | none => exact .inl ⟨rfl, rfl⟩
        | some ad => exact .inr ⟨ad, rfl, rfl⟩)
    · obtain ⟨b, o', rfl, _⟩ := e4 hc0
      have hspare : ∀ q, len * t.size ≤ q → q < cap * t.size → fz w b (o' + q) = false ∧ ∃ v, cl w b (o' + q) = some v := by
        have hok := h.inv.gr k _ hpk hg
        have key : ∀ c, GrRow G w k t gx c → ∀ q, len * t.size ≤ q → q < cap * t.size → fz w b (o' + q) = false ∧ ∃ v, cl w b (o' + q) = some v := by
          rintro c ⟨ad2, len2, cap2, f1, f2, f3, f4⟩ q hq1 hq2
          rw [e1] at f1
          simp only [Value.slice.injEq] at f1
          obtain ⟨rfl, rfl, rfl⟩ := f1
          obtain ⟨b2, o2, f5, _, f6⟩ := f4 hc0
          simp only [Option.some.injEq, Addr.mk.injEq] at f5
          obtain ⟨rfl, rfl, _⟩ := f5
          exact (f6 q hq1 hq2).2
        unfold GrOK at hok
        split at hok
        · rename_i hs; exact absurd hs hmd
        · exact key _ hok
        · exact key _ hok
      have hbnd : (len + ys.length) * t.size ≤ cap * t.size := Nat.mul_le_mul_right _ hroom
      rw [Nat.add_mul] at hbnd
      obtain ⟨w', hst, hw⟩ := storeCells_run (P := E.P) (b := b) (o := o' + len * t.size) news 0 w (fun j hj => by
        have := hspare (len * t.size + j) (by omega) (by omega)
        rw [Nat.add_zero, Nat.add_assoc]
        exact ⟨this.2, this.1, repN_all (fun x l h => rep_one t x l h) _ _ hN _ (List.getElem_mem _)⟩)
      rw [Nat.add_zero] at hw
      obtain ⟨G', h', _, _, hgv⟩ := gr_append (κ := κ) (ys := ys) h hpk hpκ hg hmd e1 hroom hc0 hw hnl (fun i hi => by
        obtain ⟨l, hl, hcc⟩ := row_of (cells := news.toArray) (by simpa using hN) i hi
        exact ⟨l, hl, fun j hj => by have := hcc j hj; simpa using this⟩) hκb hκg
      refine wp_runs (v := .slice (some ⟨b, o', none⟩) (len + ys.length) cap) (runs_append ho hc hargs ?_) (hn _ _ G' h' (relT_of1 ⟨hpκ, ⟨t, gx ++ ys, md, 0⟩, hlk _, fun _ => hgv.symm⟩))
      rw [hv]
      exact run_append_room h0 h1 hu hu' hd hi hs hL (hF w (Quiet.refl w)) hroom (.inr ⟨_, rfl, by rw [addr_add]; exact hst⟩)
  · obtain ⟨olds, hO, hFO⟩ := run_firstCells (E := E) (cap := cap) (ad := ad) e2 (fun hne => e4 (by
      rcases Nat.eq_zero_or_pos cap with hz | hz
      · exact absurd (List.length_eq_zero_iff.1 (show gx.length = 0 by omega)) hne
      · exact hz))
    have hge := grownCap_ge w (len + ys.length) cap e
    have hsl := grow_sl (G := G) (w := w) (e := e) (md := md) (cap := grownCap w (len + ys.length) cap e) hO hN hzc hmd (by rw [← e2]; exact hge)
    rw [← e2] at hsl
    obtain ⟨G', h', _, _, hgv⟩ := new_sl hk1 hsl (anew_key hpκ hκb hκg) (hlk _) hκb
    refine wp_runs (runs_append ho hc hargs ?_) (hn _ _ G' h' (relT_of1 ⟨hpκ, ⟨t, gx ++ ys, md, 0⟩, hlk _, fun _ => hgv.symm⟩))
    rw [hv]
    exact run_append_grows h0 h1 hu hu' hd hi hs hb hz hL (hFO _ (quiet_drew w)) (hF _ (quiet_drew w)) (by omega) (by rw [e2]; exact hlim)

theorem append_ok (hE : EnvOK E) {tid yid : TypeId} {c : Call} {x y : Operand} {ux uy : T} (h : RelAll E B G m p w tm a) (ho : o.op = .call c) (hc : c.callee = .builtin .append) (hargs : c.args = #[x, y])
    (h0 : c.argTypes[0]? = some tid) (h1 : c.argTypes[1]? = some yid) (hx : RelT G m p w ux (a.eval x)) (hy : RelT G m p w uy (a.eval y)) :
    OpOK E B κ G m p w tm a o (appendT E m tid yid ux uy) := by
  unfold appendT
  split
  · rename_i t hty hny
    split
    · rename_i ys hys
      split
      · obtain ⟨e, hu, he⟩ := fit_slice (hE.ty _ _ hty)
        obtain ⟨inf, z, hi, hs, hz, hzc, hb⟩ := zero_cells he
        obtain ⟨d, hu', hd⟩ := notInt_under hE hny
        have ev : a.eval x = .slice none 0 0 := hx
        refine ok_gpart h (fun _ hk => by simp at hk) fun zs hzs G' h' hle hk => ?_
        obtain ⟨hzz, hlim⟩ := catL_some hzs
        have hzz : zs = [] ++ ys := hzz
        rw [hzz]
        obtain ⟨hL, news, hN, hF⟩ := app_cells (m := m) h' (relT_mono hle hk hy) hys
        by_cases hne : ys = []
        · subst hne
          obtain rfl : news = [] := hN
          refine ⟨.slice none 0 0, w, ⟨by simp, .inr ⟨Quiet.refl w, rfl, none, rfl⟩⟩, runs_append ho hc hargs ?_⟩
          rw [ev]
          exact run_append_room h0 h1 hu hu' hd hi hs hL (hF w (Quiet.refl w)) (by simp) (.inl ⟨rfl, rfl⟩)
        · have hpos : 0 < ys.length := List.length_pos_iff.2 hne
          have hsl := grow_sl (G := G') (w := w) (e := e) (md := .excl) (xs := ([] : List (El t))) (olds := []) (cap := grownCap w (0 + ys.length) 0 e) rfl hN hzc (by simp) (grownCap_ge _ _ _ _)
          refine ⟨_, _, hsl, runs_append ho hc hargs ?_⟩
          rw [ev]
          exact run_append_grows h0 h1 hu hu' hd hi hs hb hz hL (olds := []) rfl (hF _ (quiet_drew w)) (by omega) hlim
      · rename_i k
        split
        · rename_i g hg
          obtain ⟨gt, gx, md, ver⟩ := g
          split
          · rename_i q he hmd
            have het : gt = t := by injection q
            subst het
            simp only at hmd; subst hmd
            exact own_append hE h ho hc hargs h0 h1 hty hny hx hy hg (by simp) hys
          · rename_i q he hmd
            have het : gt = t := by injection q
            subst het
            simp only at hmd; subst hmd
            exact own_append hE h ho hc hargs h0 h1 hty hny hx hy hg (by simp) hys
          · exact ok_bad
        · exact ok_bad
      · exact ok_bad
    · exact ok_bad
  · exact ok_bad

end
end Mini

/- Every operation but the calls of functions. -/
namespace Mini
open Go

section
variable {E : Env} {B : Base} {κ : Nat} {G : Gh} {m : Mem} {p : Nat → Prop} {w : World} {tm : List T} {a : Act} {o : Oper}

/-- an operand, where a half may stay under its guard -/
def RelP (G : Gh) (m : Mem) (p : Nat → Prop) (w : World) (a : Act) : T → Value → Prop
  | .cnd s b u, v => a.tmps[s]? = some (.bool b) → RelT G m p w u v
  | u, v => RelT G m p w u v

theorem opdP_rel (h : RelAll E B G m p w tm a) {ch : List (Nat × Bool)} (hch : ∀ s b, (s, b) ∈ ch → a.tmps[s]? = some (.bool b)) (x : Operand) :
    RelP G m p w a (opdP E tm ch x) (a.eval x) := by
  have hC := opdC_rel h hch x
  unfold opdC at hC
  unfold opdP
  split
  · rename_i s b u e
    rw [e] at hC
    simp only [unc] at hC
    split
    · rename_i he
      rw [if_pos he] at hC
      cases u with
      | cnd _ _ _ => exact hC.elim
      | _ => exact hC
    · cases x with
      | tmp t =>
        simp only [opd] at e
        simp only [Act.eval]
        by_cases ht : t < tm.length
        · have hr := h.tms.rel t ht
          rw [e] at hr
          exact hr.1
        · rw [getT_ge tm t (Nat.le_of_not_lt ht)] at e; cases e
      | const v =>
        exfalso
        simp only [opd] at e
        unfold constT at e; split at e <;> cases e
      | global g => simp only [opd] at e; split at e <;> cases e
      | func f => cases e
  · rename_i hn
    have e : unc ch (opd E tm x) = opd E tm x := by
      cases hv : opd E tm x <;> first | rfl | exact (hn _ _ _ hv).elim
    rw [e] at hC
    cases hv : opd E tm x <;> first | (rw [hv] at hC; exact hC) | exact (hn _ _ _ hv).elim

theorem side_rel {s : Nat} {b y : Bool} {u : T} {v : Value} (h : sideT s b u = some y) (hr : RelP G m p w a u v) (hs : a.tmps[s]? = some (.bool b)) : v = .bool y := by
  unfold sideT at h
  split at h
  · obtain rfl := Option.some.inj h
    exact rel_bool (G := G) (m := m) (p := p) hr
  · split at h
    · rename_i he
      obtain ⟨rfl, rfl⟩ := he
      obtain rfl := Option.some.inj h
      exact rel_bool (G := G) (m := m) (p := p) (hr hs)
    · cases h
  · cases h

theorem pick_ok {c x y : Operand} {vc u v : T} (h : RelAll E B G m p w tm a) (ho : o.op = .pick c x y) (hc : RelT G m p w vc (a.eval c)) (hx : RelP G m p w a u (a.eval x)) (hy : RelP G m p w a v (a.eval y)) :
    OpOK E B κ G m p w tm a o (pickT c vc u v) := by
  unfold pickT
  split
  · rename_i s b
    split
    · rename_i y1 z1 h1 h2
      have ec := rel_bool hc
      have hs : a.tmps[s]? = some (.bool b) := by
        simp only [Act.eval, Array.getD_eq_getD_getElem?] at ec
        cases ht : a.tmps[s]? with
        | none => rw [ht] at ec; cases ec
        | some q => rw [ht] at ec; exact congrArg some ec
      refine ok_val0 h (v := .bool (bsel b y1 z1)) ?_ dat_bool
      unfold Runs execOp
      rw [ho]
      simp only [ec]
      rw [run_bindM (show (asBool (.bool b)).run E.P w = .ok b w from rfl)]
      cases b with
      | true => rw [side_rel h1 hx hs]; rfl
      | false => rw [side_rel h2 hy hs]; rfl
    · exact ok_bad
  · exact ok_bad

theorem ops1_len {ρ : Operand → T} : ∀ (l : List Operand), (ops1 ρ l).length = l.length := by
  intro l; induction l with
  | nil => rfl
  | cons x l ih => simp [ops1, ih]
theorem ops1_get {ρ : Operand → T} : ∀ (l : List Operand) (i : Nat) (h : i < l.length), getT (ops1 ρ l) i = ρ l[i] := by
  intro l; induction l with
  | nil => intro i h; simp at h
  | cons x l ih =>
    intro i h
    cases i with
    | zero => rfl
    | succ i => exact ih i (by simpa using h)

theorem ops1_one {ρ : Operand → T} {xs : Array Operand} {u : T} (h : ops1 ρ xs.toList = [u]) : ∃ x, xs = #[x] ∧ ρ x = u := by
  obtain ⟨l⟩ := xs
  match l with
  | [] => cases h
  | [x] => simp only [ops1, List.cons.injEq, and_true] at h; exact ⟨x, rfl, h⟩
  | x :: y :: l => simp [ops1] at h
theorem ops1_two {ρ : Operand → T} {xs : Array Operand} {u v : T} (h : ops1 ρ xs.toList = [u, v]) : ∃ x y, xs = #[x, y] ∧ ρ x = u ∧ ρ y = v := by
  obtain ⟨l⟩ := xs
  match l with
  | [] => cases h
  | [x] => simp [ops1] at h
  | [x, y] => simp only [ops1, List.cons.injEq, and_true] at h; exact ⟨x, y, rfl, h.1, h.2⟩
  | x :: y :: z :: l => simp [ops1] at h

theorem built_ok (hE : EnvOK E) {b : Builtin} {args : Array Operand} {tys : Array TypeId} {ρ : Operand → T} (h : RelAll E B G m p w tm a) (ho : o.op = .call ⟨.builtin b, args, tys⟩) (hρ : ∀ x, RelT G m p w (ρ x) (a.eval x)) :
    OpOK E B κ G m p w tm a o (builtT E m b tys (ops1 ρ args.toList)) := by
  unfold builtT
  split
  · rename_i x t hb ha ht
    obtain ⟨x', rfl, rfl⟩ := ops1_one ha
    exact lenV_ok hE h ho rfl ht rfl (hρ x')
  · rename_i x y t hb ha ht
    obtain ⟨x', y', rfl, rfl, rfl⟩ := ops1_two ha
    split
    · rename_i t' ht'
      exact append_ok hE h ho rfl rfl ht ht' (hρ x') (hρ y')
    · exact ok_bad
  · rename_i ha
    split
    · rename_i z hz
      refine fold_ok (f := maxI) (f2 := Builtin.max2) h ho rfl ?_ (fun _ _ _ _ => rfl) ?_ ?_ hz
      · intro cs vs
        rcases hv : vs.toList with _ | ⟨x, rest⟩
        · exact .inr rfl
        · left
          show (do pure (Next.value (← Builtin.max_ _ _ vs)) : Sem Next) = _
          unfold Builtin.max_
          rw [hv]
      · rw [← ha, ops1_len]; simp
      · intro i hi
        rw [← ha, ops1_get _ _ (by simpa using hi)]
        simpa using hρ _
    · exact ok_bad
  · rename_i ha
    split
    · rename_i z hz
      refine fold_ok (f := minI) (f2 := Builtin.min2) h ho rfl ?_ (fun _ _ _ _ => rfl) ?_ ?_ hz
      · intro cs vs
        rcases hv : vs.toList with _ | ⟨x, rest⟩
        · exact .inr rfl
        · left
          show (do pure (Next.value (← Builtin.min_ _ _ vs)) : Sem Next) = _
          unfold Builtin.min_
          rw [hv]
      · rw [← ha, ops1_len]; simp
      · intro i hi
        rw [← ha, ops1_get _ _ (by simpa using hi)]
        simpa using hρ _
    · exact ok_bad
  · exact ok_bad

theorem relO_map {ρ : Operand → T} (hρ : ∀ x, RelT G m p w (ρ x) (a.eval x)) (x : Option Operand) : RelO G m p w (x.map ρ) (x.map a.eval) := by
  cases x with
  | none => exact .inl ⟨rfl, rfl⟩
  | some x => exact .inr ⟨_, _, rfl, rfl, hρ x⟩

end
end Mini

/- Every operation. -/
namespace Mini
open Go

/-- calls do what their outcomes say -/
def CallsOK (E : Env) (call : CallT) : Prop :=
  ∀ (B : Base) (κ : Nat) (G : Gh) (m : Mem) (p : Nat → Prop) (w : World) (tm : List T) (a : Act) (o : Oper) (f : Nat) (caps : List (Nat × Nat)) (fv : Operand) (args : Array Operand) (tys : Array TypeId) (ρ : Operand → T),
    RelAll E B G m p w tm a → o.op = .call ⟨.value fv, args, tys⟩ → (∀ x, RelT G m p w (ρ x) (a.eval x)) → ρ fv = .clo f caps →
    OpOK E B κ G m p w tm a o (callT E call κ m f (ops1 ρ args.toList ++ addrs caps))

section
variable {E : Env} {B : Base} {κ : Nat} {G : Gh} {m : Mem} {p : Nat → Prop} {w : World} {tm : List T} {a : Act} {o : Oper} {call : CallT}

theorem altIx_ok (hE : EnvOK E) {t : TypeId} {x i : Operand} {u : T} {k : IntKind} {n0 : Int} (h : RelAll E B G m p w tm a) (ho : o.op = .indexAddr t x i) (hx : RelT G m p w u (a.eval x)) (hi : RelT G m p w (.dat (.int k) n0) (a.eval i)) :
    ∀ n q, OpOK E B κ G m p w tm a o (altIx E m t u k n0 n q) := by
  intro n
  induction n with
  | zero => intro q; rintro u' m' p' ⟨y, hy, _⟩; cases hy
  | succ n ih =>
    intro q
    refine ok_alt (fun hc => ?_) (fun _ => ih (q + 1))
    have hc : n0 = (q : Int) := by simpa using hc
    subst hc
    exact indexAddr_ok hE h ho hx hi

theorem split_ok (hE : EnvOK E) {t : TypeId} {x i : Operand} {u v : T} {lit : Bool} (h : RelAll E B G m p w tm a) (ho : o.op = .indexAddr t x i) (hx : RelT G m p w u (a.eval x)) (hi : RelT G m p w v (a.eval i)) :
    OpOK E B κ G m p w tm a o (splitT E m t u v lit) := by
  unfold splitT
  split
  · exact altIx_ok hE h ho hx hi _ _
  · exact indexAddr_ok hE h ho hx hi

theorem evOp_ok (hE : EnvOK E) (hC : CallsOK E call) {ρ : Operand → T} {op : Op} (h : RelAll E B G m p w tm a) (ho : o.op = op) (hρ : ∀ x, RelT G m p w (ρ x) (a.eval x)) :
    OpOK E B κ G m p w tm a o (evOp E call ρ κ m op) := by
  cases op with
  | move x => exact move_ok h (.inl ho) (hρ x)
  | assign x => exact move_ok h (.inr ho) (hρ x)
  | alloc t =>
    simp only [evOp]
    split
    · rename_i hty; exact alloc_ok hE h ho hty
    · exact ok_bad
  | box t x => exact box_ok hE h ho (hρ x)
  | build t parts =>
    simp only [evOp]
    split
    · rename_i hty
      split
      · exact buildA_ok hE h ho hty hρ
      · exact build_ok hE h ho hty hρ
    · exact ok_bad
  | buildSlice t len parts =>
    simp only [evOp]
    split
    · rename_i hty
      split
      · rename_i hl
        split
        · rename_i hx; exact buildSlice_ok hE h ho hty hρ hl hx
        · exact ok_bad
      · exact ok_bad
    · exact ok_bad
  | load t x => exact load_ok hE h ho (hρ x)
  | store t x y => exact store_ok hE h ho (hρ x) (hρ y)
  | nilCheck x => exact nilCheck_ok h ho (hρ x)
  | binOp op t x y t' => exact binT_ok hE h ho (hρ x) (hρ y)
  | unOp op t x => exact unop_ok h ho (hρ x)
  | convert s d x => exact convert_ok hE h ho (hρ x)
  | makeFunc fn first caps =>
    cases fn with
    | func f =>
      simp only [evOp]
      split
      · rename_i hf
        refine makeFunc_ok h ho hf (by rw [ops1_len]; simp) fun i hi => ?_
        rw [ops1_get _ _ (by simpa using hi)]
        simpa using hρ _
      · exact ok_bad
    | _ => exact ok_bad
  | makeSlice t n c =>
    simp only [evOp]
    split
    · rename_i hty hn hc; exact makeSlice_ok hE h ho hty (hρ n) (hρ c) hn hc
    · exact ok_bad
  | slice t x lo hi mx => exact slice_ok hE h ⟨ho, hρ x, relO_map hρ lo, relO_map hρ hi⟩
  | fieldAddr t x f => exact fieldAddr_ok hE h ho (hρ x)
  | field t x f => exact field_ok hE h ho (hρ x)
  | indexAddr t x i => exact split_ok hE h ho (hρ x) (hρ i)
  | index t x i => exact index_ok hE h ho (hρ x) (hρ i)
  | extract x i => exact extract_ok h ho (hρ x)
  | call c =>
    obtain ⟨cal, args, tys⟩ := c
    cases cal with
    | builtin b => exact built_ok hE h ho hρ
    | value f =>
      simp only [evOp]
      split
      · rename_i fi caps hf
        exact hC B κ G m p w tm a o fi caps f args tys ρ h ho hρ hf
      · exact ok_bad
    | invoke r n => exact ok_bad
  | _ => exact ok_bad

theorem evAt_ok (hE : EnvOK E) (hC : CallsOK E call) {ch : List (Nat × Bool)} (h : RelAll E B G m p w tm a) (hch : ∀ s b, (s, b) ∈ ch → a.tmps[s]? = some (.bool b)) :
    OpOK E B κ G m p w tm a o (evAt E call κ tm ch m o.op) := by
  unfold evAt
  split
  · rename_i c x y ho
    exact pick_ok h ho (opdC_rel h hch c) (opdP_rel h hch x) (opdP_rel h hch y)
  · exact evOp_ok hE hC h rfl (opdC_rel h hch)

end
end Mini

/- The operations of a region, one behind another. -/
namespace Mini
open Go

def All : Nat → Prop := fun _ => True

theorem run_out {R : Type} {κ : Nat} {m : Mem} {K : T → Mem → Option R} {z : R} : ∀ {r : OpRes}, run r κ m K = some z →
    ∃ u m', Out r κ m All u m' All ∧ K u m' = some z := by
  have free : ∀ {α : Type} {b : Bool} {x : Option α} {y : α}, guardB b x = some y → b = true ∧ x = some y := by
    intro α b x y h
    unfold guardB at h
    split at h
    · rename_i hb; exact ⟨hb, h⟩
    · cases h
  have lks : ∀ ks, freeM κ m = true → lk (m.share ks).boxes κ = none ∧ lk (m.share ks).gr κ = none := by
    intro ks h
    simp only [freeM, Bool.and_eq_true] at h
    refine ⟨lk_freeK h.1 0 (by omega), ?_⟩
    simp only [Mem.share, lk_shareKs]
    rw [show lk m.gr κ = none from lk_freeK h.2 0 (by omega)]; rfl
  intro r
  induction r with
  | val ks v => intro h; exact ⟨v, _, ⟨rfl, rfl, rfl⟩, h⟩
  | vpart ks τ x f =>
    intro h
    cases x with
    | none => cases h
    | some y => exact ⟨f y, _, ⟨y, rfl, rfl, rfl, rfl⟩, h⟩
  | newB ks cs =>
    intro h
    obtain ⟨hf, h⟩ := free h
    obtain ⟨h1, h2⟩ := lks ks hf
    refine ⟨_, ⟨(κ, cs) :: m.boxes, shareKs m.gr ks⟩, ⟨rfl, ⟨fun k hk => by rw [lk_cons, if_neg (Ne.symm hk)]; rfl, fun _ _ => rfl, fun _ h => h, fun _ _ => .inl trivial, trivial, fun _ => h1, fun _ => h2⟩, by rw [lk_cons, if_pos rfl], rfl, .inl h2⟩, h⟩
  | newG ks g =>
    intro h
    obtain ⟨hf, h⟩ := free h
    obtain ⟨h1, h2⟩ := lks ks hf
    exact ⟨_, ⟨m.boxes, (κ, g) :: shareKs m.gr ks⟩, ⟨rfl, ⟨fun _ _ => rfl, fun k hk => by rw [lk_cons, if_neg (Ne.symm hk)]; rfl, fun _ h => h, fun _ _ => .inl trivial, trivial, fun _ => h1, fun _ => h2⟩, by rw [lk_cons, if_pos rfl], h1⟩, h⟩
  | gpart ks τ x f =>
    intro h
    obtain ⟨hf, h⟩ := free h
    obtain ⟨h1, h2⟩ := lks ks hf
    cases x with
    | none => cases h
    | some y => exact ⟨_, ⟨m.boxes, (κ, f y) :: shareKs m.gr ks⟩, ⟨y, rfl, rfl, ⟨fun _ _ => rfl, fun k hk => by rw [lk_cons, if_neg (Ne.symm hk)]; rfl, fun _ h => h, fun _ _ => .inl trivial, trivial, fun _ => h1, fun _ => h2⟩, by rw [lk_cons, if_pos rfl], h1⟩, h⟩
  | ok v m' => intro h; exact ⟨v, m', ⟨rfl, rfl, rfl⟩, h⟩
  | anew k τ x f =>
    intro h
    obtain ⟨hf, h⟩ := free h
    simp only [freeM, Bool.and_eq_true] at hf
    cases x with
    | none => cases h
    | some y => exact ⟨_, _, ⟨y, rfl, rfl, rfl, trivial, lk_freeK hf.2 0 (by omega), lk_freeK hf.1 0 (by omega), rfl⟩, h⟩
  | part τ x f =>
    intro h
    obtain ⟨hf, h⟩ := free h
    simp only [freeM, Bool.and_eq_true] at hf
    cases x with
    | none => cases h
    | some y => exact ⟨_, _, ⟨y, rfl, rfl, rfl, rfl, fun _ => trivial, hf.2, hf.1⟩, h⟩
  | alt c r s ihr ihs =>
    intro h
    cases c with
    | true => obtain ⟨u, m', h1, h2⟩ := ihr h; exact ⟨u, m', h1, h2⟩
    | false => obtain ⟨u, m', h1, h2⟩ := ihs h; exact ⟨u, m', h1, h2⟩
  | bad => intro h; cases h

theorem setT_len : ∀ (l : List T) (d : Nat) (u : T), (setT l d u).length = l.length := by
  intro l; induction l with
  | nil => intro d u; rfl
  | cons x l ih => intro d u; cases d <;> simp [setT, ih]
theorem getT_setT : ∀ (l : List T) (d : Nat) (u : T) (i : Nat), getT (setT l d u) i = if i = d ∧ d < l.length then u else getT l i := by
  intro l; induction l with
  | nil => intro d u i; simp [setT]
  | cons x l ih =>
    intro d u i
    cases d with
    | zero => cases i <;> simp [setT, getT]
    | succ d =>
      cases i with
      | zero => simp [setT, getT]
      | succ i => simp only [setT, getT, ih, List.length_cons]; congr 1; apply propext; omega

theorem getD_set (a : Array Value) (d i : Nat) (v : Value) (h : i < a.size) : (a.setIfInBounds d v).getD i undef = if i = d then v else a.getD i undef := by
  simp only [Array.getD_eq_getD_getElem?, Array.getElem?_setIfInBounds]
  by_cases hd : d = i
  · subst hd; simp [h]
  · rw [if_neg hd, if_neg (Ne.symm hd)]

section
variable {E : Env} {B : Base} {κ : Nat} {G : Gh} {m : Mem} {p : Nat → Prop} {w : World} {tm : List T} {a : Act} {o : Oper} {call : CallT}

/-- a slot is laid -/
theorem rel_put {d : Option Nat} {u : T} {v : Value} (h : RelAll E B G m p w tm a) (hr : ∀ tmps : Array Value, (∀ s, d ≠ some s → tmps[s]? = a.tmps[s]?) → RelC G m p w tmps u v)
    (hd : ∀ t s b q, getT tm t = .cnd s b q → d ≠ some s) : RelAll E B G m p w (putT tm d u) (a.put d v) := by
  cases d with
  | none => exact h
  | some d =>
    have hsame : ∀ s, some d ≠ some s → (a.tmps.setIfInBounds d v)[s]? = a.tmps[s]? := fun s hs => Array.getElem?_setIfInBounds_ne (by intro e; exact hs (by rw [e]))
    refine ⟨⟨?_, fun i hi => ?_⟩, h.inv, h.fr, h.glob, h.defers, h.bx, by simp only [putT, setT_len]; exact h.sz⟩
    · simp only [putT, Act.put, setT_len, Array.size_setIfInBounds]; exact h.tms.size
    · simp only [putT, Act.put, setT_len] at hi ⊢
      rw [getT_setT, getD_set _ _ _ _ (by rw [← h.tms.size]; exact hi)]
      by_cases he : i = d
      · rw [if_pos ⟨he, by omega⟩, if_pos he]
        exact hr _ hsame
      · rw [if_neg (by omega), if_neg he]
        have hi2 := h.tms.rel i hi
        cases hg : getT tm i with
        | cnd s b q =>
          rw [hg] at hi2
          simp only [RelC, hsame s (hd i s b q hg)]
          exact hi2
        | _ => rw [hg] at hi2; exact hi2

theorem relT_notC {u : T} {v : Value} (h : RelT G m p w u v) : notC u = true := by
  cases u <;> first | rfl | exact h.elim
theorem relC_ofT {u : T} {v : Value} {tmps : Array Value} (h : RelT G m p w u v) : RelC G m p w tmps u v := by
  cases u <;> first | exact h | exact h.elim

/-! ### guards -/

theorem slot_val {t : Nat} (h : RelAll E B G m p w tm a) (ht : t < tm.length) : a.tmps[t]? = some (a.tmps.getD t undef) := by
  rw [Array.getD_eq_getD_getElem?, Array.getElem?_eq_getElem (by rw [← h.tms.size]; exact ht)]; rfl
theorem slot_lt {t : Nat} (h : getT tm t ≠ .unk) : t < tm.length := Nat.lt_of_not_le fun hle => h (getT_ge tm t hle)

theorem slot_bool {t : Nat} {y : Bool} (h : RelAll E B G m p w tm a) (ht : getT tm t = .dat .bool y) : a.tmps[t]? = some (.bool y) := by
  have hlt := slot_lt (tm := tm) (t := t) (by rw [ht]; simp)
  have := h.tms.rel t hlt
  rw [ht] at this
  rw [slot_val h hlt, rel_bool (G := G) (m := m) (p := p) (w := w) this]

theorem slot_undef {t : Nat} (h : RelAll E B G m p w tm a) (ht : getT tm t = .undef) (b : Bool) : a.tmps[t]? ≠ some (.bool b) := by
  have hlt := slot_lt (tm := tm) (t := t) (by rw [ht]; simp)
  have := h.tms.rel t hlt
  rw [ht] at this
  rw [slot_val h hlt, show a.tmps.getD t undef = undef from this]
  simp [undef]

theorem slot_cnd {t s : Nat} {b : Bool} {u : T} (h : RelAll E B G m p w tm a) (ht : getT tm t = .cnd s b u) :
    (a.tmps[s]? = some (.bool b) → RelT G m p w u (a.tmps.getD t undef)) ∧ (a.tmps[s]? ≠ some (.bool b) → ∀ c, a.tmps[t]? ≠ some (.bool c)) := by
  have hlt := slot_lt (tm := tm) (t := t) (by rw [ht]; simp)
  have := h.tms.rel t hlt
  rw [ht] at this
  refine ⟨this.1, fun hn c => ?_⟩
  rw [slot_val h hlt, this.2 hn]
  simp [undef]

theorem gd_true {w y : Bool} (h : gd w y = true) : y = w := by cases w <;> cases y <;> simp [gd] at h ⊢
theorem gd_false {w y : Bool} (h : gd w y = false) : y ≠ w := by cases w <;> cases y <;> simp [gd] at h ⊢

theorem chain_head (n s : Nat) (b : Bool) : ∃ l, chain tm n s b = (s, b) :: l := by
  cases n with
  | zero => exact ⟨[], rfl⟩
  | succ n => exact ⟨_, rfl⟩

/-- where a guard of a chain is not met, the first is not -/
theorem chain_down (h : RelAll E B G m p w tm a) : ∀ (n s0 : Nat) (b0 : Bool), ∀ q ∈ chain tm n s0 b0, a.tmps[q.1]? ≠ some (.bool q.2) → a.tmps[s0]? ≠ some (.bool b0) := by
  intro n
  induction n with
  | zero =>
    intro s0 b0 q hq hn
    simp only [chain, List.mem_singleton] at hq
    subst hq; exact hn
  | succ n ih =>
    intro s0 b0 q hq hn
    simp only [chain, List.mem_cons] at hq
    rcases hq with rfl | hq
    · exact hn
    · split at hq
      · rename_i s1 b1 u1 hg
        exact (slot_cnd h hg).2 (ih s1 b1 q hq hn) b0
      · cases hq

theorem met_ok (h : RelAll E B G m p w tm a) : ∀ (n s0 : Nat) (b0 : Bool) (g : Bool), met tm (chain tm n s0 b0) = some g →
    (g = true → ∀ q ∈ chain tm n s0 b0, a.tmps[q.1]? = some (.bool q.2)) ∧ (g = false → a.tmps[s0]? ≠ some (.bool b0)) := by
  have one : ∀ (s0 : Nat) (b0 g : Bool), met tm [(s0, b0)] = some g → (g = true → a.tmps[s0]? = some (.bool b0)) ∧ (g = false → a.tmps[s0]? ≠ some (.bool b0)) := by
    intro s0 b0 g hm
    simp only [met] at hm
    split at hm
    · rename_i y hy
      obtain rfl := Option.some.inj hm
      rw [slot_bool h hy]
      refine ⟨fun hg => by rw [gd_true hg], fun hg hc => gd_false hg ?_⟩
      injection (Option.some.inj hc)
    · cases hm
  intro n
  induction n with
  | zero =>
    intro s0 b0 g hm
    obtain ⟨h1, h2⟩ := one s0 b0 g hm
    exact ⟨fun hg q hq => by simp only [chain, List.mem_singleton] at hq; subst hq; exact h1 hg, h2⟩
  | succ n ih =>
    intro s0 b0 g hm
    cases hg : getT tm s0 with
    | cnd s1 b1 u1 =>
      simp only [chain, hg] at hm ⊢
      obtain ⟨l, hl⟩ := chain_head (tm := tm) n s1 b1
      rw [hl] at hm
      simp only [met] at hm
      rw [hg] at hm
      split at hm
      · rename_i pb s2 b2 y e1 e2
        obtain ⟨rfl, rfl, rfl⟩ : s1 = s2 ∧ b1 = b2 ∧ u1 = .dat .bool y := by simpa using e2
        obtain rfl := Option.some.inj hm
        rw [← hl] at e1
        obtain ⟨i1, i2⟩ := ih s1 b1 pb e1
        have hhead : (s1, b1) ∈ chain tm n s1 b1 := by rw [hl]; simp
        refine ⟨fun hgt q hq => ?_, fun hgf => ?_⟩
        · simp only [Bool.and_eq_true] at hgt
          rcases List.mem_cons.1 hq with rfl | hq
          · have h1 := (slot_cnd h hg).1 (i1 hgt.1 _ hhead)
            have hlt := slot_lt (tm := tm) (t := s0) (by rw [hg]; simp)
            show a.tmps[s0]? = some (.bool b0)
            rw [slot_val h hlt, rel_bool h1, gd_true hgt.2]
          · exact i1 hgt.1 q hq
        · by_cases hp : pb = true
          · subst hp
            have h1 := (slot_cnd h hg).1 (i1 rfl _ hhead)
            have hlt := slot_lt (tm := tm) (t := s0) (by rw [hg]; simp)
            rw [slot_val h hlt, rel_bool h1]
            intro hc
            exact gd_false (by simpa using hgf) (by injection (Option.some.inj hc))
          · exact (slot_cnd h hg).2 (i2 (by simpa using hp)) b0
      · cases hm
    | _ =>
      have e : chain tm (n + 1) s0 b0 = [(s0, b0)] := by simp only [chain, hg]
      rw [e] at hm ⊢
      obtain ⟨h1, h2⟩ := one s0 b0 g hm
      exact ⟨fun hg q hq => by simp only [List.mem_singleton] at hq; subst hq; exact h1 hg, h2⟩

end
end Mini

/- The operations of a region, one behind another: the walk. -/
namespace Mini
open Go

/-- what is said of guarded slots within a region -/
def IvS (all : List Oper) (i t s : Nat) (u : T) : Prop :=
  notC u = true ∧ (∃ j o, j < i ∧ all[j]? = some o ∧ o.dst = some t ∧ o.guard.isSome = true) ∧ (∃ j o, j < i ∧ all[j]? = some o ∧ o.dst = some s)
def Iv (all : List Oper) (i : Nat) (tm : List T) : Prop :=
  ∀ t s b u, getT tm t = .cnd s b u → IvS all i t s u

theorem ivS_succ {all : List Oper} {i t s : Nat} {u : T} (h : IvS all i t s u) : IvS all (i + 1) t s u := by
  obtain ⟨h1, ⟨j, o, h2, h3⟩, j', o', h4, h5⟩ := h
  exact ⟨h1, ⟨j, o, by omega, h3⟩, j', o', by omega, h5⟩

theorem laysNot_spec {d : Nat} : ∀ {l : List Oper}, laysNot d l = true → ∀ o ∈ l, o.dst ≠ some d := by
  intro l; induction l with
  | nil => intro _ o ho; simp at ho
  | cons x l ih =>
    intro h o ho
    simp only [laysNot, Bool.and_eq_true, bne_iff_ne, ne_eq] at h
    rcases List.mem_cons.1 ho with rfl | ho
    · exact h.1
    · exact ih h.2 o ho

theorem apartD_spec : ∀ {l : List Oper}, apartD l = true → ∀ {i j : Nat} {x y : Oper} {d : Nat}, j < i → l[j]? = some x → l[i]? = some y → x.dst = some d → y.dst ≠ some d := by
  intro l; induction l with
  | nil => intro _ i j x y d _ h; simp at h
  | cons o l ih =>
    intro h i j x y d hij hx hy hd
    simp only [apartD, Bool.and_eq_true] at h
    cases i with
    | zero => omega
    | succ i =>
      simp only [List.getElem?_cons_succ] at hy
      cases j with
      | zero =>
        simp only [List.getElem?_cons_zero, Option.some.injEq] at hx
        subst hx
        rw [hd] at h
        exact laysNot_spec h.1 y (List.mem_of_getElem? hy)
      | succ j => exact ih h.2 (i := i) (j := j) (by omega) (by simpa using hx) hy hd

theorem guarded_of : ∀ {l : List Oper} {j : Nat} {o : Oper}, l[j]? = some o → o.guard.isSome = true → guarded l = true := by
  intro l; induction l with
  | nil => intro j o h; simp at h
  | cons x l ih =>
    intro j o h hg
    cases j with
    | zero => simp only [List.getElem?_cons_zero, Option.some.injEq] at h; subst h; simp [guarded, hg]
    | succ j => simp only [guarded, Bool.or_eq_true]; exact .inr (ih (by simpa using h) hg)

theorem iv_put {all : List Oper} {i : Nat} {tm : List T} {d : Option Nat} {u : T} (h : Iv all i tm) (hu : notC u = true) : Iv all (i + 1) (putT tm d u) := by
  intro t s b q hq
  have old : getT tm t = .cnd s b q → IvS all (i + 1) t s q := fun hq => ivS_succ (h t s b q hq)
  cases d with
  | none => exact old hq
  | some d =>
    simp only [putT, getT_setT] at hq
    split at hq
    · subst hq; cases hu
    · exact old hq

theorem iv_putC {all : List Oper} {i j : Nat} {tm : List T} {o o' : Oper} {s : Nat} {b : Bool} {u : T} (h : Iv all i tm) (hu : notC u = true) (ho : all[i]? = some o) (hg : o.guard.isSome = true) (hj : j < i) (ho' : all[j]? = some o') (hd : o'.dst = some s) :
    Iv all (i + 1) (putT tm o.dst (.cnd s b u)) := by
  intro t s' b' q hq
  have old : getT tm t = .cnd s' b' q → IvS all (i + 1) t s' q := fun hq => ivS_succ (h t s' b' q hq)
  cases hdd : o.dst with
  | none => rw [hdd] at hq; exact old hq
  | some d =>
    rw [hdd] at hq
    simp only [putT, getT_setT] at hq
    split at hq
    · rename_i he
      obtain ⟨rfl, rfl, rfl⟩ : s = s' ∧ b = b' ∧ u = q := by simpa using hq
      exact ⟨hu, ⟨i, o, by omega, ho, by rw [hdd, he.1], hg⟩, j, o', by omega, ho', hd⟩
    · exact old hq

theorem refT_len (s : Nat) (b : Bool) : ∀ l : List T, (refT s b l).length = l.length := by
  intro l; induction l with
  | nil => rfl
  | cons x l ih => cases x <;> simp [refT, ih]
theorem refF_len (s : Nat) (b : Bool) : ∀ l : List T, (refF s b l).length = l.length := by
  intro l; induction l with
  | nil => rfl
  | cons x l ih => cases x <;> simp [refF, ih]
theorem refT_get (s : Nat) (b : Bool) : ∀ (l : List T) (t : Nat), (∀ s' b' u, getT l t = .cnd s' b' u → getT (refT s b l) t = if s = s' ∧ b = b' then u else .cnd s' b' u) ∧ ((∀ s' b' u, getT l t ≠ .cnd s' b' u) → getT (refT s b l) t = getT l t) := by
  intro l; induction l with
  | nil => intro t; exact ⟨fun _ _ _ h => (by cases h), fun _ => rfl⟩
  | cons x l ih =>
    intro t
    cases t with
    | zero =>
      refine ⟨fun s' b' u h => ?_, fun h => ?_⟩
      · simp only [getT] at h; subst h; rfl
      · simp only [getT] at h; cases x <;> first | rfl | exact absurd rfl (h _ _ _)
    | succ t =>
      have : getT (refT s b (x :: l)) (t + 1) = getT (refT s b l) t := by cases x <;> rfl
      rw [this]; exact ih t
theorem refF_get (s : Nat) (b : Bool) : ∀ (l : List T) (t : Nat), (∀ s' b' u, getT l t = .cnd s' b' u → getT (refF s b l) t = if s = s' ∧ b = b' then .undef else .cnd s' b' u) ∧ ((∀ s' b' u, getT l t ≠ .cnd s' b' u) → getT (refF s b l) t = getT l t) := by
  intro l; induction l with
  | nil => intro t; exact ⟨fun _ _ _ h => (by cases h), fun _ => rfl⟩
  | cons x l ih =>
    intro t
    cases t with
    | zero =>
      refine ⟨fun s' b' u h => ?_, fun h => ?_⟩
      · simp only [getT] at h; subst h; rfl
      · simp only [getT] at h; cases x <;> first | rfl | exact absurd rfl (h _ _ _)
    | succ t =>
      have : getT (refF s b (x :: l)) (t + 1) = getT (refF s b l) t := by cases x <;> rfl
      rw [this]; exact ih t

section
variable {E : Env} {B : Base} {κ : Nat} {G : Gh} {m : Mem} {p : Nat → Prop} {w : World} {tm : List T} {a : Act} {o : Oper} {call : CallT}

/-- other slots that say no less -/
theorem rel_slots {tm' : List T} (h : RelAll E B G m p w tm a) (hl : tm'.length = tm.length) (hr : ∀ i, i < tm.length → RelC G m p w a.tmps (getT tm i) (a.tmps.getD i undef) → RelC G m p w a.tmps (getT tm' i) (a.tmps.getD i undef)) :
    RelAll E B G m p w tm' a := ⟨⟨hl.trans h.tms.size, fun i hi => hr i (by omega) (h.tms.rel i (by omega))⟩, h.inv, h.fr, h.glob, h.defers, h.bx, hl.trans h.sz⟩

theorem rel_refT {s : Nat} {b : Bool} (h : RelAll E B G m p w tm a) (hs : a.tmps[s]? = some (.bool b)) : RelAll E B G m p w (setT (refT s b tm) s (.dat .bool b)) a := by
  refine rel_slots h (by rw [setT_len, refT_len]) fun i hi hr => ?_
  rw [getT_setT]
  split
  · rename_i he
    obtain ⟨rfl, _⟩ := he
    refine relC_ofT ?_
    rw [show a.tmps.getD i undef = .bool b by rw [Array.getD_eq_getD_getElem?, hs]; rfl]
    exact dat_bool
  · by_cases hc : ∃ s' b' u, getT tm i = .cnd s' b' u
    · obtain ⟨s', b', u, hc⟩ := hc
      rw [(refT_get s b tm i).1 s' b' u hc]
      rw [hc] at hr
      split
      · rename_i he
        obtain ⟨rfl, rfl⟩ := he
        exact relC_ofT (hr.1 hs)
      · exact hr
    · rw [(refT_get s b tm i).2 fun s' b' u he => hc ⟨s', b', u, he⟩]; exact hr

theorem rel_refF {s : Nat} {b : Bool} (h : RelAll E B G m p w tm a) (hs : a.tmps[s]? = some (.bool (nt b))) : RelAll E B G m p w (setT (refF s b tm) s (.dat .bool (nt b))) a := by
  refine rel_slots h (by rw [setT_len, refF_len]) fun i hi hr => ?_
  rw [getT_setT]
  split
  · rename_i he
    obtain ⟨rfl, _⟩ := he
    refine relC_ofT ?_
    rw [show a.tmps.getD i undef = .bool (nt b) by rw [Array.getD_eq_getD_getElem?, hs]; rfl]
    exact dat_bool
  · by_cases hc : ∃ s' b' u, getT tm i = .cnd s' b' u
    · obtain ⟨s', b', u, hc⟩ := hc
      rw [(refF_get s b tm i).1 s' b' u hc]
      rw [hc] at hr
      split
      · rename_i he
        obtain ⟨rfl, rfl⟩ := he
        refine relC_ofT (u := .undef) (relT_of1 (hr.2 ?_))
        rw [hs]
        intro hx
        have : nt b = b := by injection (Option.some.inj hx)
        cases b <;> cases this
      · exact hr
    · rw [(refF_get s b tm i).2 fun s' b' u he => hc ⟨s', b', u, he⟩]; exact hr

theorem iv_ref {all : List Oper} {i s d : Nat} {b c : Bool} {tm' : List T} (h : Iv all i tm) (hT : tm' = refT s b tm ∨ tm' = refF s b tm) : Iv all i (setT tm' d (.dat .bool c)) := by
  intro t s' b' u hu
  rw [getT_setT] at hu
  split at hu
  · cases hu
  · by_cases hc : ∃ s1 b1 u1, getT tm t = .cnd s1 b1 u1
    · obtain ⟨s1, b1, u1, hc⟩ := hc
      obtain ⟨n1, n2⟩ := h t s1 b1 u1 hc
      rcases hT with rfl | rfl
      · rw [(refT_get s b tm t).1 s1 b1 u1 hc] at hu
        split at hu
        · subst hu; cases n1
        · obtain ⟨rfl, rfl, rfl⟩ : s1 = s' ∧ b1 = b' ∧ u1 = u := by simpa using hu
          exact ⟨n1, n2⟩
      · rw [(refF_get s b tm t).1 s1 b1 u1 hc] at hu
        split at hu
        · cases hu
        · obtain ⟨rfl, rfl, rfl⟩ : s1 = s' ∧ b1 = b' ∧ u1 = u := by simpa using hu
          exact ⟨n1, n2⟩
    · have hc' : ∀ s1 b1 u1, getT tm t ≠ .cnd s1 b1 u1 := fun s' b' u he => hc ⟨s', b', u, he⟩
      rcases hT with rfl | rfl
      · rw [(refT_get s b tm t).2 hc'] at hu; exact absurd hu (hc' _ _ _)
      · rw [(refF_get s b tm t).2 hc'] at hu; exact absurd hu (hc' _ _ _)

theorem brs_ok {R : Type} {z : R} {ex sk : List T → Option R} {all : List Oper} {i : Nat} : ∀ (l : List (Nat × Bool)) (tm : List T), RelAll E B G m p w tm a → Iv all i tm → brs l tm ex sk = some z →
    (∃ tm', RelAll E B G m p w tm' a ∧ Iv all i tm' ∧ (∀ q ∈ l, a.tmps[q.1]? = some (.bool q.2)) ∧ ex tm' = some z) ∨
    (∃ tm' q, q ∈ l ∧ a.tmps[q.1]? ≠ some (.bool q.2) ∧ RelAll E B G m p w tm' a ∧ Iv all i tm' ∧ sk tm' = some z) := by
  intro l
  induction l with
  | nil => intro tm h hi hb; exact .inl ⟨tm, h, hi, fun q hq => by simp at hq, hb⟩
  | cons q l ih =>
    intro tm h hi hb
    obtain ⟨s, b⟩ := q
    simp only [brs] at hb
    split at hb
    · rename_i y hy
      have hs := slot_bool h hy
      by_cases hg : gd b y = true
      · obtain rfl := gd_true hg
        rw [hg] at hb
        rcases ih _ (rel_refT h hs) (iv_ref hi (.inl rfl)) hb with ⟨tm', h1, h2, h3, h4⟩ | ⟨tm', q, h1, h2⟩
        · exact .inl ⟨tm', h1, h2, fun q hq => by
            rcases List.mem_cons.1 hq with rfl | hq
            · exact hs
            · exact h3 q hq, h4⟩
        · exact .inr ⟨tm', q, by simp [h1], h2⟩
      · have hg' : gd b y = false := by simpa using hg
        have hy' : y = nt b := by
          have := gd_false hg'
          cases y <;> cases b <;> first | rfl | exact absurd rfl this
        subst hy'
        rw [hg'] at hb
        refine .inr ⟨_, (s, b), by simp, ?_, rel_refF h hs, iv_ref hi (.inr rfl), hb⟩
        rw [hs]
        intro hx
        have : nt b = b := by injection (Option.some.inj hx)
        cases b <;> cases this
    · rename_i hy
      exact .inr ⟨tm, (s, b), by simp, slot_undef h hy b, h, hi, hb⟩
    · cases hb

theorem wanted_guard {ops : Array Oper} {j s : Nat} {b : Bool} {tmps : Array Value} (hg : o.guard = some (j, b)) (hd : dstOf ops.toList j = some s) : Region.wanted o (yielded ops tmps) = true ↔ tmps[s]? = some (.bool b) := by
  have hb : (ops[j]?).bind (·.dst) = some s := by
    unfold dstOf at hd; simpa using hd
  unfold Region.wanted
  rw [hg]
  simp only [yielded, hb, Option.bind_some]
  cases tmps[s]? with
  | none => simp
  | some v => cases v <;> simp
theorem wanted_none {ops : Array Oper} {tmps : Array Value} (hg : o.guard = none) : Region.wanted o (yielded ops tmps) = true := by
  unfold Region.wanted; rw [hg]

end
end Mini

/- The operations of a region, one behind another: the theorem. -/
namespace Mini
open Go

section
variable {E : Env} {B : Base} {call : CallT}

theorem iv_dst {all : List Oper} {i : Nat} {tm : List T} {o : Oper} (hap : guarded all = true → apartD all = true) (h : Iv all i tm) (ho : all[i]? = some o) : ∀ t s b q, getT tm t = .cnd s b q → o.dst ≠ some s := by
  intro t s b q hq
  obtain ⟨_, ⟨j, x, h1, h2, h3, h4⟩, j', y, h5, h6, h7⟩ := h t s b q hq
  exact apartD_spec (hap (guarded_of h2 h4)) h5 h6 ho h7

theorem evOps_cons (E : Env) (call : CallT) (rid : Nat) (all : List Oper) {R : Type} (o : Oper) (rest : List Oper) (i : Nat) (tm : List T) (m : Mem) (K : List T → Mem → Option R) : evOps E call rid all (o :: rest) i tm m K =
    (if headP E tm o rest = true then
      run (evAt E call (keyAt rid i) tm [] m o.op) (keyAt rid i) m fun v m => (match rest with
        | o2 :: rest2 => evOps E call rid all rest2 (i + 2) (putT (putT tm o.dst v) o2.dst v) m K
        | [] => none)
    else match o.guard with
    | none => run (evAt E call (keyAt rid i) tm [] m o.op) (keyAt rid i) m fun v m => evOps E call rid all rest (i + 1) (putT tm o.dst v) m K
    | some (j, w) => match grdOf all j i with
      | none => none
      | some s => match getT tm s with
        | .undef => evOps E call rid all rest (i + 1) (putT tm o.dst .undef) m K
        | _ => match met tm (chain tm 8 s w) with
          | none => none
          | some g => match evAt E call (keyAt rid i) tm (chain tm 8 s w) m o.op with
            | .val ks v => guardB (notC v) (evOps E call rid all rest (i + 1) (putT tm o.dst (.cnd s w v)) (m.share ks) K)
            | .vpart ks τ x f => (bsel g x (some (zero τ))).bind fun y => guardB (notC (f y)) (evOps E call rid all rest (i + 1) (putT tm o.dst (.cnd s w (f y))) (m.share ks) K)
            | _ => brs (chain tm 8 s w).reverse tm
                (fun tm => run (evAt E call (keyAt rid i) tm [] m o.op) (keyAt rid i) m fun v m => evOps E call rid all rest (i + 1) (putT tm o.dst v) m K)
                (fun tm => evOps E call rid all rest (i + 1) (putT tm o.dst .undef) m K)) := by cases rest <;> rfl

theorem bsel_true {α : Sort _} (x y : α) : bsel true x y = x := rfl
theorem bsel_false {α : Sort _} (x y : α) : bsel false x y = y := rfl

theorem guardB_some {α : Type} {b : Bool} {x : Option α} {y : α} (h : guardB b x = some y) : b = true ∧ x = some y := by
  unfold guardB at h
  split at h
  · rename_i hb; exact ⟨hb, h⟩
  · cases h

theorem all_share {ks : List Nat} {G : Gh} {m : Mem} {w : World} {tm : List T} {a : Act} (h : RelAll E B G m All w tm a) : ∃ G', RelAll E B G' (m.share ks) All w tm a := by
  obtain ⟨G', h', _⟩ := share_all ks h (fun _ _ => trivial)
  exact ⟨G', h'⟩

/-- bytes that are made and converted at once -/
theorem pair_ok (hE : EnvOK E) {R : Type} {z : R} {K : T → Mem → Option R} {Q : Exit → Act → World → Prop} {κ : Nat} {G : Gh} {m : Mem} {w : World} {tm : List T} {a : Act} {o o2 : Oper} {next2 : Act → World → Prop}
    (h : RelAll E B G m All w tm a) (hp : pairB E tm o o2 = true) (hr : run (evAt E call κ tm [] m o.op) κ m K = some z)
    (hn : ∀ u m' v w' G', K u m' = some z → notC u = true → RelAll E B G' m' All w' tm a → RelT G' m' All w' u v → next2 ((a.put o.dst v).put o2.dst v) w') :
    o.guard = none ∧ o2.guard = none ∧ o.wp E.P a w (fun a1 w1 => o2.wp E.P a1 w1 next2 Q) Q := by
  unfold pairB at hp
  split at hp
  · rename_i t n parts d ta tb e ho hd hg ho2 hg2
    simp only [Bool.and_eq_true] at hp
    obtain ⟨⟨⟨⟨p1, p2⟩, p3⟩, p4⟩, p5⟩ := hp
    obtain rfl := Nat.eq_of_beq_eq_true p1
    obtain rfl := Nat.eq_of_beq_eq_true p2
    obtain rfl := Nat.eq_of_beq_eq_true p3
    have hn0 : 0 < n := by simpa [Nat.blt_eq] using p4
    split at p5
    · rename_i hty
      have hdl : e < tm.length := by simpa [Nat.blt_eq] using p5
      refine ⟨hg, hg2, ?_⟩
      rw [ho] at hr
      simp only [evAt, evOp, hty] at hr
      split at hr
      · rename_i hlim
        split at hr
        · rename_i xs hxs
          obtain ⟨u, m', hout, hk⟩ := run_out hr
          obtain ⟨rfl, hnk, hgk, hbk⟩ := hout
          have hρ : ∀ x, RelT G m All w (opdC E tm [] x) (a.eval x) := opdC_rel h (ch := []) (fun _ _ hq => by cases hq)
          obtain ⟨G1, h1, hle, hkp, _, _, _⟩ := share_all (ownsOf (partVs (ops2 (opdC E tm []) parts.toList))) h (fun _ _ => trivial)
          obtain ⟨cells, el, hu, he, f0, f1, f2, f3⟩ := buildSlice_run hE ho hty hlim hxs h1 (fun x => relT_mono hle hkp (hρ x)) (fun _ h => h)
          have hu8 := fit_int he
          obtain ⟨G', h', _, _, hv⟩ := new_sl (v := .slice (some ⟨w.heap.size, 0, none⟩) n n) (w' := (w.alloc (.cells cells el)).freeze ⟨w.heap.size, cells.size, none⟩ 1) (g := ⟨.int .u8, xs, .excl, 0⟩) h1
            ⟨by simp, .inl ⟨cells, n, n, made_freeze (Quiet.refl w) cells el, rfl, f0.symm, Nat.le_refl _, f1, f2⟩⟩ hnk hgk hbk
          have hev : (a.put o.dst (.slice (some ⟨w.heap.size, 0, none⟩) n n)).eval (.tmp e) = .slice (some ⟨w.heap.size, 0, none⟩) n n := by
            rw [hd]
            simp only [Act.eval, Act.put]
            rw [getD_set _ _ _ _ (by rw [← h.tms.size]; exact hdl), if_pos rfl]
          refine wp_runs f3 (wp_runs (v := .slice (some ⟨w.heap.size, 0, none⟩) n n) (w' := (w.alloc (.cells cells el)).freeze ⟨w.heap.size, cells.size, none⟩ 1) (runs_convert ho2 ?_) (hn _ _ _ _ G' hk rfl h' (relT_of1 ⟨trivial, _, hgk, fun _ => hv.symm⟩)))
          rw [hev]
          unfold convert
          rw [run_bindM (run_underlying hu)]
          rw [run_bindM (run_underlying hu)]
          simp only
          rw [run_bindM (run_underlying hu8)]
          simp only [beq_self_eq_true]
          refine (run_bindM (x := ()) (w1 := (w.alloc (.cells cells el)).freeze ⟨w.heap.size, cells.size, none⟩ 1) ?_).trans rfl
          unfold markStringish
          have hsh : (shape w.heap.size).run E.P (w.alloc (.cells cells el)) = .ok (some (el, cells.size)) (w.alloc (.cells cells el)) := by
            show Result.ok ((w.alloc (.cells cells el)).shape? w.heap.size) _ = _
            congr 1
            unfold World.shape?
            show (match (w.heap.push (.cells cells el))[w.heap.size]? with
              | some (.cells c elem _) => some (elem, c.size)
              | _ => none) = _
            simp
          exact (run_bindM hsh).trans rfl
        · cases hr
      · cases hr
    · cases p5
  · cases hp

theorem evOps_ok' (hE : EnvOK E) (hC : CallsOK E call) {R : Type} {z : R} {K : List T → Mem → Option R} {Q : Exit → Act → World → Prop} {ops : Array Oper} {rid : Nat}
    (hap : guarded ops.toList = true → apartD ops.toList = true)
    (hK : ∀ G m w tm a, RelAll E B G m All w tm a → Iv ops.toList ops.toList.length tm → K tm m = some z → Q .normal a w) :
    ∀ (n : Nat) (l : List Oper), l.length ≤ n → ∀ (i : Nat), ops.toList.drop i = l → ∀ G m w tm a, RelAll E B G m All w tm a → Iv ops.toList i tm → evOps E call rid ops.toList l i tm m K = some z → wpOps E.P ops Q (List.range' i l.length) a w := by
  have hnil : ∀ (i : Nat), ops.toList.drop i = [] → ∀ G m w tm a, RelAll E B G m All w tm a → Iv ops.toList i tm → evOps E call rid ops.toList [] i tm m K = some z → wpOps E.P ops Q (List.range' i ([] : List Oper).length) a w := by
    intro i hl G m w tm a h hi he
    have hlen : ops.toList.length ≤ i := by
      have := congrArg List.length hl
      simp only [List.length_drop, List.length_nil] at this; omega
    simp only [List.length_nil, List.range'_zero, wpOps]
    refine hK G m w tm a h (fun t s b u hq => ?_) he
    obtain ⟨h1, ⟨j, o, h2, h3, h4⟩, j', o', h5, h6, h7⟩ := hi t s b u hq
    have hj := (List.getElem?_eq_some_iff.1 h3).1
    have hj' := (List.getElem?_eq_some_iff.1 h6).1
    exact ⟨h1, ⟨j, o, hj, h3, h4⟩, j', o', hj', h6, h7⟩
  intro n
  induction n with
  | zero =>
    intro l hn i hl G m w tm a h hi he
    obtain rfl := List.length_eq_zero_iff.1 (Nat.le_zero.1 hn)
    exact hnil i hl G m w tm a h hi he
  | succ n ih' =>
    intro l hn i hl G m w tm a h hi he
    cases l with
    | nil => exact hnil i hl G m w tm a h hi he
    | cons o rest =>
    have ih := ih' rest (by simpa using hn)
    have ho : ops.toList[i]? = some o := by
      have := congrArg (fun l => l[0]?) hl
      simpa using this
    have hoA : ops[i]? = some o := by simpa using ho
    have hrest : ops.toList.drop (i + 1) = rest := by
      have := congrArg List.tail hl
      simpa using this
    have hdst := iv_dst hap hi ho
    -- the operation is executed
    have exec : ∀ (tm' : List T) (ch : List (Nat × Bool)) (K' : T → Mem → Option R), RelAll E B G m All w tm' a → Iv ops.toList i tm' → (∀ s b, (s, b) ∈ ch → a.tmps[s]? = some (.bool b)) →
        run (evAt E call (keyAt rid i) tm' ch m o.op) (keyAt rid i) m K' = some z →
        (∀ u m', K' u m' = some z → evOps E call rid ops.toList rest (i + 1) (putT tm' o.dst u) m' K = some z) →
        o.wp E.P a w (wpOps E.P ops Q (List.range' (i + 1) rest.length)) Q := by
      intro tm' ch K' h' hi' hch hr hK'
      obtain ⟨u, m', hout, hk⟩ := run_out hr
      refine evAt_ok hE hC h' hch u m' All hout _ Q fun v w' G' h2 hrel => ?_
      exact ih (i + 1) hrest G' m' w' _ _ (rel_put h2 (fun _ _ => relC_ofT hrel) (iv_dst hap hi' ho)) (iv_put hi' (relT_notC hrel)) (hK' u m' hk)
    rw [List.length_cons, List.range'_succ]
    simp only [wpOps, hoA]
    rw [evOps_cons] at he
    by_cases hpair : headP E tm o rest = true
    · rw [if_pos hpair] at he
      cases rest with
      | nil => cases hpair
      | cons o2 rest2 =>
        have ho2 : ops.toList[i + 1]? = some o2 := by
          have := congrArg (fun l => l[0]?) hrest
          simpa using this
        have hoA2 : ops[i + 1]? = some o2 := by simpa using ho2
        have hrest2 : ops.toList.drop (i + 2) = rest2 := by
          have := congrArg List.tail hrest
          simpa using this
        obtain ⟨hg1, hg2, hwp⟩ := pair_ok (Q := Q) (next2 := wpOps E.P ops Q (List.range' (i + 2) rest2.length)) hE h hpair he (fun u m' v w' G' hk hnc h' hrel => by
          have i1 := iv_put (d := o.dst) hi hnc
          have h1 := rel_put h' (fun _ _ => relC_ofT hrel) hdst
          have h2 := rel_put h1 (fun _ _ => relC_ofT hrel) (iv_dst hap i1 ho2)
          exact ih' rest2 (by simp at hn; omega) (i + 2) hrest2 G' m' w' _ _ h2 (iv_put i1 hnc) hk)
        rw [if_pos (wanted_none hg1)]
        refine .inl (Oper.wp_mono (fun a1 w1 hq => ?_) hwp)
        rw [List.length_cons, List.range'_succ]
        simp only [wpOps, hoA2]
        rw [if_pos (wanted_none hg2)]
        exact .inl hq
    rw [if_neg hpair] at he
    cases hg : o.guard with
    | none =>
      rw [hg] at he
      simp only at he
      rw [if_pos (wanted_none hg)]
      exact .inl (exec tm [] _ h hi (fun _ _ hq => by cases hq) he (fun u m' hk => hk))
    | some jb =>
      obtain ⟨j, b⟩ := jb
      rw [hg] at he
      simp only at he
      -- the operation is not executed
      have skip : ∀ (u : T) (tm' : List T) (ks : List Nat), RelAll E B G m All w tm' a → Iv ops.toList i tm' → (∀ G' (tmps : Array Value), (∀ s, o.dst ≠ some s → tmps[s]? = a.tmps[s]?) → RelC G' (m.share ks) All w tmps u undef) → Iv ops.toList (i + 1) (putT tm' o.dst u) →
          evOps E call rid ops.toList rest (i + 1) (putT tm' o.dst u) (m.share ks) K = some z → wpOps E.P ops Q (List.range' (i + 1) rest.length) (a.put o.dst undef) w := by
        intro u tm' ks h' hi' hr hiv hk
        obtain ⟨G', h2⟩ := all_share (ks := ks) h'
        exact ih (i + 1) hrest G' _ w _ _ (rel_put h2 (hr G') (iv_dst hap hi' ho)) hiv hk
      cases hgo : grdOf ops.toList j i with
      | none => rw [hgo] at he; cases he
      | some s =>
        rw [hgo] at he
        simp only at he
        obtain ⟨hji, hds⟩ : j < i ∧ dstOf ops.toList j = some s := by
          unfold grdOf at hgo
          split at hgo
          · rename_i hji; exact ⟨hji, hgo⟩
          · cases hgo
        obtain ⟨oj, hoj, hdj⟩ : ∃ oj, ops.toList[j]? = some oj ∧ oj.dst = some s := by
          unfold dstOf at hds
          cases hx : ops.toList[j]? with
          | none => rw [hx] at hds; cases hds
          | some oj => rw [hx] at hds; exact ⟨oj, rfl, hds⟩
        have hw : ∀ tmps, Region.wanted o (yielded ops tmps) = true ↔ tmps[s]? = some (.bool b) := fun tmps => wanted_guard hg hds
        have hds' : o.dst ≠ some s := apartD_spec (hap (guarded_of ho (by rw [hg]; rfl))) hji hoj ho hdj
        split at he
        · rename_i hu
          rw [if_neg (by rw [hw]; exact slot_undef h hu b)]
          exact skip .undef tm [] h hi (fun _ _ _ => (rfl : undef = undef)) (iv_put hi rfl) he
        · split at he
          · cases he
          · rename_i g hmet
            obtain ⟨m1, m2⟩ := met_ok h 8 s b g hmet
            obtain ⟨l0, hl0⟩ := chain_head (tm := tm) 8 s b
            have hhead : (s, b) ∈ chain tm 8 s b := by rw [hl0]; simp
            have cond : ∀ (ks : List Nat) (x : Option T), (g = true → ∃ u, x = some u ∧ Out (evAt E call (keyAt rid i) tm (chain tm 8 s b) m o.op) (keyAt rid i) m All u (m.share ks) All) →
                (x.bind fun u => guardB (notC u) (evOps E call rid ops.toList rest (i + 1) (putT tm o.dst (.cnd s b u)) (m.share ks) K)) = some z →
                (if Region.wanted o (yielded ops a.tmps) = true then o.wp E.P a w (wpOps E.P ops Q (List.range' (i + 1) rest.length)) Q ∨ o.asks E.P a w ∧ LetsOut Q else wpOps E.P ops Q (List.range' (i + 1) rest.length) (a.put o.dst undef) w) := by
              intro ks x hx hb
              cases x with
              | none => cases hb
              | some u =>
                obtain ⟨hnc, hb⟩ := guardB_some hb
                have hiv := iv_putC (o := o) (s := s) (b := b) hi hnc ho (by rw [hg]; rfl) hji hoj hdj
                cases hgv : g with
                | true =>
                  have hall := m1 hgv
                  rw [if_pos ((hw _).2 (hall _ hhead))]
                  left
                  obtain ⟨u', hu', hout⟩ := hx hgv
                  obtain rfl := Option.some.inj hu'
                  refine evAt_ok hE hC h (fun s b hq => hall (s, b) hq) u _ All hout _ Q fun v w' G' h2 hrel => ?_
                  refine ih (i + 1) hrest G' _ w' _ _ (rel_put h2 (fun tmps hs => ?_) hdst) hiv hb
                  exact ⟨fun _ => hrel, fun hn => absurd ((hs s hds').trans (hall _ hhead)) hn⟩
                | false =>
                  have hn := m2 hgv
                  rw [if_neg (by rw [hw]; exact hn)]
                  refine skip (.cnd s b u) tm ks h hi (fun G' tmps hs => ⟨fun hp => ?_, fun _ => rfl⟩) hiv hb
                  rw [hs s hds'] at hp
                  exact absurd hp hn
            split at he
            · rename_i ks v hev
              exact cond ks (some v) (fun _ => ⟨v, rfl, by rw [hev]; exact ⟨rfl, rfl, rfl⟩⟩) he
            · rename_i ks τ x f hev
              refine cond ks ((bsel g x (some (zero τ))).map f) (fun hgt => ?_) ?_
              · rw [hgt, bsel_true] at he ⊢
                cases x with
                | none => cases he
                | some y => exact ⟨f y, rfl, by rw [hev]; exact ⟨y, rfl, rfl, rfl, rfl⟩⟩
              · generalize bsel g x (some (zero τ)) = x' at he ⊢
                cases x' with
                | none => cases he
                | some y => exact he
            · rcases brs_ok _ tm h hi he with ⟨tm', h1, h2, h3, h4⟩ | ⟨tm', q, h1, h2, h3, h4, h5⟩
              · rw [if_pos ((hw _).2 (h3 _ (by simpa using hhead)))]
                exact .inl (exec tm' [] _ h1 h2 (fun _ _ hq => by cases hq) h4 (fun u m' hk => hk))
              · rw [if_neg (by rw [hw]; exact chain_down h 8 s b q (by simpa using h1) h2)]
                exact skip .undef tm' [] h3 h4 (fun _ _ _ => (rfl : undef = undef)) (iv_put h4 rfl) h5

theorem evOps_ok (hE : EnvOK E) (hC : CallsOK E call) {R : Type} {z : R} {K : List T → Mem → Option R} {Q : Exit → Act → World → Prop} {ops : Array Oper} {rid : Nat}
    (hap : guarded ops.toList = true → apartD ops.toList = true)
    (hK : ∀ G m w tm a, RelAll E B G m All w tm a → Iv ops.toList ops.toList.length tm → K tm m = some z → Q .normal a w) (l : List Oper) (i : Nat) (hl : ops.toList.drop i = l) (G : Gh) (m : Mem) (w : World) (tm : List T) (a : Act) (h : RelAll E B G m All w tm a) (hi : Iv ops.toList i tm) (he : evOps E call rid ops.toList l i tm m K = some z) : wpOps E.P ops Q (List.range' i l.length) a w :=
  evOps_ok' hE hC hap hK l.length l (Nat.le_refl _) i hl G m w tm a h hi he

end
end Mini

/- A region as a whole; a piece of code. -/
namespace Mini
open Go

def NoC (tm : List T) : Prop := ∀ t s b u, getT tm t ≠ .cnd s b u

theorem getT_put (tm : List T) (d : Option Nat) (u : T) (t : Nat) : getT (putT tm d u) t = getT tm t ∨ (d = some t ∧ getT (putT tm d u) t = u) := by
  cases d with
  | none => exact .inl rfl
  | some d =>
    simp only [putT, getT_setT]
    split
    · rename_i h; exact .inr ⟨by rw [h.1], rfl⟩
    · exact .inl rfl

theorem clearG_get : ∀ (l : List Oper) (tm : List T) (t : Nat), (getT (clearG l tm) t = getT tm t ∨ getT (clearG l tm) t = .unk) ∧ ((∃ o ∈ l, o.guard.isSome = true ∧ o.dst = some t) → getT (clearG l tm) t = .unk) ∧ (clearG l tm).length = tm.length := by
  intro l
  induction l with
  | nil => intro tm t; exact ⟨.inl rfl, fun ⟨o, ho, _⟩ => by simp at ho, rfl⟩
  | cons x l ih =>
    intro tm t
    simp only [clearG]
    obtain ⟨i1, i2, i3⟩ := ih (if x.guard.isSome = true then putT tm x.dst .unk else tm) t
    have hlen : ∀ d : Option Nat, (putT tm d .unk).length = tm.length := by intro d; cases d <;> simp [putT, setT_len]
    refine ⟨?_, ?_, ?_⟩
    · rcases i1 with h | h
      · rw [h]
        split
        · rcases getT_put tm x.dst .unk t with h | ⟨_, h⟩
          · exact .inl h
          · exact .inr h
        · exact .inl rfl
      · exact .inr h
    · rintro ⟨o, ho, hg, hd⟩
      rcases List.mem_cons.1 ho with rfl | ho
      · have : getT (putT tm o.dst .unk) t = .unk := by
          rw [hd]; simp only [putT, getT_setT]
          split
          · rfl
          · rename_i hh; exact getT_ge tm t (Nat.le_of_not_lt fun hl => hh ⟨trivial, hl⟩)
        rw [if_pos hg] at i1 ⊢
        rcases i1 with h | h
        · exact h.trans this
        · exact h
      · exact i2 ⟨o, ho, hg, hd⟩
    · rw [i3]; split
      · exact hlen _
      · rfl

section
variable {E : Env} {B : Base} {call : CallT}

theorem rel_clear {G : Gh} {m : Mem} {p : Nat → Prop} {w : World} {tm : List T} {a : Act} {all : List Oper} (h : RelAll E B G m p w tm a) (hi : Iv all all.length tm) : RelAll E B G m p w (clearG all tm) a ∧ NoC (clearG all tm) := by
  refine ⟨rel_slots h (clearG_get all tm 0).2.2 fun i hi hr => ?_, fun t s b u hc => ?_⟩
  · rcases (clearG_get all tm i).1 with e | e
    · rw [e]; exact hr
    · rw [e]; trivial
  · rcases (clearG_get all tm t).1 with e | e
    · rw [e] at hc
      obtain ⟨_, ⟨j, o, _, h2, h3, h4⟩, _⟩ := hi t s b u hc
      have := (clearG_get all tm t).2.1 ⟨o, List.mem_of_getElem? h2, h4, h3⟩
      rw [e, hc] at this; cases this
    · rw [e] at hc; cases hc

theorem iv_of_noC {all : List Oper} {i : Nat} {tm : List T} (h : NoC tm) : Iv all i tm := fun t s b u hc => absurd hc (h t s b u)
theorem noC_of_iv {all : List Oper} {i : Nat} {tm : List T} (h : Iv all i tm) (hg : guarded all = false) : NoC tm := fun t s b u hc => by
  obtain ⟨_, ⟨j, o, _, h2, _, h4⟩, _⟩ := h t s b u hc
  rw [guarded_of h2 h4] at hg; cases hg

/-- regions that draw the order of their operations -/
def DrawOK (E : Env) (B : Base) (call : CallT) : Prop :=
  ∀ {R : Type} (z : R) (K : List T → Mem → Option R) (Q : Exit → Act → World → Prop) (ops : Array Oper) (rid : Nat) (G : Gh) (m : Mem) (w : World) (tm : List T) (a : Act),
    (∀ G m w tm a, RelAll E B G m All w tm a → NoC tm → K tm m = some z → Q .normal a w) → RelAll E B G m All w tm a → NoC tm → evReg E call rid ops true tm m K = some z → (Code.region rid ops true).wp E.P Q a w

theorem evReg_ok (hE : EnvOK E) (hC : CallsOK E call) (hD : DrawOK E B call) {R : Type} {z : R} {K : List T → Mem → Option R} {Q : Exit → Act → World → Prop} {ops : Array Oper} {rid : Nat} {draw : Bool} {G : Gh} {m : Mem} {w : World} {tm : List T} {a : Act}
    (hK : ∀ G m w tm a, RelAll E B G m All w tm a → NoC tm → K tm m = some z → Q .normal a w) (h : RelAll E B G m All w tm a) (hn : NoC tm) (he : evReg E call rid ops draw tm m K = some z) : (Code.region rid ops draw).wp E.P Q a w := by
  cases draw with
  | true => exact hD z K Q ops rid G m w tm a hK h hn he
  | false =>
    simp only [evReg, Bool.false_eq_true, if_false] at he
    refine wp_region ?_
    rw [List.range_eq_range', ← Array.length_toList]
    split at he
    · rename_i hg
      split at he
      · rename_i hap
        exact evOps_ok hE hC (fun _ => hap) (fun G m w tm a h hi hk => hK G m w _ a (rel_clear h hi).1 (rel_clear h hi).2 hk) ops.toList 0 rfl G m w tm a h (iv_of_noC hn) he
      · cases he
    · rename_i hg
      have hg : guarded ops.toList = false := by simpa using hg
      exact evOps_ok hE hC (fun h => by rw [hg] at h; cases h) (fun G m w tm a h hi hk => hK G m w tm a h (noC_of_iv hi hg) hk) ops.toList 0 rfl G m w tm a h (iv_of_noC hn) he

/-! ### pieces of code -/

/-- the machine comes to an end that Q tells of -/
def Fin (P : Program) (Q : Exit → Act → World → Prop) (b : Go.Frame) (k0 : List Item) (cs : List Go.Frame) (mm : Machine) : Prop :=
  ∃ e a w, Q e a w ∧ Arrives P mm b k0 cs e a w

theorem Fin.of_steps {P : Program} {Q : Exit → Act → World → Prop} {b : Go.Frame} {k0 : List Item} {cs : List Go.Frame} {mm mm' : Machine} (h : Steps P mm mm') (h' : Fin P Q b k0 cs mm') : Fin P Q b k0 cs mm := by
  obtain ⟨e, a, w, hq, har⟩ := h'
  exact ⟨e, a, w, hq, .of_steps h har⟩

/-- where a cut stands -/
def findK (r : Nat) : Code → List Item → Option (List Item)
  | .seq a b, k => if ahead b = some r then some (.code b :: k) else match findK r a (.code b :: k) with
    | some s => some s
    | none => findK r b k
  | .cond _ a b, k => match findK r a k with
    | some s => some s
    | none => findK r b k
  | .block id c, k => findK r c (.inBlock id :: k)
  | .loop c, k => if headOf c = some r then some (.code c :: .inLoop c :: k) else findK r c (.inLoop c :: k)
  | _, _ => none

theorem distinct_spec : ∀ {l m : List Nat}, distinct (l ++ m) = true → distinct l = true ∧ distinct m = true ∧ ∀ x, x ∈ l → x ∈ m → False := by
  intro l; induction l with
  | nil => intro m h; exact ⟨rfl, h, fun x hx => by simp at hx⟩
  | cons y l ih =>
    intro m h
    simp only [List.cons_append, distinct, Bool.and_eq_true, Bool.not_eq_true'] at h
    obtain ⟨h1, h2, h3⟩ := ih h.2
    have hy : y ∉ l ++ m := by simpa using h.1
    refine ⟨?_, h2, fun x hx hm => ?_⟩
    · simp only [distinct, Bool.and_eq_true, Bool.not_eq_true']
      exact ⟨by simpa using fun hl => hy (List.mem_append_left _ hl), h1⟩
    · rcases List.mem_cons.1 hx with rfl | hx
      · exact hy (List.mem_append_right _ hm)
      · exact h3 x hx hm

theorem idL_mem {C : Nat → Option Shape} {o : Option Nat} {r : Nat} (h : o = some r) (hC : (C r).isSome = true) : r ∈ idL C o := by
  subst h
  simp only [idL]
  split
  · simp
  · rename_i e; rw [e] at hC; cases hC

theorem findK_mem {C : Nat → Option Shape} {r : Nat} (hC : (C r).isSome = true) : ∀ (c : Code) (k s : List Item), findK r c k = some s → r ∈ cutIds C c := by
  intro c
  induction c with
  | seq a b iha ihb =>
    intro k s h
    simp only [findK] at h
    simp only [cutIds, List.mem_append]
    split at h
    · rename_i he; exact .inl (idL_mem he hC)
    · split at h
      · rename_i hs; exact .inr (.inl (iha _ _ hs))
      · exact .inr (.inr (ihb _ _ h))
  | cond o a b iha ihb =>
    intro k s h
    simp only [findK] at h
    simp only [cutIds, List.mem_append]
    split at h
    · rename_i hs; exact .inl (iha _ _ hs)
    · exact .inr (ihb _ _ h)
  | block id c ih => intro k s h; exact ih _ _ h
  | loop c ih =>
    intro k s h
    simp only [findK] at h
    simp only [cutIds, List.mem_append]
    split at h
    · rename_i he; exact .inl (idL_mem he hC)
    · exact .inr (ih _ _ h)
  | _ => intro k s h; simp [findK] at h

end
end Mini
