/- An evaluator of plain data over the form of a program, and its soundness. -/
import Derived.Test.YtapjdlcdgnochaaGreatDoorMa4
set_option linter.unusedSectionVars false
set_option linter.unusedSimpArgs false
set_option linter.unusedVariables false

/- What functions come to: the induction on the number of steps. -/
namespace Mini
open Go

theorem preLens_spec : ∀ {a b : List (List Kind)}, preLens a b = true → a.length ≤ b.length ∧ ∀ j (h1 : j < a.length) (h2 : j < b.length), b[j].length = a[j].length := by
  intro a
  induction a with
  | nil => intro b _; exact ⟨Nat.zero_le _, fun j h1 => by simp at h1⟩
  | cons x a ih =>
    intro b h
    cases b with
    | nil => cases h
    | cons y b =>
      simp only [preLens, Bool.and_eq_true] at h
      obtain ⟨i1, i2⟩ := ih h.2
      refine ⟨by simp; omega, fun j h1 h2 => ?_⟩
      cases j with
      | zero => exact (Nat.eq_of_beq_eq_true h.1).symm
      | succ j => exact i2 j (by simpa using h1) (by simpa using h2)

/-- the end of a function, in terms of its beginning -/
def EndR (E : Env) (B : Base) (s : Sig) (z : El s.out.ty) : Ending → World → Prop :=
  fun e w' => ∃ vs G', e = .returned (resV vs) ∧ Done E B.w B.ow B.bx B.n B.len s.out z G' vs w'

structure BaseOK (B : Base) (s : Sig) (fn : Func) : Prop where
  n : B.n = s.ent.boxes.length
  len : ∀ j, B.len j = lenB s.ent j
  N : B.N = fn.ntmps

theorem pre_of {B : Base} {s : Sig} {fn : Func} {sh : Shape} (hB : BaseOK B s fn) (h : preLens s.ent.boxes sh.boxes = true) : Pre B sh := by
  intro j hj
  rw [hB.n] at hj
  obtain ⟨h1, h2⟩ := preLens_spec h
  have hj2 : j < sh.boxes.length := Nat.lt_of_lt_of_le hj h1
  refine ⟨sh.boxes[j], List.getElem?_eq_getElem hj2, ?_⟩
  rw [h2 j hj hj2, hB.len]
  simp [lenB, List.getD_eq_getElem?_getD, hj]

theorem castO_same {a : Ty} (h : a = a) (x : Option (El a)) : sem.castO h x = x := rfl

theorem eq?_self : ∀ t : Ty, ∃ h, Ty.eq? t t = some ⟨h⟩ := by
  intro t
  induction t with
  | int k => exact ⟨rfl, by simp [Ty.eq?]⟩
  | bool => exact ⟨rfl, rfl⟩
  | str => exact ⟨rfl, rfl⟩
  | err => exact ⟨rfl, rfl⟩
  | unit => exact ⟨rfl, rfl⟩
  | sl t ih => obtain ⟨h, e⟩ := ih; exact ⟨rfl, by simp only [Ty.eq?, e]⟩
  | pair a b iha ihb => obtain ⟨h, e⟩ := iha; obtain ⟨h', e'⟩ := ihb; exact ⟨rfl, by simp only [Ty.eq?, e, e']⟩
  | arr n t ih => obtain ⟨h, e⟩ := ih; exact ⟨rfl, by simp only [Ty.eq?, e]; simp⟩

theorem unkN_get : ∀ (n i : Nat), i < n → getT (unkN n) i = .undef := by
  intro n
  induction n with
  | zero => intro i h; omega
  | succ n ih => intro i h; cases i with
    | zero => rfl
    | succ i => exact ih i (by omega)
theorem unkN_len : ∀ n, (unkN n).length = n := by
  intro n; induction n with
  | zero => rfl
  | succ n ih => simp [unkN, ih]
theorem unkN_noC (n : Nat) : NoC (unkN n) := fun t s b u hc => by
  by_cases h : t < n
  · rw [unkN_get n t h] at hc; cases hc
  · rw [getT_ge _ _ (by rw [unkN_len]; omega)] at hc; cases hc

section
variable {E : Env} {B : Base}

theorem results_run {fn : Func} {tmps : Array Value} {w : World} {vs : List Value} (h : (fn.results.toList.mapM (resOf tmps)).run E.P w = .ok vs w) : (results fn tmps).run E.P w = .ok (resV vs) w := by
  have e : results fn tmps = (fn.results.mapM (resOf tmps) >>= fun vs => pure (if h : vs.size = 1 then vs[0] else Value.tuple vs)) := by
    unfold results
    congr 2
  rw [e, Array.mapM_eq_mapM_toList]
  rw [run_bindM (x := vs.toArray) (w1 := w) (by rw [map_eq_pure_bind, run_bindM h]; rfl)]
  match vs with
  | [] => rfl
  | [v] => rfl
  | v1 :: v2 :: vs =>
    show Result.ok (if h : (v1 :: v2 :: vs).toArray.size = 1 then _ else Value.tuple (v1 :: v2 :: vs).toArray) w = _
    rw [dif_neg (by simp)]
    rfl

theorem end_ok (hE : EnvOK E) {s : Sig} {fn : Func} {e : Ex} {tm : List T} {m : Mem} {z : El s.out.ty} {G : Gh} {w : World} {a : Act} (hB : BaseOK B s fn) (hfit : preLens s.ent.boxes s.out.boxes = true)
    (h : RelAll E B G m All w tm a) (hn : NoC tm) (he : endK E s fn e tm m = some z) : a.defers = [] ∧ ∃ v, (results fn a.tmps).run E.P w = .ok v w ∧ EndR E B s z (.returned v) w := by
  refine ⟨h.defers, ?_⟩
  have he : (match resTs E fn tm m with
    | some r => guardB (Nat.beq r.1.length s.out.tmps.length) (pack s.ent.boxes.length r.2 s.out r.1)
    | none => none) = some z := by
    cases e with
    | exit i => cases he
    | normal => exact he
    | ret => exact he
  split at he
  · rename_i r hr
    obtain ⟨us, m'⟩ := r
    obtain ⟨hg, hp⟩ := guardB_some he
    have hul : us.length = s.out.tmps.length := Nat.eq_of_beq_eq_true hg
    obtain ⟨N, G', vs, a', i1, i2, i3, i4, i5, i6⟩ := res_list hE (tmps := a.tmps) h.tms.size fn.results.toList B G m us m' [] a (by simpa using hn) (fun _ _ => rfl) (by simpa using h) hr
    rw [List.append_nil] at i1 i2
    obtain ⟨F, hF, hga⟩ := pack_some hp
    have hle := (preLens_spec hfit).1
    obtain ⟨hs, hbl, hbm⟩ := scan_bm hle hF
    obtain ⟨G1, h1, hle1, hk1, _⟩ := share_all (shares m' s.out us F) i1 (fun _ _ => trivial)
    have hrr : ∀ q, q < s.out.tmps.length → RelT G1 (m'.share (shares m' s.out us F)) All w (getT us q) (vs.getD q undef) := by
      intro q hq
      have hq' : q < us.length := by rw [hul]; exact hq
      have := slot_rel h1 i2 (t := tm.length + q) (by simp; exact hq')
      rw [getT_append, if_neg (by omega), Nat.add_sub_cancel_left] at this
      have e6 := i6 q hq'
      simp only [List.length_nil, Nat.add_zero] at e6
      rw [e6] at this
      exact this
    obtain ⟨j1, j2, j3, j4⟩ := laid_ok (vals := fun q => vs.getD q undef) hs hbl h1 hga hrr (fun _ _ => trivial) (.inr fun _ => trivial)
    refine ⟨resV vs, results_run i3, vs, trG G1 m' s.out us F, rfl, j1, frame_tr h1.fr, glob_mono trKeeps h1.glob, by rw [← i4, hul], j3, fun j hj => ?_⟩
    obtain ⟨_, b2, _⟩ := h1.bx j hj
    rw [hB.n] at hj
    have hjo : j < s.out.boxes.length := Nat.lt_of_lt_of_le hj hle
    obtain ⟨cs, c1, c2⟩ := j4 j hjo
    refine ⟨?_, cs, c1, ?_⟩
    · rw [← b2]; simp only [trG, trBx, hbm j hj, Nat.add_zero]
    · rw [c2, (preLens_spec hfit).2 j hj hjo, hB.len]; simp [lenB, List.getD_eq_getElem?_getD, hj]
  · cases he

theorem kok_end (hE : EnvOK E) {s : Sig} {fn : Func} {z : El s.out.ty} (hB : BaseOK B s fn) (hfit : preLens s.ent.boxes s.out.boxes = true) (b : Go.Frame) (k0 : List Item) (cs : List Go.Frame) :
    KOK E B (endK E s fn) z (bodyPost E.P fn (EndR E B s z)) b k0 cs k0 := by
  refine ⟨fun G m w tm a h hn he => ?_, fun id G m w tm a h hn he => (by cases he), fun G m w tm a h hn he => ?_⟩
  · exact ⟨.normal, a, w, end_ok hE hB hfit h hn he, Steps.refl _ _⟩
  · exact end_ok hE hB hfit h hn he

/-- ready functions do what is said of them -/
def ExtOK (E : Env) : Prop := ∀ i s f x z, E.sig i = some s → s.ext = some f → f x = some z → Meets E s x z

/-- what is known of going on from a cut, with so many steps -/
def JC (E : Env) (k : Nat) : Prop :=
  ∀ i s fn c r sh (y : El sh.ty) (z : El s.out.ty), E.sig i = some s → E.P.funcs[s.fn]? = some fn → fn.body = some c → s.cuts r = some sh → sem E k i (some r) sh.ty s.out.ty y = some z →
    ∀ (B : Base) (b : Go.Frame) (k0 : List Item) (cs : List Go.Frame) pos, BaseOK B s fn → findK r c k0 = some pos →
      Pre B sh ∧ ∀ G w a, RelAll E B G (unpack sh y).m All w ((unpack sh y).tm ++ padN (B.N - sh.tmps.length)) a → NoC ((unpack sh y).tm ++ padN (B.N - sh.tmps.length)) →
        Fin E.P (bodyPost E.P fn (EndR E B s z)) b k0 cs (lone (b.at a pos) cs w)

theorem sem_ok (hE : EnvOK E) (hI : InstOK E) (hX : ExtOK E) (hD : ∀ B call, CallsOK E call → DrawOK E B call) : ∀ k, (∀ i s (x : El s.ent.ty) (z : El s.out.ty), E.sig i = some s → sem E k i none s.ent.ty s.out.ty x = some z → Meets E s x z) ∧ JC E k := by
  intro k
  induction k with
  | zero =>
    refine ⟨fun i s x z _ h => (by cases h), ?_⟩
    intro i s fn c r sh y z _ _ _ _ h
    cases h
  | succ k ih =>
    obtain ⟨ih1, ih2⟩ := ih
    have hC : CallsOK E (fun i a b x => sem E k i none a b x) := calls_ok hI ih1
    have hJ : ∀ (B : Base) (i : Nat) (s : Sig) (fn : Func) (c : Code) (z : El s.out.ty) (b : Go.Frame) (k0 : List Item) (cs : List Go.Frame), E.sig i = some s → E.P.funcs[s.fn]? = some fn → fn.body = some c → BaseOK B s fn →
        JOK E B s.cuts (fun r t y => sem E k i (some r) t s.out.ty y) z (bodyPost E.P fn (EndR E B s z)) b k0 cs c := by
      intro B i s fn c z b k0 cs hs hfn hc hB r sh y pos hr hpos hy
      exact ih2 i s fn c r sh y z hs hfn hc hr hy B b k0 cs pos hB hpos
    constructor
    · intro i s x z hs h
      simp only [sem, hs] at h
      obtain ⟨hb, eb⟩ := eq?_self s.out.ty
      obtain ⟨ha, ea⟩ := eq?_self s.ent.ty
      rw [eb] at h
      simp only at h
      split at h
      · rename_i f hext _
        rw [ea] at h
        have h : (f x).map (castE hb) = some z := h
        cases hf : f x with
        | none => rw [hf] at h; cases h
        | some z' =>
          rw [hf] at h
          obtain rfl := Option.some.inj h
          exact hX i s f x z' hs hext hf
      · cases h
      · rename_i hext
        split at h
        · cases h
        · rename_i fn hfn
          split at h
          · cases h
          · rename_i c hc
            rw [ea] at h
            have h : runI E (fun i a b x => sem E k i none a b x) s (fun r t y => sem E k i (some r) t s.out.ty y) fn c x = some z := h
            unfold runI at h
            obtain ⟨hfit, h⟩ := guardB_some h
            simp only [fits, Bool.and_eq_true] at hfit
            obtain ⟨⟨⟨f1, f2⟩, f3⟩, f4⟩ := hfit
            have f1 : s.ent.tmps.length ≤ fn.ntmps := Nat.le_of_ble_eq_true f1
            intro G w args hsz hinv hrel hbx hglob
            let B : Base := { w := w, ow := G.ow, n := s.ent.boxes.length, bx := G.bx, len := lenB s.ent, N := fn.ntmps }
            have hB : BaseOK B s fn := ⟨rfl, fun _ => rfl, rfl⟩
            refine calls_of_wp hfn hc ?_
            intro b k0 cs
            have hul : (unpack s.ent x).tm.length = s.ent.tmps.length := (lay_shift s.ent x 0 0 [] []).1
            have hnoc : NoC ((unpack s.ent x).tm ++ unkN (fn.ntmps - s.ent.tmps.length)) := by
              refine noC_app (fun t s' b' u hcc => ?_) (unkN_noC _)
              by_cases ht : t < s.ent.tmps.length
              · have := hrel t ht; rw [hcc] at this; exact this
              · rw [getT_ge _ _ (by rw [hul]; omega)] at hcc; cases hcc
            have hR : RelAll E B G (unpack s.ent x).m All w ((unpack s.ent x).tm ++ unkN (fn.ntmps - s.ent.tmps.length)) { tmps := args ++ Array.replicate (fn.ntmps - args.size) undef, defers := [] } := by
              refine ⟨⟨by simp [hul, unkN_len, hsz], fun i hi => ?_⟩, hinv, ⟨rfl, rfl, rfl, Nat.le_refl _, fun _ _ _ _ => ⟨rfl, rfl⟩, fun _ _ _ => rfl, fun _ _ _ h => h, fun _ _ h => h, fun _ _ _ h => h⟩, hglob, rfl, fun j hj => ?_, ?_⟩
              · rw [getT_append, hul]
                have e0 : (args ++ Array.replicate (fn.ntmps - args.size) undef).getD i undef = if i < args.size then args.getD i undef else undef := by
                  simp only [Array.getD_eq_getD_getElem?]
                  by_cases hlt : i < args.size
                  · rw [if_pos hlt, Array.getElem?_append_left hlt]
                  · rw [if_neg hlt, Array.getElem?_append_right (Nat.le_of_not_lt hlt), Array.getElem?_replicate]
                    split <;> rfl
                rw [e0, hsz]
                by_cases hlt : i < s.ent.tmps.length
                · rw [if_pos hlt, if_pos hlt]; exact relC_ofT (relT_of1 (hrel i hlt))
                · rw [if_neg hlt, if_neg hlt, unkN_get _ _ (by
                    rw [List.length_append, hul, unkN_len] at hi; omega)]
                  exact (rfl : undef = undef)
              · obtain ⟨cs, c1, c2⟩ := hbx j hj
                exact ⟨trivial, rfl, cs, c1, c2⟩
              · rw [List.length_append, hul, unkN_len]; show _ = fn.ntmps; omega
            exact evC_ok hE hC (hD B _ hC) packOK (hJ B i s fn c z b k0 cs hs hfn hc hB) c k0 (endK E s fn) (kok_end hE hB f3 b k0 cs) (fun r s _ h => h) f4 G _ w _ _ hR hnoc h
    · intro i s fn c r sh y z hs hfn hc hr h B b k0 cs pos hB hpos
      simp only [sem, hs] at h
      obtain ⟨hb, eb⟩ := eq?_self s.out.ty
      obtain ⟨ha, ea⟩ := eq?_self sh.ty
      rw [eb] at h
      simp only at h
      split at h
      · rename_i hx; cases hx
      · cases h
      · simp only [hfn, hc, hr] at h
        rw [ea] at h
        have h : runJ E (fun i a b x => sem E k i none a b x) s (fun r t y => sem E k i (some r) t s.out.ty y) fn c r sh y = some z := h
        unfold runJ at h
        split at h
        · rename_i f hf
          obtain ⟨hfit, h⟩ := guardB_some h
          simp only [fits, Bool.and_eq_true] at hfit
          obtain ⟨⟨⟨f1, f2⟩, f3⟩, f4⟩ := hfit
          refine ⟨pre_of hB f2, fun G w a hR hnoc => ?_⟩
          have hfk := find_ok (z := z) hE hC (hD B _ hC) packOK (hJ B i s fn c z b k0 cs hs hfn hc hB) r c k0 (endK E s fn) (kok_end hE hB f3 b k0 cs) (fun r s _ h => h) f4
          rw [hB.n] at hfk
          obtain ⟨pos', p1, p2⟩ := hfk.1 f hf
          rw [hpos] at p1
          obtain rfl := Option.some.inj p1
          refine p2 G _ w _ a hR hnoc ?_
          rw [hB.N]
          exact h
        · cases h

end
end Mini

/- What operations answer where more is known of memory. -/
namespace Mini
open Go

def GrExt (gr gr' : List (Nat × Gr)) : Prop :=
  ∀ k g, lk gr k = some g → g.md = .dead ∨ ∃ md', lk gr' k = some ⟨g.t, g.xs, md', g.ver⟩ ∧ (md' = g.md ∨ (g.md = .excl ∧ md' = .shared))
def CsLe (l l' : List T) : Prop := l'.length = l.length ∧ ∀ j, getT l j = getT l' j ∨ getT l j = .unk
structure Ext (m M : Mem) : Prop where
  gr : GrExt m.gr M.gr
  box : ∀ k cs, lk m.boxes k = some cs → ∃ cs', lk M.boxes k = some cs' ∧ CsLe cs cs'

theorem CsLe.refl (l : List T) : CsLe l l := ⟨rfl, fun _ => .inl rfl⟩
theorem CsLe.drop {l l' : List T} (h : CsLe l l') (n : Nat) : CsLe (l.drop n) (l'.drop n) := by
  refine ⟨by rw [List.length_drop, List.length_drop, h.1], fun j => ?_⟩
  rw [getT_drop, getT_drop]; exact h.2 _
theorem CsLe.tail {a a' : T} {l l' : List T} (h : CsLe (a :: l) (a' :: l')) : CsLe l l' := ⟨by simpa using h.1, fun j => h.2 (j + 1)⟩

theorem rdCell_ext {gr gr' : List (Nat × Gr)} (h : GrExt gr gr') {t : Ty} {u : T} {x : El t} (hx : rdCell gr t u = some x) : rdCell gr' t u = some x := by
  cases u with
  | own k =>
    simp only [rdCell] at hx ⊢
    cases hg : lk gr k with
    | none => rw [hg] at hx; cases hx
    | some g =>
      rw [hg] at hx
      obtain ⟨gt, gx, md, ver⟩ := g
      rcases h k _ hg with hd | ⟨md', hg', hm⟩
      · simp only at hd; subst hd; cases hx
      · rw [hg']
        simp only at hx hm ⊢
        generalize Ty.eq? (.sl gt) t = q at hx ⊢
        cases md with
        | dead => cases hx
        | excl => rcases hm with rfl | ⟨_, rfl⟩ <;> cases q <;> exact hx
        | shared =>
          rcases hm with rfl | ⟨hm, _⟩
          · exact hx
          · cases hm
  | _ => exact hx

theorem rdCell_known {gr : List (Nat × Gr)} {t : Ty} {u : T} {x : El t} (hx : rdCell gr t u = some x) : u ≠ .unk := by
  rintro rfl; cases hx

theorem asm1_ext {gr gr' : List (Nat × Gr)} (h : GrExt gr gr') {t : Ty} {l l' r : List T} {x : El t} (hx : asm1 gr t l = some (x, r)) (hl : CsLe l l') :
    ∃ r', asm1 gr' t l' = some (x, r') ∧ CsLe r r' ∧ l.take 1 = l'.take 1 ∧ r = l.drop 1 := by
  cases l with
  | nil => cases hx
  | cons c l =>
    cases l' with
    | nil => have := hl.1; simp at this
    | cons c' l' =>
      simp only [asm1] at hx
      split at hx
      · rename_i y hy
        obtain ⟨rfl, rfl⟩ := Prod.mk.inj (Option.some.inj hx)
        have hc : c = c' := (hl.2 0).resolve_right (rdCell_known hy)
        subst hc
        exact ⟨l', by simp only [asm1, rdCell_ext h hy], hl.tail, rfl, rfl⟩
      · cases hx

theorem take_add' {l l' : List T} {a b : Nat} (h1 : l.take a = l'.take a) (h2 : (l.drop a).take b = (l'.drop a).take b) : l.take (a + b) = l'.take (a + b) := by
  rw [List.take_add, List.take_add, h1, h2]

theorem asm_ext {gr gr' : List (Nat × Gr)} (h : GrExt gr gr') : ∀ (t : Ty) (l l' r : List T) (x : El t), asm gr t l = some (x, r) → CsLe l l' →
    ∃ r', asm gr' t l' = some (x, r') ∧ CsLe r r' ∧ l.take t.size = l'.take t.size ∧ r = l.drop t.size ∧ r' = l'.drop t.size := by
  have one : ∀ (t : Ty) (l l' r : List T) (x : El t), asm1 gr t l = some (x, r) → CsLe l l' → ∃ r', asm1 gr' t l' = some (x, r') ∧ CsLe r r' ∧ l.take 1 = l'.take 1 ∧ r = l.drop 1 ∧ r' = l'.drop 1 := by
    intro t l l' r x hx hl
    obtain ⟨r', h1, h2, h3, h4⟩ := asm1_ext h hx hl
    refine ⟨r', h1, h2, h3, h4, ?_⟩
    cases l' with
    | nil => cases h1
    | cons c l' =>
      simp only [asm1] at h1
      split at h1
      · exact (Prod.mk.inj (Option.some.inj h1)).2.symm
      · cases h1
  intro t
  induction t with
  | int k => exact one _
  | bool => exact one _
  | str => exact one _
  | err => exact one _
  | sl t _ => exact one _
  | unit =>
    intro l l' r x hx hl
    obtain ⟨rfl, rfl⟩ := Prod.mk.inj (Option.some.inj (show some ((), l) = some (x, r) from hx))
    exact ⟨l', rfl, hl, rfl, rfl, rfl⟩
  | pair a b iha ihb =>
    intro l l' r x hx hl
    simp only [asm] at hx
    split at hx
    · rename_i y l1 h1
      split at hx
      · rename_i z l2 h2
        obtain ⟨rfl, rfl⟩ := Prod.mk.inj (Option.some.inj hx)
        obtain ⟨r1, a1, a2, a3, a4, a5⟩ := iha _ _ _ _ h1 hl
        obtain ⟨r2, b1, b2, b3, b4, b5⟩ := ihb _ _ _ _ h2 a2
        refine ⟨r2, by simp only [asm, a1, b1], b2, ?_, ?_, ?_⟩
        · exact take_add' a3 (by rw [← a4, ← a5]; exact b3)
        · rw [b4, a4, List.drop_drop]; rfl
        · rw [b5, a5, List.drop_drop]; rfl
      · cases hx
    · cases hx
  | arr n t ih =>
    have key : ∀ n (l l' r : List T) (xs : List (El t)), asmN (asm gr t) n l = some (xs, r) → CsLe l l' → ∃ r', asmN (asm gr' t) n l' = some (xs, r') ∧ CsLe r r' ∧ l.take (n * t.size) = l'.take (n * t.size) ∧ r = l.drop (n * t.size) ∧ r' = l'.drop (n * t.size) := by
      intro n
      induction n with
      | zero =>
        intro l l' r xs hx hl
        obtain ⟨rfl, rfl⟩ := Prod.mk.inj (Option.some.inj (show some (([] : List (El t)), l) = some (xs, r) from hx))
        exact ⟨l', rfl, hl, by simp, by simp, by simp⟩
      | succ n ihn =>
        intro l l' r xs hx hl
        simp only [asmN] at hx
        split at hx
        · rename_i y l1 h1
          split at hx
          · rename_i z l2 h2
            obtain ⟨rfl, rfl⟩ := Prod.mk.inj (Option.some.inj hx)
            obtain ⟨r1, a1, a2, a3, a4, a5⟩ := ih _ _ _ _ h1 hl
            obtain ⟨r2, b1, b2, b3, b4, b5⟩ := ihn _ _ _ _ h2 a2
            have e : (n + 1) * t.size = t.size + n * t.size := by rw [Nat.succ_mul]; omega
            refine ⟨r2, by simp only [asmN, a1, b1], b2, ?_, ?_, ?_⟩
            · rw [e]; exact take_add' a3 (by rw [← a4, ← a5]; exact b3)
            · rw [b4, a4, List.drop_drop, e]
            · rw [b5, a5, List.drop_drop, e]
          · cases hx
        · cases hx
    intro l l' r x hx hl
    exact key n l l' r x hx hl

theorem alive_ext {m M : Mem} (h : Ext m M) {k : Nat} (ha : alive m k = true) : alive M k = true := by
  unfold alive at ha ⊢
  cases hg : lk m.gr k with
  | none => rw [hg] at ha; cases ha
  | some g =>
    rw [hg] at ha
    simp only [Bool.not_eq_true', decide_eq_false_iff_not] at ha
    rcases h.gr k g hg with hd | ⟨md', hg', hm⟩
    · exact absurd hd ha
    · rw [hg']
      simp only [Bool.not_eq_true', decide_eq_false_iff_not]
      rcases hm with rfl | ⟨_, rfl⟩
      · exact ha
      · simp

theorem storable_ext {m M : Mem} (h : Ext m M) {u : T} (hs : storable m u = true) : storable M u = true := by
  cases u with
  | own k => exact alive_ext h hs
  | _ => exact hs

theorem buildF_ext {gr gr' : List (Nat × Gr)} (h : GrExt gr gr') {t : Ty} : ∀ (l : List (Nat × T)) (x x' : El t), buildF gr t l x = some x' → buildF gr' t l x = some x' := by
  intro l
  induction l with
  | nil => intro x x' hx; exact hx
  | cons q l ih =>
    intro x x' hx
    obtain ⟨i, v⟩ := q
    simp only [buildF] at hx ⊢
    split at hx
    · rename_i off u hf
      split at hx
      · rename_i y hy
        split at hx
        · rename_i x1 hx1
          simp only [rdCell_ext h hy, hx1]
          exact ih _ _ hx
        · cases hx
      · cases hx
    · cases hx

theorem buildL_ext {gr gr' : List (Nat × Gr)} (h : GrExt gr gr') {t : Ty} : ∀ (l : List (Nat × T)) (x x' : List (El t)), buildL gr t l x = some x' → buildL gr' t l x = some x' := by
  intro l
  induction l with
  | nil => intro x x' hx; exact hx
  | cons q l ih =>
    intro x x' hx
    obtain ⟨i, v⟩ := q
    simp only [buildL] at hx ⊢
    split at hx
    · rename_i y hy
      simp only [rdCell_ext h hy]
      split at hx
      · rename_i hlt; rw [if_pos hlt]; exact ih _ _ hx
      · cases hx
    · cases hx

theorem partC_ext {m M : Mem} (h : Ext m M) {u : Ty} {v : T} {l : List T} (hx : partC m u v = some l) : partC M u v = some l := by
  cases v with
  | own k =>
    simp only [partC] at hx ⊢
    split at hx
    · rename_i t ha
      simp only [alive_ext h ha]
      exact hx
    · cases hx
  | _ => exact hx

theorem buildC_ext {m M : Mem} (h : Ext m M) {t : Ty} : ∀ (l : List (Nat × T)) (x x' : List T), buildC m t l x = some x' → buildC M t l x = some x' := by
  intro l
  induction l with
  | nil => intro x x' hx; exact hx
  | cons q l ih =>
    intro x x' hx
    obtain ⟨i, v⟩ := q
    simp only [buildC] at hx ⊢
    split at hx
    · rename_i off u hf
      split at hx
      · rename_i y hy
        simp only [partC_ext h hy]
        split at hx
        · rename_i hlt; rw [if_pos hlt]; exact ih _ _ hx
        · cases hx
      · cases hx
    · cases hx

section
variable {E : Env} {m M : Mem}

theorem loadT_ext (h : Ext m M) {tid : Nat} {u : T} (hs : still (loadT E m tid u) = true) : loadT E M tid u = loadT E m tid u := by
  cases u with
  | addr i off =>
    simp only [loadT] at hs ⊢
    cases hc : lk m.boxes i with
    | none => rw [hc] at hs; cases hs
    | some cs =>
      obtain ⟨cs', hc', hl⟩ := h.box i cs hc
      rw [hc] at hs
      simp only [hc']
      have cell : ∀ b : Prop, [Decidable b] → still (if b then OpRes.val [] (getT cs off) else .bad) = true → (if b then OpRes.val [] (getT cs' off) else .bad) = (if b then OpRes.val [] (getT cs off) else .bad) := by
        intro b _ hb
        by_cases hb' : b
        · rw [if_pos hb'] at hb ⊢
          rw [if_pos hb']
          rcases hl.2 off with e | e
          · rw [e]
          · rw [e] at hb; cases hb
        · rw [if_neg hb', if_neg hb']
      cases ht : E.ty tid with
      | none =>
        rw [ht] at hs
        simp only at hs ⊢
        rw [hl.1]
        exact cell _ hs
      | some t =>
        rw [ht] at hs
        simp only at hs ⊢
        split at hs
        · rename_i ha
          rw [if_pos ha, if_pos ha]
          split at hs
          · rename_i x r hx
            obtain ⟨r', h1, _, h3, _⟩ := asm_ext h.gr t _ _ _ _ hx (hl.drop off)
            simp only [h1, h3]
          · cases hs
        · rename_i ha
          rw [if_neg ha, if_neg ha, hl.1]
          exact cell _ hs
  | eptr k v i off t x =>
    simp only [loadT] at hs ⊢
    cases hg : lk m.gr k with
    | none => rw [hg] at hs; cases hs
    | some g =>
      rw [hg] at hs
      obtain ⟨gt, gx, md, ver⟩ := g
      cases ht : E.ty tid with
      | none => rw [ht] at hs; cases hs
      | some u =>
        rw [ht] at hs
        rcases h.gr k _ hg with hd | ⟨md', hg', hm⟩
        · simp only at hd; subst hd
          simp only at hs
          split at hs <;> cases hs
        · rw [hg']
          simp only at hs hm ⊢
          generalize subVal t x off u = q at hs ⊢
          cases md with
          | dead => split at hs <;> cases hs
          | excl => rcases hm with rfl | ⟨_, rfl⟩ <;> cases q <;> rfl
          | shared =>
            rcases hm with rfl | ⟨hm, _⟩
            · rfl
            · cases hm
  | aptr i off n u ix =>
    simp only [loadT] at hs ⊢
    cases hc : lk m.boxes i with
    | none => rw [hc] at hs; cases hs
    | some cs =>
      obtain ⟨cs', hc', hl⟩ := h.box i cs hc
      rw [hc] at hs
      simp only [hc']
      cases ht : E.ty tid with
      | none => rfl
      | some t =>
        rw [ht] at hs
        simp only at hs ⊢
        split at hs
        · rename_i xs r q hx hq
          obtain ⟨r', h1, _, h3, _⟩ := asm_ext h.gr (.arr n u) _ _ _ _ hx (hl.drop off)
          have h3 : (cs.drop off).take (n * u.size) = (cs'.drop off).take (n * u.size) := h3
          simp only [h1, hq, h3]
        · cases hs
  | _ => rfl

theorem fieldAddrT_ext (h : Ext m M) {tid f : Nat} {u : T} (hs : still (fieldAddrT E m tid u f) = true) : fieldAddrT E M tid u f = fieldAddrT E m tid u f := by
  unfold fieldAddrT at hs ⊢
  split at hs
  · rename_i t ht
    split at hs
    · rename_i o w hf
      split at hs
      · cases hs
      · rename_i h0
        simp only [if_neg h0]
        cases u with
        | addr i off =>
          simp only at hs ⊢
          cases hc : lk m.boxes i with
          | none => rw [hc] at hs; cases hs
          | some cs =>
            obtain ⟨cs', hc', hl⟩ := h.box i cs hc
            simp only [hc', hl.1]
        | eptr k v i off t x =>
          simp only at hs ⊢
          split at hs
          · rename_i ha; rw [if_pos (alive_ext h ha), if_pos ha]
          · cases hs
        | _ => rfl
    · cases hs
  · cases hs

theorem indexAddrT_ext (h : Ext m M) {tid : Nat} {u v : T} {lit : Bool} (hs : still (indexAddrT E m tid u v lit) = true) : indexAddrT E M tid u v lit = indexAddrT E m tid u v lit := by
  unfold indexAddrT at hs ⊢
  split at hs
  · rfl
  · rename_i k k' i u' ht
    cases hg : lk m.gr k with
    | none => rw [hg] at hs; cases hs
    | some g =>
      rw [hg] at hs
      obtain ⟨gt, gx, md, ver⟩ := g
      rcases h.gr k _ hg with hd | ⟨md', hg', hm⟩
      · simp only at hd; subst hd; cases hs
      · simp only [hg']
        simp only at hs hm ⊢
        generalize Ty.eq? gt u' = q at hs ⊢
        cases md with
        | dead => cases hs
        | excl => rcases hm with rfl | ⟨_, rfl⟩ <;> cases q <;> rfl
        | shared =>
          rcases hm with rfl | ⟨hm, _⟩
          · rfl
          · cases hm
  · rfl
  · rename_i b off k' i n u' ht
    cases hc : lk m.boxes b with
    | none => rw [hc] at hs; cases hs
    | some cs =>
      obtain ⟨cs', hc', hl⟩ := h.box b cs hc
      simp only [hc', hl.1]
  · rfl

theorem splitT_ext (h : Ext m M) {tid : Nat} {u v : T} {lit : Bool} (hs : still (splitT E m tid u v lit) = true) : splitT E M tid u v lit = splitT E m tid u v lit := by
  have key : ∀ (tid : Nat) (u : T) (k : IntKind) (i : Int) (n q : Nat), still (altIx E m tid u k i n q) = true → altIx E M tid u k i n q = altIx E m tid u k i n q := by
    intro tid u k i n
    induction n with
    | zero => intro q _; rfl
    | succ n ih =>
      intro q hs
      simp only [altIx, still, Bool.and_eq_true] at hs
      simp only [altIx, indexAddrT_ext h hs.1, ih _ hs.2]
  unfold splitT at hs ⊢
  split at hs
  · exact key _ _ _ _ _ _ hs
  · exact indexAddrT_ext h hs

theorem sliceT_ext (h : Ext m M) {tid : Nat} {u : T} {lo hi : Option T} {top : Option Bool} (hs : still (sliceT E m tid u lo hi top) = true) : sliceT E M tid u lo hi top = sliceT E m tid u lo hi top := by
  cases u with
  | own k =>
    unfold sliceT at hs ⊢
    generalize E.ty tid = ty at hs ⊢
    cases ty with
    | none => rfl
    | some t =>
      cases t with
      | sl u' =>
        simp only at hs ⊢
        cases hg : lk m.gr k with
        | none => simp only [hg] at hs; cases hs
        | some g =>
          simp only [hg] at hs ⊢
          obtain ⟨gt, gx, md, ver⟩ := g
          rcases h.gr k _ hg with hd | ⟨md', hg', hm⟩
          · simp only at hd; subst hd
            simp only at hs
            generalize Ty.eq? gt u' = q at hs ⊢
            generalize bound 0 lo = bl at hs ⊢
            generalize bound (gx.length : Int) hi = bh at hs ⊢
            cases q <;> cases bl <;> cases bh <;> first | (cases hs; done) | (cases top <;> cases hs)
          · simp only [hg']
            simp only at hs hm
            generalize Ty.eq? gt u' = q at hs ⊢
            generalize bound 0 lo = bl at hs ⊢
            generalize bound (gx.length : Int) hi = bh at hs ⊢
            cases q with
            | none => rfl
            | some q =>
              cases bl with
              | none => rfl
              | some bl =>
                cases bh with
                | none => rfl
                | some bh =>
                  rcases hm with rfl | ⟨rfl, rfl⟩
                  · rfl
                  · cases top with
                    | none =>
                      cases lo with
                      | none => cases hs
                      | some lo => rfl
                    | some b => cases b <;> rfl
      | _ => rfl
  | _ => unfold sliceT; split <;> first | rfl | contradiction

theorem appended_ext (h : Ext m M) {t : Ty} {u : T} {ys : List (El t)} (hx : appended m.gr t u = some ys) : appended M.gr t u = some ys := by
  have key : (∀ gr gr', appended gr t u = appended gr' t u) ∨ (∀ gr, appended gr t u = rdCell gr (.sl t) u) := by
    cases t with
    | int k =>
      cases k <;> first | exact .inr fun _ => rfl | skip
      cases u with
      | dat t' x => cases t' <;> first | exact .inr fun _ => rfl | exact .inl fun _ _ => rfl
      | _ => exact .inr fun _ => rfl
    | _ => exact .inr fun _ => rfl
  rcases key with key | key
  · rw [key _ m.gr]; exact hx
  · rw [key] at hx ⊢; exact rdCell_ext h.gr hx

theorem appendT_ext (h : Ext m M) {tid yid : Nat} {u v : T} (hs : still (appendT E m tid yid u v) = true) : appendT E M tid yid u v = appendT E m tid yid u v := by
  unfold appendT at hs ⊢
  split at hs
  · rename_i t ht hn
    split at hs
    · rename_i ys hy
      simp only [appended_ext h hy]
      cases u with
      | own k =>
        simp only at hs ⊢
        split at hs
        · split at hs <;> cases hs
        · cases hs
      | _ => rfl
    · cases hs
  · cases hs

theorem lenT_ext (h : Ext m M) {u : T} {t : Ty} {n : Int} (hx : lenT m u t = some n) : lenT M u t = some n := by
  cases u with
  | own k =>
    cases t with
    | sl u' =>
      simp only [lenT] at hx ⊢
      cases hg : lk m.gr k with
      | none => rw [hg] at hx; cases hx
      | some g =>
        rw [hg] at hx
        obtain ⟨gt, gx, md, ver⟩ := g
        rcases h.gr k _ hg with hd | ⟨md', hg', hm⟩
        · simp only at hd; subst hd; cases hx
        · rw [hg']
          simp only at hx hm ⊢
          cases md with
          | dead => cases hx
          | excl => rcases hm with rfl | ⟨_, rfl⟩ <;> exact hx
          | shared =>
            rcases hm with rfl | ⟨hm, _⟩
            · exact hx
            · cases hm
    | _ => cases hx
  | dat t' x => cases t' <;> cases t <;> exact hx
  | _ => cases t <;> exact hx

theorem scan1_ext {gr gr' : List (Nat × Gr)} {F F' : Found} {k : Kind} {v : T} (hx : scan1 gr F k v = some F') (ho : F'.owns = []) : scan1 gr' F k v = some F' := by
  cases k with
  | o t ex =>
    cases v with
    | own q =>
      obtain ⟨_, hsc, _⟩ := scan1_ok hx
      rcases hsc with hsc | ⟨q', g, _, _, h3, _⟩
      · cases hsc
      · rw [ho] at h3; simp at h3
    | _ => exact hx
  | _ => cases v <;> exact hx

theorem scans_ext {gr gr' : List (Nat × Gr)} : ∀ (l : List Kind) (vs : List T) {F F' : Found}, scans gr F l vs = some F' → F'.owns = [] → scans gr' F l vs = some F' := by
  intro l
  induction l with
  | nil => intro vs F F' hx _; cases vs <;> exact hx
  | cons k l ih =>
    intro vs F F' hx ho
    cases vs with
    | nil => cases hx
    | cons v vs =>
      simp only [scans] at hx ⊢
      split at hx
      · rename_i F1 h1
        have ho1 : F1.owns = [] := by
          obtain ⟨hle, _⟩ := scans_ok l vs hx
          refine List.eq_nil_iff_forall_not_mem.2 fun q hq => ?_
          have := hle.owns q hq
          rw [ho] at this; simp at this
        simp only [scan1_ext h1 ho1]
        exact ih vs hx ho
      · cases hx

theorem pk1_ext {gr gr' : List (Nat × Gr)} (h : GrExt gr gr') {k : Kind} {v : T} {acc : List Ty} {y : EL acc} {r : EL (kt1 k acc)} (hx : pk1 gr k v acc y = some r) : pk1 gr' k v acc y = some r := by
  cases k with
  | d t =>
    simp only [pk1] at hx ⊢
    split at hx
    · rename_i x hy; simp only [rdCell_ext h hy]; exact hx
    · cases hx
  | o t ex =>
    simp only [pk1] at hx ⊢
    split at hx
    · rename_i x hy; simp only [rdCell_ext h hy]; exact hx
    · cases hx
  | _ => exact hx

theorem pks_ext {gr gr' : List (Nat × Gr)} (h : GrExt gr gr') : ∀ (l : List Kind) (vs : List T) (acc : List Ty) (y : EL acc) (r : EL (kts l acc)), pks gr l vs acc y = some r → pks gr' l vs acc y = some r := by
  intro l
  induction l with
  | nil => intro vs acc y r hx; exact hx
  | cons k l ih =>
    intro vs acc y r hx
    simp only [pks] at hx ⊢
    split at hx
    · rename_i y1 hy
      simp only [ih _ _ _ _ hy]
      exact pk1_ext h hx
    · cases hx

theorem callT_ext (h : Ext m M) {call : CallT} {κ f : Nat} {args : List T} (hs : still (callT E call κ m f args) = true) : callT E call κ M f args = callT E call κ m f args := by
  unfold callT at hs ⊢
  split at hs
  · cases hs
  · rename_i i hi
    split at hs
    · cases hs
    · rename_i s hsg
      split at hs
      · cases hs
      · rename_i F hF
        split at hs
        · cases hs
        · rename_i x hx
          split at hs
          · cases hs
          · rename_i hb
            split at hs
            · rename_i hq
              have hq' := hq
              simp only [quiet, Bool.and_eq_true, List.isEmpty_iff] at hq'
              obtain ⟨⟨⟨q1, q2⟩, q3⟩, _⟩ := hq'
              have hF2 : scan 0 M s.ent args = some F := by
                unfold scan scanW at hF ⊢
                rw [q1] at hF ⊢
                simp only [scanB] at hF ⊢
                split at hF
                · rename_i F1 h1
                  have e : F1 = F := by
                    split at hF
                    · exact Option.some.inj hF
                    · cases hF
                  subst e
                  simp only [scans_ext (gr' := M.gr) _ _ h1 q3]
                  exact hF
                · cases hF
              have hx2 : gather M s.ent args F = some x := by
                have nobox : ∀ (M : Mem) (bx : List (List Kind)) (y : EL (ktss bx [])), bx = [] → pkB M F.bm bx 0 [] () = some y → ∀ m', pkB m' F.bm bx 0 [] () = some y := by
                  intro M bx y hb hy m'; subst hb; exact hy
                unfold gather at hx ⊢
                split at hx
                · rename_i y1 h1
                  simp only [nobox _ _ _ q1 h1 M]
                  split at hx
                  · rename_i y2 h2
                    simp only [pks_ext h.gr _ _ _ _ _ h2]
                    exact hx
                  · cases hx
                · cases hx
              simp only [hF2, hx2, if_neg hb, if_pos hq]
            · split at hs <;> cases hs

theorem evOp_ext (h : Ext m M) {call : CallT} {ρ : Operand → T} {κ : Nat} {op : Op} (hs : still (evOp E call ρ κ m op) = true) : evOp E call ρ κ M op = evOp E call ρ κ m op := by
  cases op with
  | box t x =>
    simp only [evOp, boxT] at hs ⊢
    split at hs
    · rename_i t' ht
      split at hs
      · rename_i ha; rw [if_pos ha, if_pos ha]
      · rename_i ha
        rw [if_neg ha, if_neg ha]
        split at hs
        · rename_i hst; rw [if_pos (storable_ext h hst), if_pos hst]
        · cases hs
    · rename_i ht
      split at hs
      · rename_i hst; rw [if_pos ⟨hst.1, storable_ext h hst.2⟩, if_pos hst]
      · cases hs
  | build t parts =>
    simp only [evOp] at hs ⊢
    split at hs
    · rename_i t' ht
      split at hs
      · rename_i hc
        rw [if_pos hc, if_pos hc]
        unfold buildA at hs ⊢
        split at hs
        · rename_i ha
          rw [if_pos ha, if_pos ha]
          split at hs
          · rename_i cs hcs; simp only [buildC_ext h _ _ _ hcs]
          · cases hs
        · cases hs
      · rename_i hc
        rw [if_neg hc, if_neg hc]
        unfold buildT at hs ⊢
        split at hs
        · split at hs
          · rename_i xs hxs; simp only [buildL_ext h.gr _ _ _ hxs]
          · cases hs
        · split at hs
          · rename_i ha
            rw [if_pos ha, if_pos ha]
            split at hs
            · rename_i xs hxs; simp only [buildF_ext h.gr _ _ _ hxs]
            · cases hs
          · cases hs
    · cases hs
  | buildSlice t len parts =>
    simp only [evOp] at hs ⊢
    split at hs
    · split at hs
      · rename_i hl
        rw [if_pos hl, if_pos hl]
        split at hs
        · rename_i xs hxs; simp only [buildL_ext h.gr _ _ _ hxs]
        · cases hs
      · cases hs
    · cases hs
  | load t x => exact loadT_ext h hs
  | store t x y =>
    exfalso
    simp only [evOp, storeT] at hs
    (repeat' split at hs) <;> cases hs
  | convert s d x =>
    simp only [evOp, convT] at hs ⊢
    split at hs
    · rfl
    · rfl
    · rfl
    · split at hs
      · rename_i xs hxs; simp only [rdCell_ext h.gr hxs]
      · cases hs
    · rfl
  | slice t x lo hi mx => exact sliceT_ext h hs
  | fieldAddr t x f => exact fieldAddrT_ext h hs
  | indexAddr t x i => exact splitT_ext h hs
  | call c =>
    obtain ⟨cal, args, tys⟩ := c
    cases cal with
    | builtin b =>
      simp only [evOp, builtT] at hs ⊢
      split at hs
      · rename_i x t
        unfold lenV at hs ⊢
        split at hs
        · split at hs
          · rename_i n hn; simp only [lenT_ext h hn]
          · cases hs
        · cases hs
      · split at hs
        · exact appendT_ext h hs
        · cases hs
      · rfl
      · rfl
      · rfl
    | value f =>
      simp only [evOp] at hs ⊢
      split at hs
      · exact callT_ext h hs
      · cases hs
    | invoke r n => rfl
  | makeFunc fn first caps => cases fn <;> rfl
  | _ => rfl

theorem evAt_ext (h : Ext m M) {call : CallT} {tm : List T} {ch : List (Nat × Bool)} {κ : Nat} {op : Op} (hs : still (evAt E call κ tm ch m op) = true) : evAt E call κ tm ch M op = evAt E call κ tm ch m op := by
  unfold evAt at hs ⊢
  split at hs
  · rfl
  · exact evOp_ext h hs

end
end Mini

/- Regions that draw: what stands before what; answers by what is looked at. -/
namespace Mini
open Go

/-! ### what stands before what -/

theorem maskOf_bit (acc : List Nat) (q : Nat) : ∀ es : List Edge, Nat.testBit (maskOf acc es) q = true ↔ ∃ e ∈ es, Region.binds .any e = true ∧ (q = e.on ∨ Nat.testBit (acc.getD e.on 0) q = true) := by
  intro es
  induction es with
  | nil => simp [maskOf]
  | cons e es ih =>
    simp only [maskOf]
    by_cases hb : Region.binds .any e = true
    · rw [if_pos hb]
      simp only [Nat.testBit_or, Nat.testBit_two_pow, Bool.or_eq_true, ih, decide_eq_true_eq, List.mem_cons]
      constructor
      · rintro (⟨e', h1, h2⟩ | h | h)
        · exact ⟨e', .inr h1, h2⟩
        · exact ⟨e, .inl rfl, hb, .inl h.symm⟩
        · exact ⟨e, .inl rfl, hb, .inr h⟩
      · rintro ⟨e', rfl | h1, h2, h3⟩
        · rcases h3 with h3 | h3
          · exact .inr (.inl h3.symm)
          · exact .inr (.inr h3)
        · exact .inl ⟨e', h1, h2, h3⟩
    · rw [if_neg hb, ih]
      constructor
      · rintro ⟨e', h1, h2⟩; exact ⟨e', List.mem_cons_of_mem _ h1, h2⟩
      · rintro ⟨e', h1, h2, h3⟩
        rcases List.mem_cons.1 h1 with rfl | h1
        · exact absurd h2 hb
        · exact ⟨e', h1, h2, h3⟩

theorem masksF_spec : ∀ (l : List Oper) (acc : List Nat), (masksF l acc).length = acc.length + l.length ∧ (masksF l acc).take acc.length = acc ∧
    ∀ i (hi : i < l.length), (masksF l acc).getD (acc.length + i) 0 = maskOf ((masksF l acc).take (acc.length + i)) l[i].after.toList := by
  intro l
  induction l with
  | nil => intro acc; exact ⟨rfl, by simp [masksF], fun i hi => by simp at hi⟩
  | cons o l ih =>
    intro acc
    obtain ⟨h1, h2, h3⟩ := ih (acc ++ [maskOf acc o.after.toList])
    simp only [masksF]
    have e1 : (masksF l (acc ++ [maskOf acc o.after.toList])).take acc.length = acc := by
      have := congrArg (List.take acc.length) h2
      rw [List.take_take, List.take_left] at this
      rw [List.length_append, List.length_singleton, Nat.min_eq_left (by omega)] at this
      exact this
    refine ⟨by rw [h1]; simp; omega, e1, fun i hi => ?_⟩
    cases i with
    | zero =>
      rw [Nat.add_zero, e1]
      have hlt : acc.length < (masksF l (acc ++ [maskOf acc o.after.toList])).length := by rw [h1]; simp; omega
      have := congrArg (fun z => z.getD acc.length 0) h2
      simp only [List.length_append, List.length_singleton] at this
      rw [List.getD_eq_getElem?_getD, List.getElem?_take, if_pos (by omega), ← List.getD_eq_getElem?_getD] at this
      rw [this]; simp
    | succ i =>
      have := h3 i (by simpa using hi)
      rw [List.length_append, List.length_singleton, show acc.length + 1 + i = acc.length + (i + 1) by omega] at this
      exact this

theorem mask_bit {all : List Oper} {i q : Nat} {o : Oper} (ho : all[i]? = some o) : bef (masksF all []) i q = true ↔ ∃ e ∈ o.after.toList, Region.binds .any e = true ∧ (q = e.on ∨ (e.on < i ∧ bef (masksF all []) e.on q = true)) := by
  obtain ⟨hi, rfl⟩ := List.getElem?_eq_some_iff.1 ho
  obtain ⟨h1, _, h3⟩ := masksF_spec all []
  have := h3 i hi
  simp only [List.length_nil, Nat.zero_add] at this
  unfold bef
  rw [this, maskOf_bit]
  have hget : ∀ k, ((masksF all []).take i).getD k 0 = if k < i then (masksF all []).getD k 0 else 0 := by
    intro k
    rw [List.getD_eq_getElem?_getD, List.getElem?_take]
    split
    · rw [List.getD_eq_getElem?_getD]
    · rfl
  constructor
  · rintro ⟨e, a1, a2, a3⟩
    refine ⟨e, a1, a2, ?_⟩
    rcases a3 with a3 | a3
    · exact .inl a3
    · rw [hget] at a3
      split at a3
      · rename_i hlt; exact .inr ⟨hlt, a3⟩
      · simp at a3
  · rintro ⟨e, a1, a2, a3⟩
    refine ⟨e, a1, a2, ?_⟩
    rcases a3 with a3 | ⟨a3, a4⟩
    · exact .inl a3
    · rw [hget, if_pos a3]; exact .inr a4

theorem edgesIn_spec : ∀ {l : List Oper} {n : Nat}, edgesIn l n = true → ∀ (i : Nat) (o : Oper), l[i]? = some o → ∀ e ∈ o.after, Region.binds .any e = true → e.on < n + i := by
  intro l
  induction l with
  | nil => intro n _ i o h; simp at h
  | cons x l ih =>
    intro n h i o ho e he hb
    simp only [edgesIn, Bool.and_eq_true, List.all_eq_true, Bool.or_eq_true, Bool.not_eq_true', Nat.blt_eq] at h
    cases i with
    | zero =>
      obtain rfl := Option.some.inj (show some x = some o from ho)
      have := h.1 e (by simpa using he)
      rcases this with this | this
      · rw [hb] at this; cases this
      · simpa using this
    | succ i =>
      have := ih h.2 i o (by simpa using ho) e he hb
      omega

/-- whatever stands before an operation is in a set that is closed -/
def Closed (all : List Oper) (S : Nat → Prop) : Prop := ∀ i o, S i → all[i]? = some o → ∀ e ∈ o.after, Region.binds .any e = true → S e.on

theorem bef_in {all : List Oper} {S : Nat → Prop} (hc : Closed all S) (hlen : ∀ i, S i → i < all.length) : ∀ (i : Nat) (o : Oper), all[i]? = some o → (∀ e ∈ o.after, Region.binds .any e = true → S e.on) → ∀ q, bef (masksF all []) i q = true → S q := by
  intro i
  induction i using Nat.strongRecOn with
  | _ i ih =>
    intro o ho he q hq
    obtain ⟨e, h1, h2, h3⟩ := (mask_bit ho).1 hq
    have hS := he e (by simpa using h1) h2
    rcases h3 with rfl | ⟨h3, h4⟩
    · exact hS
    · have hl := hlen _ hS
      exact ih e.on h3 _ (List.getElem?_eq_getElem hl) (fun e' he' hb' => hc e.on _ hS (List.getElem?_eq_getElem hl) e' he' hb') q h4

theorem bef_lt {all : List Oper} (hE : edgesIn all 0 = true) : ∀ (i : Nat), i < all.length → ∀ q, bef (masksF all []) i q = true → q < i := by
  intro i
  induction i using Nat.strongRecOn with
  | _ i ih =>
    intro hi q hq
    obtain ⟨e, h1, h2, h3⟩ := (mask_bit (List.getElem?_eq_getElem hi)).1 hq
    have := edgesIn_spec hE i _ (List.getElem?_eq_getElem hi) e (by simpa using h1) h2
    rcases h3 with rfl | ⟨h3, h4⟩
    · omega
    · have := ih e.on h3 (by omega) q h4
      omega

theorem lastFree_spec (ms : List Nat) : ∀ n, lastFree ms n ≤ n ∧ ∀ i, lastFree ms n ≤ i → i < n → ms.getD i 0 = 2 ^ i - 1 := by
  intro n
  induction n with
  | zero => exact ⟨Nat.le_refl _, fun i _ h => by omega⟩
  | succ n ih =>
    simp only [lastFree]
    split
    · rename_i h
      refine ⟨by omega, fun i h1 h2 => ?_⟩
      by_cases hi : i = n
      · subst hi; exact Nat.eq_of_beq_eq_true h
      · exact ih.2 i h1 (by omega)
    · exact ⟨Nat.le_refl _, fun i h1 h2 => by omega⟩

theorem behind {all : List Oper} {i q : Nat} (h1 : lastFree (masksF all []) all.length ≤ i) (h2 : i < all.length) (hq : q < i) : bef (masksF all []) i q = true := by
  unfold bef
  rw [(lastFree_spec _ _).2 i h1 h2, Nat.testBit_two_pow_sub_one]
  simpa using hq

/-! ### answers by what is looked at -/

theorem ops1_congr {ρ ρ' : Operand → T} : ∀ l : List Operand, (∀ x ∈ l, ρ x = ρ' x) → ops1 ρ l = ops1 ρ' l := by
  intro l
  induction l with
  | nil => intro _; rfl
  | cons x l ih => intro h; simp only [ops1, h x (by simp), ih (fun y hy => h y (List.mem_cons_of_mem _ hy))]
theorem ops2_congr {ρ ρ' : Operand → T} : ∀ l : List (Nat × Operand), (∀ x ∈ l, ρ x.2 = ρ' x.2) → ops2 ρ l = ops2 ρ' l := by
  intro l
  induction l with
  | nil => intro _; rfl
  | cons x l ih => intro h; obtain ⟨i, x⟩ := x; simp only [ops2, h (i, x) (by simp), ih (fun y hy => h y (List.mem_cons_of_mem _ hy))]

section
variable {E : Env} {call : CallT}

theorem evOp_congr {ρ ρ' : Operand → T} {κ : Nat} {m : Mem} {op : Op} (h : ∀ x ∈ op.operands, ρ x = ρ' x) : evOp E call ρ κ m op = evOp E call ρ' κ m op := by
  cases op with
  | build t parts =>
    have := ops2_congr (ρ := ρ) (ρ' := ρ') parts.toList fun x hx => h x.2 (by simp only [Op.operands]; simp; exact ⟨x.1, by simpa using hx⟩)
    simp only [evOp, this]
  | buildSlice t n parts =>
    have := ops2_congr (ρ := ρ) (ρ' := ρ') parts.toList fun x hx => h x.2 (by simp only [Op.operands]; simp; exact ⟨x.1, by simpa using hx⟩)
    simp only [evOp, this]
  | makeFunc fn first caps =>
    have := ops1_congr (ρ := ρ) (ρ' := ρ') caps.toList fun x hx => h x (by simp only [Op.operands]; simp at hx ⊢; exact .inr hx)
    cases fn <;> simp only [evOp, this]
  | slice t x lo hi mx =>
    simp only [Op.operands] at h
    cases lo <;> cases hi <;> cases mx <;> simp_all [evOp]
  | call c =>
    obtain ⟨cal, args, tys⟩ := c
    have := ops1_congr (ρ := ρ) (ρ' := ρ') args.toList fun x hx => h x (by simp only [Op.operands, Call.operands]; simp at hx ⊢; exact .inr hx)
    cases cal with
    | builtin b => simp only [evOp, this]
    | value f =>
      have hf := h f (by simp [Op.operands, Call.operands])
      simp only [evOp, this, hf]
    | invoke r n => rfl
  | _ => simp only [Op.operands] at h <;> first | rfl | (simp_all [evOp]; done)

theorem tmpsOf_mem {t : Nat} : ∀ {l : List Operand}, Operand.tmp t ∈ l → t ∈ tmpsOf l := by
  intro l
  induction l with
  | nil => intro h; simp at h
  | cons x l ih =>
    intro h
    rcases List.mem_cons.1 h with rfl | h
    · simp [tmpsOf]
    · have := ih h
      cases x <;> simp [tmpsOf, this]

theorem evAt_congr {tm tm' : List T} {ch : List (Nat × Bool)} {κ : Nat} {m : Mem} {op : Op} (h : ∀ t ∈ tmpsOf op.operands.toList, getT tm t = getT tm' t) : evAt E call κ tm ch m op = evAt E call κ tm' ch m op := by
  have ho : ∀ x ∈ op.operands, opd E tm x = opd E tm' x := by
    intro x hx
    cases x with
    | tmp t => exact h t (tmpsOf_mem (by simpa using hx))
    | _ => rfl
  have hC : ∀ x ∈ op.operands, opdC E tm ch x = opdC E tm' ch x := fun x hx => by unfold opdC; rw [ho x hx]
  unfold evAt
  split
  · rename_i c a b
    have hP : ∀ x ∈ (Op.pick c a b).operands, opdP E tm ch x = opdP E tm' ch x := fun x hx => by unfold opdP; rw [ho x hx]
    rw [hC c (by simp [Op.operands]), hP a (by simp [Op.operands]), hP b (by simp [Op.operands])]
  · exact evOp_congr hC

theorem chain_congr {tm tm' : List T} (h : ∀ s, ∀ n w, s ∈ (chain tm n s w).map (·.1) → True) : True := trivial

theorem chain_eq {tm tm' : List T} (good : Nat → Prop) (h : ∀ s, good s → getT tm s = getT tm' s) (hn : ∀ s s' b u, good s → getT tm s = .cnd s' b u → good s') : ∀ n s w, good s → chain tm' n s w = chain tm n s w ∧ ∀ q ∈ chain tm n s w, good q.1 := by
  intro n
  induction n with
  | zero => intro s w hs; exact ⟨rfl, fun q hq => by simp only [chain, List.mem_singleton] at hq; subst hq; exact hs⟩
  | succ n ih =>
    intro s w hs
    simp only [chain]
    rw [← h s hs]
    cases hg : getT tm s with
    | cnd s' b u =>
      obtain ⟨i1, i2⟩ := ih s' b (hn s s' b u hs hg)
      simp only [i1]
      refine ⟨trivial, fun q hq => ?_⟩
      rcases List.mem_cons.1 hq with rfl | hq
      · exact hs
      · exact i2 q hq
    | _ => exact ⟨rfl, fun q hq => by simp only [List.mem_singleton] at hq; subst hq; exact hs⟩

theorem met_eq {tm tm' : List T} : ∀ (l : List (Nat × Bool)), (∀ q ∈ l, getT tm q.1 = getT tm' q.1) → met tm' l = met tm l := by
  intro l
  induction l with
  | nil => intro _; rfl
  | cons q l ih =>
    intro h
    obtain ⟨s, w⟩ := q
    have hs := h (s, w) (by simp)
    simp only at hs
    cases l with
    | nil => simp only [met, hs]
    | cons q2 l => simp only [met, ih (fun q hq => h q (List.mem_cons_of_mem _ hq)), hs]

/-! ### the relation and lookups -/

variable {B : Base} {G : Gh} {m M : Mem} {p q : Nat → Prop} {w : World} {tm : List T} {a : Act}

theorem rel_swap (h : RelAll E B G m p w tm a) (hle : MemLe G m p G M q) (hbox : ∀ k cs, q k → lk M.boxes k = some cs → BoxOK G M q w k cs) (hgr : ∀ k g, q k → lk M.gr k = some g → GrOK G w k g) : RelAll E B G M q w tm a :=
  ⟨relTm_mono hle (Keeps.refl _ _) h.tms, ⟨hbox, hgr, h.inv.lt⟩, h.fr, h.glob, h.defers, bx_mono hle h.bx, h.sz⟩

/-- the same lookups of what is active -/
theorem rel_sub (h : RelAll E B G m p w tm a) (hq : ∀ k, p k → q k) (hb : ∀ k, p k → lk M.boxes k = lk m.boxes k) (hg : ∀ k, p k → lk M.gr k = lk m.gr k)
    (hnb : ∀ k, q k → ¬ p k → lk M.boxes k = none) (hng : ∀ k, q k → ¬ p k → lk M.gr k = none) : RelAll E B G M q w tm a := by
  have hle : MemLe G m p G M q := ⟨hq, fun k cs hk hc => ⟨rfl, cs, by rw [hb k hk]; exact hc, rfl⟩, fun k g hk hgk => ⟨g, by rw [hg k hk]; exact hgk, grLe_refl g, fun _ => rfl⟩⟩
  refine rel_swap h hle (fun k cs hk hc => ?_) (fun k g hk hgk => ?_)
  · by_cases hp : p k
    · rw [hb k hp] at hc
      exact boxOK_mono hle (Keeps.refl _ _) rfl (fun b o ho => ⟨ho, rfl, rfl⟩) (h.inv.box k cs hp hc)
    · rw [hnb k hk hp] at hc; cases hc
  · by_cases hp : p k
    · rw [hg k hp] at hgk
      exact h.inv.gr k g hp hgk
    · rw [hng k hk hp] at hgk; cases hgk

theorem rel_congr (h : RelAll E B G m p w tm a) (hb : ∀ k, lk M.boxes k = lk m.boxes k) (hg : ∀ k, lk M.gr k = lk m.gr k) : RelAll E B G M p w tm a :=
  rel_sub h (fun _ h => h) (fun k _ => hb k) (fun k _ => hg k) (fun _ h h' => absurd h h') (fun _ h h' => absurd h h')

/-- fewer are active, if no slot and no cell leads to the others -/
theorem rel_tm (h : RelAll E B G m p w tm a) {tm' : List T} (hl : tm'.length = tm.length) (ht : ∀ i, i < tm.length → getT tm' i = getT tm i) : RelAll E B G m p w tm' a :=
  ⟨⟨by rw [hl]; exact h.tms.size, fun i hi => by rw [ht i (by rw [← hl]; exact hi)]; exact h.tms.rel i (by rw [← hl]; exact hi)⟩, h.inv, h.fr, h.glob, h.defers, h.bx, by rw [hl]; exact h.sz⟩

end
end Mini

/- Regions that draw: the way through in the order of the text. -/
namespace Mini
open Go

/-- an outcome, its alternatives decided -/
def res : OpRes → OpRes
  | .alt c r s => if c = true then res r else res s
  | r => r

def noAlt : OpRes → Prop
  | .alt _ _ _ => False
  | _ => True
theorem res_noAlt : ∀ r, noAlt (res r) := by
  intro r
  induction r with
  | alt c r s ihr ihs => simp only [res]; split <;> assumption
  | _ => trivial
theorem res_still : ∀ {r}, still r = true → still (res r) = true := by
  intro r
  induction r with
  | alt c r s ihr ihs =>
    intro h
    simp only [still, Bool.and_eq_true] at h
    simp only [res]
    split
    · exact ihr h.1
    · exact ihs h.2
  | _ => exact fun h => h
theorem res_noKs : ∀ {r}, noKs r = true → noKs (res r) = true := by
  intro r
  induction r with
  | alt c r s ihr ihs =>
    intro h
    simp only [noKs, Bool.and_eq_true] at h
    simp only [res]
    split
    · exact ihr h.1
    · exact ihs h.2
  | _ => exact fun h => h
theorem out_res {κ : Nat} {m : Mem} {p p' : Nat → Prop} {u : T} {m' : Mem} : ∀ {r}, Out (res r) κ m p u m' p' → Out r κ m p u m' p' := by
  intro r
  induction r with
  | alt c r s ihr ihs =>
    intro h
    simp only [res] at h
    simp only [Out]
    split
    · rename_i hc; rw [if_pos hc] at h; exact ihr h
    · rename_i hc; rw [if_neg hc] at h; exact ihs h
  | _ => exact fun h => h

/-- what an outcome does to memory, step by step -/
def Eff (r : OpRes) (κ : Nat) (m : Mem) (u : T) (m' : Mem) : Prop :=
  match r with
  | .val ks v => u = v ∧ m' = m.share ks
  | .vpart ks _ x f => ∃ y, x = some y ∧ u = f y ∧ m' = m.share ks
  | .newB ks cs => freeM κ m = true ∧ u = .addr κ 0 ∧ m' = ⟨(κ, cs) :: m.boxes, shareKs m.gr ks⟩
  | .newG ks g => freeM κ m = true ∧ u = .own κ ∧ m' = ⟨m.boxes, (κ, g) :: shareKs m.gr ks⟩
  | .gpart ks _ x f => freeM κ m = true ∧ ∃ y, x = some y ∧ u = .own κ ∧ m' = ⟨m.boxes, (κ, f y) :: shareKs m.gr ks⟩
  | .ok v m1 => u = v ∧ m' = m1
  | .anew k _ x f => freeM κ m = true ∧ ∃ y, x = some y ∧ u = .own κ ∧ m' = ⟨m.boxes, (κ, f y) :: up m.gr k killG⟩
  | .part _ x f => freeM κ m = true ∧ ∃ y, x = some y ∧ u = (f y).1 ∧ m' = (f y).2
  | .alt _ _ _ => False
  | .bad => False

theorem run_eff {R : Type} {κ : Nat} {m : Mem} {K : T → Mem → Option R} {z : R} : ∀ {r : OpRes}, run r κ m K = some z → ∃ u m', Eff (res r) κ m u m' ∧ K u m' = some z := by
  intro r
  induction r with
  | val ks v => intro h; exact ⟨v, _, ⟨rfl, rfl⟩, h⟩
  | vpart ks τ x f =>
    intro h
    cases x with
    | none => cases h
    | some y => exact ⟨f y, _, ⟨y, rfl, rfl, rfl⟩, h⟩
  | newB ks cs => intro h; obtain ⟨hf, h⟩ := guardB_some h; exact ⟨_, _, ⟨hf, rfl, rfl⟩, h⟩
  | newG ks g => intro h; obtain ⟨hf, h⟩ := guardB_some h; exact ⟨_, _, ⟨hf, rfl, rfl⟩, h⟩
  | gpart ks τ x f =>
    intro h
    obtain ⟨hf, h⟩ := guardB_some h
    cases x with
    | none => cases h
    | some y => exact ⟨_, _, ⟨hf, y, rfl, rfl, rfl⟩, h⟩
  | ok v m' => intro h; exact ⟨v, m', ⟨rfl, rfl⟩, h⟩
  | anew k τ x f =>
    intro h
    obtain ⟨hf, h⟩ := guardB_some h
    cases x with
    | none => cases h
    | some y => exact ⟨_, _, ⟨hf, y, rfl, rfl, rfl⟩, h⟩
  | part τ x f =>
    intro h
    obtain ⟨hf, h⟩ := guardB_some h
    cases x with
    | none => cases h
    | some y => exact ⟨_, _, ⟨hf, y, rfl, rfl, rfl⟩, h⟩
  | alt c r s ihr ihs =>
    intro h
    cases c with
    | true => exact ihr h
    | false => exact ihs h
  | bad => intro h; cases h

section
variable (E : Env) (call : CallT) (rid : Nat) (all : List Oper) (ms : List Nat) (free j rt : Nat) (oj : Op)

/-- one step -/
inductive StepD (i : Nat) (o : Oper) (tm : List T) (m : Mem) : List T → Mem → Prop
  | act (u : T) (m' : Mem) (hi : i = j) (hv : notC u = true) (ha : addrAt tm o.op rt = true)
      (hk : isStore o.op = true ∨ isAnew (evAt E call (keyAt rid i) tm [] m o.op) = true ∨ (still (evAt E call (keyAt rid i) tm [] m o.op) = true ∧ noKs (evAt E call (keyAt rid i) tm [] m o.op) = true))
      (he : Eff (res (evAt E call (keyAt rid i) tm [] m o.op)) (keyAt rid i) m u m') : StepD i o tm m (putT tm o.dst u) m'
  | plain (u : T) (m' : Mem) (hi : i ≠ j) (hv : notC u = true) (hg : o.guard = none) (hk : okD ms free j oj i m (evAt E call (keyAt rid i) tm [] (seenM ms free j rt oj i tm m) o.op) = true)
      (he : Eff (res (evAt E call (keyAt rid i) tm [] (seenM ms free j rt oj i tm m) o.op)) (keyAt rid i) m u m') : StepD i o tm m (putT tm o.dst u) m'
  | cond (j0 : Nat) (b : Bool) (s : Nat) (g : Bool) (ks : List Nat) (v : T) (hi : i ≠ j) (hg : o.guard = some (j0, b)) (hs : grdOf all j0 i = some s) (hm : met tm (chain tm 8 s b) = some g)
      (hk : okD ms free j oj i m (evAt E call (keyAt rid i) tm (chain tm 8 s b) (seenM ms free j rt oj i tm m) o.op) = true) (hv : notC v = true)
      (he : evAt E call (keyAt rid i) tm (chain tm 8 s b) (seenM ms free j rt oj i tm m) o.op = .val ks v ∨
        ∃ τ x f, evAt E call (keyAt rid i) tm (chain tm 8 s b) (seenM ms free j rt oj i tm m) o.op = .vpart ks τ x f ∧ ∃ y, bsel g x (some (zero τ)) = some y ∧ v = f y) :
      StepD i o tm m (putT tm o.dst (.cnd s b v)) (m.share ks)

variable {E call rid all ms free j rt oj}

theorem trace {R : Type} {K : List T → Mem → Option R} {z : R} (hf : free ≤ all.length) : ∀ (l : List Oper) (i : Nat) (tm : List T) (m : Mem), all.drop i = l → i ≤ free → evDraw E call rid all ms free j rt oj l i tm m K = some z →
    ∃ st : Nat → List T × Mem, st i = (tm, m) ∧ (∀ q, i ≤ q → q < free → ∃ o, all[q]? = some o ∧ StepD E call rid all ms free j rt oj q o (st q).1 (st q).2 (st (q + 1)).1 (st (q + 1)).2) ∧
      evOps E call rid all (all.drop free) free (st free).1 (st free).2 K = some z := by
  intro l
  induction l with
  | nil =>
    intro i tm m hl hi he
    have hlen : all.length ≤ i := by
      have := congrArg List.length hl
      simp only [List.length_drop, List.length_nil] at this; omega
    have : i = free := by omega
    subst this
    refine ⟨fun _ => (tm, m), rfl, fun q h1 h2 => by omega, ?_⟩
    rw [hl]; exact he
  | cons o rest ih =>
    intro i tm m hl hi he
    have ho : all[i]? = some o := by
      have := congrArg (fun l => l[0]?) hl
      simpa using this
    have hrest : all.drop (i + 1) = rest := by
      have := congrArg List.tail hl
      simpa using this
    simp only [evDraw] at he
    split at he
    · rename_i hb
      have := Nat.eq_of_beq_eq_true hb
      subst this
      refine ⟨fun _ => (tm, m), rfl, fun q h1 h2 => by omega, ?_⟩
      rw [hl]; exact he
    · rename_i hb
      have hlt : i < free := by
        rcases Nat.lt_or_ge i free with h | h
        · exact h
        · have : i = free := by omega
          exact absurd (by rw [this]; simp) hb
      -- going on
      have go : ∀ tm' m', StepD E call rid all ms free j rt oj i o tm m tm' m' → evDraw E call rid all ms free j rt oj rest (i + 1) tm' m' K = some z →
          ∃ st : Nat → List T × Mem, st i = (tm, m) ∧ (∀ q, i ≤ q → q < free → ∃ o, all[q]? = some o ∧ StepD E call rid all ms free j rt oj q o (st q).1 (st q).2 (st (q + 1)).1 (st (q + 1)).2) ∧
            evOps E call rid all (all.drop free) free (st free).1 (st free).2 K = some z := by
        intro tm' m' hs hk
        obtain ⟨st, h1, h2, h3⟩ := ih (i + 1) tm' m' hrest (by omega) hk
        refine ⟨fun q => if q = i then (tm, m) else st q, by simp, fun q hq1 hq2 => ?_, ?_⟩
        · by_cases hq : q = i
          · subst hq
            refine ⟨o, ho, ?_⟩
            simp only [if_true]
            rw [if_neg (by omega), h1]
            exact hs
          · simp only [if_neg hq, if_neg (show ¬ q + 1 = i by omega)]
            exact h2 q (by omega) hq2
        · simp only [if_neg (show ¬ free = i by omega)]
          exact h3
      split at he
      · rename_i hj
        have hj := Nat.eq_of_beq_eq_true hj
        split at he
        · rename_i hc
          simp only [Bool.and_eq_true] at hc
          obtain ⟨c1, c2⟩ := hc
          obtain ⟨u, m', h1, h2⟩ := run_eff he
          obtain ⟨hnc, h2⟩ := guardB_some h2
          refine go _ _ (.act u m' hj hnc c1 ?_ h1) h2
          simp only [okJ, Bool.or_eq_true, Bool.and_eq_true] at c2
          rcases c2 with (c2 | c2) | c2
          · exact .inl c2
          · exact .inr (.inl c2)
          · exact .inr (.inr c2)
        · cases he
      · rename_i hj
        have hj : i ≠ j := by rintro rfl; exact hj (by simp)
        cases hg : o.guard with
        | none =>
          rw [hg] at he
          simp only at he
          split at he
          · rename_i hk
            obtain ⟨u, m', h1, h2⟩ := run_eff he
            obtain ⟨hnc, h2⟩ := guardB_some h2
            exact go _ _ (.plain u m' hj hnc hg hk h1) h2
          · cases he
        | some jb =>
          obtain ⟨j0, b⟩ := jb
          rw [hg] at he
          simp only at he
          split at he
          · cases he
          · rename_i s hs
            split at he
            · cases he
            · rename_i g hm
              split at he
              · rename_i hk
                split at he
                · rename_i ks v hev
                  obtain ⟨hnc, he⟩ := guardB_some he
                  exact go _ _ (.cond j0 b s g ks v hj hg hs hm hk hnc (.inl hev)) he
                · rename_i ks τ x f hev
                  cases hx : bsel g x (some (zero τ)) with
                  | none => rw [hx] at he; cases he
                  | some y =>
                    rw [hx] at he
                    obtain ⟨hnc, he⟩ := guardB_some (show guardB (notC (f y)) _ = some z from he)
                    exact go _ _ (.cond j0 b s g ks (f y) hj hg hs hm hk hnc (.inr ⟨τ, x, f, hev, y, hx, rfl⟩)) he
                · cases he
              · cases he

end
end Mini

/- Regions that draw: slots and memory along the way. -/
namespace Mini
open Go

theorem putT_len (tm : List T) (d : Option Nat) (u : T) : (putT tm d u).length = tm.length := by cases d <;> simp [putT, setT_len]
theorem putT_get {tm : List T} {d : Option Nat} {u : T} {t : Nat} (h : d ≠ some t) : getT (putT tm d u) t = getT tm t := by
  cases d with
  | none => rfl
  | some d =>
    simp only [putT, getT_setT]
    rw [if_neg]
    rintro ⟨rfl, _⟩; exact h rfl
theorem putT_self {tm : List T} {d : Nat} {u : T} (h : d < tm.length) : getT (putT tm (some d) u) d = u := by
  simp only [putT, getT_setT]; rw [if_pos ⟨trivial, h⟩]

/-- what is known stays, or is shared -/
def Grow (m m' : Mem) : Prop := (∀ k cs, lk m.boxes k = some cs → lk m'.boxes k = some cs) ∧ ∀ k g, lk m.gr k = some g → ∃ g', lk m'.gr k = some g' ∧ (g' = g ∨ g' = shareG g)
theorem Grow.refl (m : Mem) : Grow m m := ⟨fun _ _ h => h, fun _ g h => ⟨g, h, .inl rfl⟩⟩
theorem shareG_idem (g : Gr) : shareG (shareG g) = shareG g := by obtain ⟨t, xs, md, v⟩ := g; cases md <;> rfl
theorem Grow.trans {m m1 m2 : Mem} (h : Grow m m1) (h' : Grow m1 m2) : Grow m m2 := by
  refine ⟨fun k cs hc => h'.1 k cs (h.1 k cs hc), fun k g hg => ?_⟩
  obtain ⟨g1, h1, e1⟩ := h.2 k g hg
  obtain ⟨g2, h2, e2⟩ := h'.2 k g1 h1
  refine ⟨g2, h2, ?_⟩
  rcases e1 with rfl | rfl
  · exact e2
  · rcases e2 with rfl | rfl
    · exact .inr rfl
    · rw [shareG_idem]; exact .inr rfl
theorem grow_share (m : Mem) (ks : List Nat) : Grow m (m.share ks) := by
  refine ⟨fun _ _ h => h, fun k g hg => ?_⟩
  simp only [Mem.share, lk_shareKs, hg, Option.map_some]
  refine ⟨_, rfl, ?_⟩
  split
  · exact .inr rfl
  · exact .inl rfl
theorem grow_ext {m m' : Mem} (h : Grow m m') : Ext m m' := by
  refine ⟨fun k g hg => ?_, fun k cs hc => ⟨cs, h.1 k cs hc, CsLe.refl cs⟩⟩
  obtain ⟨g', h1, h2⟩ := h.2 k g hg
  rcases h2 with rfl | rfl
  · exact .inr ⟨g'.md, h1, .inl rfl⟩
  · obtain ⟨t, xs, md, v⟩ := g
    cases md with
    | dead => exact .inl rfl
    | excl => exact .inr ⟨.shared, h1, .inr ⟨rfl, rfl⟩⟩
    | shared => exact .inr ⟨.shared, h1, .inl rfl⟩

theorem freeM_lk {κ : Nat} {m : Mem} (h : freeM κ m = true) : lk m.boxes κ = none ∧ lk m.gr κ = none := by
  simp only [freeM, Bool.and_eq_true] at h
  exact ⟨lk_freeK h.1 0 (by omega), lk_freeK h.2 0 (by omega)⟩

theorem eff_grow {r : OpRes} {κ : Nat} {m m' : Mem} {u : T} (hs : still r = true) (hn : noAlt r) (he : Eff r κ m u m') : Grow m m' := by
  have add : ∀ (ks : List Nat) (κ : Nat) (g : Gr), freeM κ m = true → Grow m ⟨m.boxes, (κ, g) :: shareKs m.gr ks⟩ := by
    intro ks κ g hf
    refine ⟨fun _ _ h => h, fun k g' hg => ?_⟩
    obtain ⟨g'', h1, h2⟩ := (grow_share m ks).2 k g' hg
    refine ⟨g'', ?_, h2⟩
    rw [lk_cons, if_neg]
    · exact h1
    · rintro rfl; rw [(freeM_lk hf).2] at hg; cases hg
  cases r with
  | val ks v => obtain ⟨_, rfl⟩ := he; exact grow_share m ks
  | vpart ks τ x f => obtain ⟨y, _, _, rfl⟩ := he; exact grow_share m ks
  | newB ks cs =>
    obtain ⟨hf, _, rfl⟩ := he
    refine ⟨fun k c hc => ?_, (grow_share m ks).2⟩
    rw [lk_cons, if_neg]
    · exact hc
    · rintro rfl; rw [(freeM_lk hf).1] at hc; cases hc
  | newG ks g => obtain ⟨hf, _, rfl⟩ := he; exact add ks κ g hf
  | gpart ks τ x f => obtain ⟨hf, y, _, _, rfl⟩ := he; exact add ks κ _ hf
  | alt c r s => exact hn.elim
  | _ => cases hs

/-- the same, where nothing is shared -/
def Same (m m' : Mem) : Prop := (∀ k cs, lk m.boxes k = some cs → lk m'.boxes k = some cs) ∧ ∀ k g, lk m.gr k = some g → lk m'.gr k = some g
theorem Same.trans {m m1 m2 : Mem} (h : Same m m1) (h' : Same m1 m2) : Same m m2 := ⟨fun k cs hc => h'.1 k cs (h.1 k cs hc), fun k g hg => h'.2 k g (h.2 k g hg)⟩
theorem Same.refl (m : Mem) : Same m m := ⟨fun _ _ h => h, fun _ _ h => h⟩
theorem eff_same {r : OpRes} {κ : Nat} {m m' : Mem} {u : T} (hs : still r = true) (hn : noAlt r) (hk : noKs r = true) (he : Eff r κ m u m') : Same m m' := by
  have add : ∀ (κ : Nat) (g : Gr), freeM κ m = true → Same m ⟨m.boxes, (κ, g) :: m.gr⟩ := by
    intro κ g hf
    refine ⟨fun _ _ h => h, fun k g' hg => ?_⟩
    rw [lk_cons, if_neg]
    · exact hg
    · rintro rfl; rw [(freeM_lk hf).2] at hg; cases hg
  cases r with
  | val ks v => cases ks with
    | nil => obtain ⟨_, rfl⟩ := he; exact Same.refl m
    | cons k ks => cases hk
  | vpart ks τ x f => cases ks with
    | nil => obtain ⟨y, _, _, rfl⟩ := he; exact Same.refl m
    | cons k ks => cases hk
  | newB ks cs => cases ks with
    | nil =>
      obtain ⟨hf, _, rfl⟩ := he
      refine ⟨fun k c hc => ?_, fun _ _ h => h⟩
      rw [lk_cons, if_neg]
      · exact hc
      · rintro rfl; rw [(freeM_lk hf).1] at hc; cases hc
    | cons k ks => cases hk
  | newG ks g => cases ks with
    | nil => obtain ⟨hf, _, rfl⟩ := he; exact add κ g hf
    | cons k ks => cases hk
  | gpart ks τ x f => cases ks with
    | nil => obtain ⟨hf, y, _, _, rfl⟩ := he; exact add κ _ hf
    | cons k ks => cases hk
  | alt c r s => exact hn.elim
  | _ => cases hs

/-- which keys an outcome makes -/
theorem eff_keys {r : OpRes} {κ : Nat} {m m' : Mem} {u : T} (hs : still r = true) (hn : noAlt r) (he : Eff r κ m u m') :
    (∀ k, k ≠ κ → lk m.boxes k = none → lk m'.boxes k = none) ∧ (∀ k, k ≠ κ → lk m.gr k = none → lk m'.gr k = none) := by
  have sh : ∀ (ks : List Nat) k, lk m.gr k = none → lk (shareKs m.gr ks) k = none := fun ks k h => by rw [lk_shareKs, h]; rfl
  have add : ∀ (ks : List Nat) (g : Gr) k, k ≠ κ → lk m.gr k = none → lk ((κ, g) :: shareKs m.gr ks) k = none := fun ks g k hk h => by rw [lk_cons, if_neg (Ne.symm hk)]; exact sh ks k h
  cases r with
  | val ks v => obtain ⟨_, rfl⟩ := he; exact ⟨fun _ _ h => h, fun k _ h => sh ks k h⟩
  | vpart ks τ x f => obtain ⟨y, _, _, rfl⟩ := he; exact ⟨fun _ _ h => h, fun k _ h => sh ks k h⟩
  | newB ks cs =>
    obtain ⟨hf, _, rfl⟩ := he
    exact ⟨fun k hk h => by rw [lk_cons, if_neg (Ne.symm hk)]; exact h, fun k _ h => sh ks k h⟩
  | newG ks g => obtain ⟨hf, _, rfl⟩ := he; exact ⟨fun _ _ h => h, fun k hk h => add ks g k hk h⟩
  | gpart ks τ x f => obtain ⟨hf, y, _, _, rfl⟩ := he; exact ⟨fun _ _ h => h, fun k hk h => add ks _ k hk h⟩
  | alt c r s => exact hn.elim
  | _ => cases hs

theorem keyAt_inj {rid i j : Nat} (h : keyAt rid i = keyAt rid j) : i = j := by unfold keyAt at h; omega

section
variable {E : Env} {call : CallT} {rid : Nat} {all : List Oper} {ms : List Nat} {free j rt : Nat} {oj : Op} {st : Nat → List T × Mem}

def Way (E : Env) (call : CallT) (rid : Nat) (all : List Oper) (ms : List Nat) (free j rt : Nat) (oj : Op) (st : Nat → List T × Mem) : Prop :=
  ∀ q, q < free → ∃ o, all[q]? = some o ∧ StepD E call rid all ms free j rt oj q o (st q).1 (st q).2 (st (q + 1)).1 (st (q + 1)).2

theorem step_put {q : Nat} {o : Oper} {tm tm' : List T} {m m' : Mem} (h : StepD E call rid all ms free j rt oj q o tm m tm' m') : ∃ u, tm' = putT tm o.dst u ∧ (notC u = true ∨ ∃ j0 b s v, u = .cnd s b v ∧ notC v = true ∧ o.guard = some (j0, b) ∧ grdOf all j0 q = some s) := by
  cases h with
  | act u m' hi hv ha hk he => exact ⟨u, rfl, .inl hv⟩
  | plain u m' hi hv hg hk he => exact ⟨u, rfl, .inl hv⟩
  | cond j0 b s g ks v hi hg hs hm hk hv he => exact ⟨_, rfl, .inr ⟨j0, b, s, v, rfl, hv, hg, hs⟩⟩

theorem way_len (hw : Way E call rid all ms free j rt oj st) : ∀ q, q ≤ free → (st q).1.length = (st 0).1.length := by
  intro q
  induction q with
  | zero => intro _; rfl
  | succ q ih =>
    intro hq
    obtain ⟨o, _, hs⟩ := hw q (by omega)
    obtain ⟨u, e, _⟩ := step_put hs
    rw [e, putT_len, ih (by omega)]

theorem way_keep (hw : Way E call rid all ms free j rt oj st) {t i : Nat} : ∀ q, i ≤ q → q ≤ free → (∀ r o, i ≤ r → r < q → all[r]? = some o → o.dst ≠ some t) → getT (st q).1 t = getT (st i).1 t := by
  intro q
  induction q with
  | zero => intro h _ _; have : i = 0 := by omega
            subst this; rfl
  | succ q ih =>
    intro h1 h2 h3
    by_cases hi : i = q + 1
    · subst hi; rfl
    · obtain ⟨o, ho, hs⟩ := hw q (by omega)
      obtain ⟨u, e, _⟩ := step_put hs
      rw [e, putT_get (h3 q o (by omega) (by omega) ho)]
      exact ih (by omega) (by omega) (fun r o hr1 hr2 => h3 r o hr1 (by omega))

/-- who lays a slot is one -/
theorem lay_one (hap : apartD all = true) {i q : Nat} {o x : Oper} {t : Nat} (ho : all[i]? = some o) (hx : all[q]? = some x) (h1 : o.dst = some t) (h2 : x.dst = some t) : i = q := by
  rcases Nat.lt_trichotomy i q with h | h | h
  · exact absurd h2 (apartD_spec hap h ho hx h1)
  · exact h
  · exact absurd h1 (apartD_spec hap h hx ho h2)

/-- a slot that operation q lays is as it was before q, and as in the end behind it -/
theorem way_slot (hw : Way E call rid all ms free j rt oj st) (hap : apartD all = true) {q t : Nat} {o : Oper} (ho : all[q]? = some o) (hd : o.dst = some t) (i : Nat) (hi : i ≤ free) :
    (i ≤ q → getT (st i).1 t = getT (st 0).1 t) ∧ (q < i → getT (st i).1 t = getT (st free).1 t) := by
  refine ⟨fun h => way_keep hw i (Nat.zero_le _) hi fun r x _ hr hx hd' => ?_, fun h => (way_keep hw free hi (Nat.le_refl _) fun r x hr _ hx hd' => ?_).symm⟩
  · have := lay_one hap ho hx hd hd'; omega
  · have := lay_one hap ho hx hd hd'; omega
theorem way_noslot (hw : Way E call rid all ms free j rt oj st) {t : Nat} (hn : ∀ q o, q < free → all[q]? = some o → o.dst ≠ some t) (i : Nat) (hi : i ≤ free) : getT (st i).1 t = getT (st 0).1 t :=
  way_keep hw i (Nat.zero_le _) hi fun r o _ hr ho => hn r o (by omega) ho

/-- a slot under a guard is laid by a guarded operation -/
theorem way_cnd (hw : Way E call rid all ms free j rt oj st) (hn : NoC (st 0).1) : ∀ i, i ≤ free → ∀ t s b v, getT (st i).1 t = .cnd s b v → notC v = true ∧ ∃ q o j0, q < i ∧ all[q]? = some o ∧ o.dst = some t ∧ o.guard = some (j0, b) ∧ grdOf all j0 q = some s := by
  intro i
  induction i with
  | zero => intro _ t s b v h; exact absurd h (hn t s b v)
  | succ i ih =>
    intro hi t s b v h
    obtain ⟨o, ho, hs⟩ := hw i (by omega)
    obtain ⟨u, e, hu⟩ := step_put hs
    by_cases hd : o.dst = some t
    · by_cases hlt : t < (st i).1.length
      · rw [e, hd, putT_self hlt] at h
        rcases hu with hu | ⟨j0, b', s', v', rfl, h0, h1, h2⟩
        · rw [h] at hu; cases hu
        · injection h with h3 h4 h5
          subst h3; subst h4; subst h5
          exact ⟨h0, i, o, j0, by omega, ho, hd, h1, h2⟩
      · rw [getT_ge _ _ (by rw [e, putT_len]; omega)] at h; cases h
    · rw [e, putT_get hd] at h
      obtain ⟨h0, q, o', j0, h1, h2⟩ := ih (by omega) t s b v h
      exact ⟨h0, q, o', j0, by omega, h2⟩

/-- steps other than the act -/
theorem step_other {q : Nat} {o : Oper} {tm tm' : List T} {m m' : Mem} (hqj : q ≠ j) (h : StepD E call rid all ms free j rt oj q o tm m tm' m') :
    Grow m m' ∧ (∀ k, k ≠ keyAt rid q → lk m.boxes k = none → lk m'.boxes k = none) ∧ (∀ k, k ≠ keyAt rid q → lk m.gr k = none → lk m'.gr k = none) ∧
    (j < free → isStore oj = false → bef ms j q = false → Same m m') := by
  have okn : ∀ {r}, okD ms free j oj q m r = true → j < free → isStore oj = false → bef ms j q = false → noKs r = true := by
    intro r hk h1 h2 h3
    simp only [okD, Bool.and_eq_true, Bool.or_eq_true, Bool.not_eq_true', h2, h3, Bool.false_eq_true, or_false] at hk
    rcases hk.1.2 with h | h
    · exact h
    · have : Nat.blt j free = true := by rw [Nat.blt_eq]; exact h1
      rw [this] at h; cases h
  have oks : ∀ {r}, okD ms free j oj q m r = true → still r = true := fun hk => by simp only [okD, Bool.and_eq_true] at hk; exact hk.1.1
  cases h with
  | act u m' hi => exact absurd hi hqj
  | plain u m' hi hv hg hk he =>
    have hs := res_still (oks hk)
    obtain ⟨k1, k2⟩ := eff_keys hs (res_noAlt _) he
    exact ⟨eff_grow hs (res_noAlt _) he, k1, k2, fun h1 h2 h3 => eff_same hs (res_noAlt _) (res_noKs (okn hk h1 h2 h3)) he⟩
  | cond j0 b s g ks v hi hg hs hm hk hv he =>
    refine ⟨grow_share m ks, fun _ _ h => h, fun k _ h => by simp only [Mem.share, lk_shareKs, h]; rfl, fun h1 h2 h3 => ?_⟩
    have hks : ks = [] := by
      have := okn hk h1 h2 h3
      rcases he with he | ⟨τ, x, f, he, _⟩ <;> rw [he] at this
      · cases ks with
        | nil => rfl
        | cons => cases this
      · cases ks with
        | nil => rfl
        | cons => cases this
    subst hks
    exact Same.refl m

theorem way_grow (hw : Way E call rid all ms free j rt oj st) {i : Nat} : ∀ q, i ≤ q → q ≤ free → (∀ r, i ≤ r → r < q → r ≠ j) → Grow (st i).2 (st q).2 := by
  intro q
  induction q with
  | zero => intro h _ _; have : i = 0 := by omega
            subst this; exact Grow.refl _
  | succ q ih =>
    intro h1 h2 h3
    by_cases hi : i = q + 1
    · subst hi; exact Grow.refl _
    · obtain ⟨o, ho, hs⟩ := hw q (by omega)
      exact (ih (by omega) (by omega) (fun r hr1 hr2 => h3 r hr1 (by omega))).trans (step_other (h3 q (by omega) (by omega)) hs).1

theorem way_same (hw : Way E call rid all ms free j rt oj st) (hj : j < free) (hns : isStore oj = false) {i : Nat} : ∀ q, i ≤ q → q ≤ free → (∀ r, i ≤ r → r < q → r ≠ j ∧ bef ms j r = false) → Same (st i).2 (st q).2 := by
  intro q
  induction q with
  | zero => intro h _ _; have : i = 0 := by omega
            subst this; exact Same.refl _
  | succ q ih =>
    intro h1 h2 h3
    by_cases hi : i = q + 1
    · subst hi; exact Same.refl _
    · obtain ⟨o, ho, hs⟩ := hw q (by omega)
      obtain ⟨h4, h5⟩ := h3 q (by omega) (by omega)
      exact (ih (by omega) (by omega) (fun r hr1 hr2 => h3 r hr1 (by omega))).trans ((step_other h4 hs).2.2.2 hj hns h5)

/-- keys that the operations of a stretch do not make -/
theorem way_none (hw : Way E call rid all ms free j rt oj st) {i k : Nat} : ∀ q, i ≤ q → q ≤ free → (∀ r, i ≤ r → r < q → r ≠ j ∧ k ≠ keyAt rid r) → (lk (st i).2.boxes k = none → lk (st q).2.boxes k = none) ∧ (lk (st i).2.gr k = none → lk (st q).2.gr k = none) := by
  intro q
  induction q with
  | zero => intro h _ _; have : i = 0 := by omega
            subst this; exact ⟨fun h => h, fun h => h⟩
  | succ q ih =>
    intro h1 h2 h3
    by_cases hi : i = q + 1
    · subst hi; exact ⟨fun h => h, fun h => h⟩
    · obtain ⟨o, ho, hs⟩ := hw q (by omega)
      obtain ⟨h4, h5⟩ := h3 q (by omega) (by omega)
      obtain ⟨i1, i2⟩ := ih (by omega) (by omega) (fun r hr1 hr2 => h3 r hr1 (by omega))
      obtain ⟨_, s1, s2, _⟩ := step_other h4 hs
      exact ⟨fun h => s1 k h5 (i1 h), fun h => s2 k h5 (i2 h)⟩

end
end Mini

/- Regions that draw: memory ahead of the one act and behind it; where there is none. -/
namespace Mini
open Go

theorem lk_killAll : ∀ (gr : List (Nat × Gr)) (k : Nat), lk (killAll gr) k = (lk gr k).map killG := by
  intro gr
  induction gr with
  | nil => intro k; rfl
  | cons x gr ih =>
    intro k
    obtain ⟨q, g⟩ := x
    simp only [killAll, lk_cons]
    split
    · rfl
    · exact ih k
theorem unkCs_len : ∀ l : List T, (unkCs l).length = l.length := by
  intro l; induction l with
  | nil => rfl
  | cons x l ih => simp [unkCs, ih]
theorem unkCs_get : ∀ (l : List T) (i : Nat), getT (unkCs l) i = .unk := by
  intro l; induction l with
  | nil => intro i; rfl
  | cons x l ih => intro i; cases i with
    | zero => rfl
    | succ i => exact ih i

/-- where operation i is executed: is the act behind it? -/
def Cons (ms : List Nat) (free j i : Nat) (c : Bool) : Prop := (c = true → j < free ∧ bef ms j i = false) ∧ (c = false → j < free → bef ms i j = false)

/-- what is known of memory ahead of the act (MO) and in the end -/
structure Plan (rid : Nat) (ms : List Nat) (free j rt : Nat) (oj : Op) (st : Nat → List T × Mem) (MO : Mem) (tB tG : Nat → Prop) : Prop where
  seen : ∀ i, i < free → i ≠ j → ∀ c, Cons ms free j i c → Ext (seenM ms free j rt oj i (st i).1 (st i).2) (if c = true then (st free).2 else MO)
  shr : ∀ i, i < free → i ≠ j → ∀ c, Cons ms free j i c → (j < free → isStore oj = false → bef ms j i = true) → ∀ k g g', lk (st (i + 1)).2.gr k = some g → g.md ≠ .excl → lk (if c = true then (st free).2 else MO).gr k = some g' → g'.md ≠ .excl
  nbx : ∀ i, i < free → i ≠ j → ∀ c, Cons ms free j i c → lk (st i).2.boxes (keyAt rid i) = none → ∀ cs, lk (st (i + 1)).2.boxes (keyAt rid i) = some cs → lk (if c = true then (st free).2 else MO).boxes (keyAt rid i) = some cs ∨ (c = true ∧ tB (keyAt rid i))
  nbg : ∀ i, i < free → i ≠ j → ∀ c, Cons ms free j i c → lk (st (i + 1)).2.gr (keyAt rid i) = none → lk (if c = true then (st free).2 else MO).gr (keyAt rid i) = none
  ngr : ∀ i, i < free → i ≠ j → ∀ c, Cons ms free j i c → lk (st i).2.gr (keyAt rid i) = none → ∀ g, lk (st (i + 1)).2.gr (keyAt rid i) = some g → (∃ g', lk (if c = true then (st free).2 else MO).gr (keyAt rid i) = some g' ∧ (g' = g ∨ g' = shareG g)) ∨ (c = true ∧ tG (keyAt rid i))
  ngb : ∀ i, i < free → i ≠ j → ∀ c, Cons ms free j i c → lk (st (i + 1)).2.boxes (keyAt rid i) = none → lk (if c = true then (st free).2 else MO).boxes (keyAt rid i) = none
  initB : ∀ k, lk (st 0).2.boxes k = none ∨ lk MO.boxes k = lk (st 0).2.boxes k
  initG : ∀ k, lk (st 0).2.gr k = none ∨ ∃ g, lk (st 0).2.gr k = some g ∧ (lk MO.gr k = some g ∨ lk MO.gr k = some (shareG g))
  none : ∀ k, (∀ i, i < free → k ≠ keyAt rid i ∨ (¬ (lk (st i).2.boxes k = none ∧ lk (st (i + 1)).2.boxes k ≠ none) ∧ ¬ (lk (st i).2.gr k = none ∧ lk (st (i + 1)).2.gr k ≠ none))) →
    (lk (st 0).2.boxes k = none → lk MO.boxes k = none) ∧ (lk (st 0).2.gr k = none → lk MO.gr k = none)

/-- a step that turns nothing -/
structure Mild (κ : Nat) (m m' : Mem) : Prop where
  grow : Grow m m'
  nb : ∀ k, k ≠ κ → lk m.boxes k = none → lk m'.boxes k = none
  ng : ∀ k, k ≠ κ → lk m.gr k = none → lk m'.gr k = none

section
variable {E : Env} {call : CallT} {rid : Nat} {all : List Oper} {ms : List Nat} {free j rt : Nat} {oj : Op} {st : Nat → List T × Mem}

theorem mild_of (hw : Way E call rid all ms free j rt oj st) {q : Nat} (hq : q < free) (hj : q ≠ j) : Mild (keyAt rid q) (st q).2 (st (q + 1)).2 := by
  obtain ⟨o, _, hs⟩ := hw q hq
  obtain ⟨h1, h2, h3, _⟩ := step_other hj hs
  exact ⟨h1, h2, h3⟩

theorem mild_grow {f : Nat → Mem} {i : Nat} : ∀ q, i ≤ q → (∀ r, i ≤ r → r < q → Grow (f r) (f (r + 1))) → Grow (f i) (f q) := by
  intro q
  induction q with
  | zero => intro h _; have : i = 0 := by omega
            subst this; exact Grow.refl _
  | succ q ih =>
    intro h1 h3
    by_cases hi : i = q + 1
    · subst hi; exact Grow.refl _
    · exact (ih (by omega) (fun r hr1 hr2 => h3 r hr1 (by omega))).trans (h3 q (by omega) (by omega))

theorem seq_none {f : Nat → Mem} {i : Nat} {P : Mem → Prop} : ∀ q, i ≤ q → (∀ r, i ≤ r → r < q → P (f r) → P (f (r + 1))) → P (f i) → P (f q) := by
  intro q
  induction q with
  | zero => intro h _ hp; have : i = 0 := by omega
            subst this; exact hp
  | succ q ih =>
    intro h1 h3 hp
    by_cases hi : i = q + 1
    · subst hi; exact hp
    · exact h3 q (by omega) (by omega) (ih (by omega) (fun r hr1 hr2 => h3 r hr1 (by omega)) hp)

/-- what the act hides, hidden as a slice -/
theorem hide_kill {tm : List T} {m M : Mem} {o : Op} (ho : isStore o = false) (h : ∀ k cs, lk m.boxes k = some cs → lk M.boxes k = some cs) : Ext (hideM tm m o rt) M := by
  unfold hideM
  rw [ho]
  refine ⟨fun k g hg => ?_, fun k cs hc => ⟨cs, h k cs hc, CsLe.refl cs⟩⟩
  simp only [Bool.false_eq_true, if_false, lk_killAll] at hg
  cases hx : lk m.gr k with
  | none => rw [hx] at hg; cases hg
  | some g0 => rw [hx] at hg; obtain rfl := Option.some.inj hg; exact .inl rfl

theorem plan_mild (hm : ∀ q, q < free → Mild (keyAt rid q) (st q).2 (st (q + 1)).2) (hs : j < free → isStore oj = false) : Plan rid ms free j rt oj st (st free).2 (fun _ => False) (fun _ => False) := by
  have hite : ∀ c : Bool, (if c = true then (st free).2 else (st free).2) = (st free).2 := fun c => by cases c <;> rfl
  have hg : ∀ i, i ≤ free → Grow (st i).2 (st free).2 := fun i hi => mild_grow (f := fun q => (st q).2) free hi fun r _ hr => (hm r hr).grow
  have hnb : ∀ i, i < free → lk (st (i + 1)).2.boxes (keyAt rid i) = none → lk (st free).2.boxes (keyAt rid i) = none := fun i hi h =>
    seq_none (f := fun q => (st q).2) (P := fun m => lk m.boxes (keyAt rid i) = none) free (show i + 1 ≤ free from hi) (fun r hr1 hr2 h => (hm r hr2).nb _ (fun he => by have := keyAt_inj he; omega) h) h
  have hng : ∀ i, i < free → lk (st (i + 1)).2.gr (keyAt rid i) = none → lk (st free).2.gr (keyAt rid i) = none := fun i hi h =>
    seq_none (f := fun q => (st q).2) (P := fun m => lk m.gr (keyAt rid i) = none) free (show i + 1 ≤ free from hi) (fun r hr1 hr2 h => (hm r hr2).ng _ (fun he => by have := keyAt_inj he; omega) h) h
  refine ⟨fun i hi hij c _ => ?_, fun i hi hij c _ _ k g g' h1 h2 h3 => ?_, fun i hi hij c _ _ cs h => ?_, fun i hi hij c _ h => ?_, fun i hi hij c _ _ g h => ?_, fun i hi hij c _ h => ?_, fun k => ?_, fun k => ?_, fun k hk => ⟨fun h => ?_, fun h => ?_⟩⟩
  · rw [hite]
    unfold seenM
    split
    · rename_i hc
      simp only [Bool.and_eq_true, Nat.blt_eq] at hc
      exact hide_kill (hs hc.1.1) (hg i (by omega)).1
    · exact grow_ext (hg i (by omega))
  · rw [hite] at h3
    obtain ⟨g2, e1, e2⟩ := (hg (i + 1) hi).2 k g h1
    rw [h3] at e1
    obtain rfl := Option.some.inj e1
    rcases e2 with rfl | rfl
    · exact h2
    · rw [shareG_of h2]; exact h2
  · rw [hite]; exact .inl ((hg (i + 1) hi).1 _ _ h)
  · rw [hite]; exact hng i hi h
  · rw [hite]; exact .inl ((hg (i + 1) hi).2 _ _ h)
  · rw [hite]; exact hnb i hi h
  · cases h : lk (st 0).2.boxes k with
    | none => exact .inl rfl
    | some cs => exact .inr ((hg 0 (Nat.zero_le _)).1 k cs h)
  · cases h : lk (st 0).2.gr k with
    | none => exact .inl rfl
    | some g =>
      obtain ⟨g', e1, e2⟩ := (hg 0 (Nat.zero_le _)).2 k g h
      refine .inr ⟨g, rfl, ?_⟩
      rcases e2 with rfl | rfl
      · exact .inl e1
      · exact .inr e1
  · refine seq_none (f := fun q => (st q).2) (P := fun m => lk m.boxes k = none) free (Nat.zero_le _) (fun r _ hr h => ?_) h
    rcases hk r hr with hk | ⟨hk, _⟩
    · exact (hm r hr).nb k hk h
    · by_cases hx : lk (st (r + 1)).2.boxes k = none
      · exact hx
      · exact absurd ⟨h, hx⟩ hk
  · refine seq_none (f := fun q => (st q).2) (P := fun m => lk m.gr k = none) free (Nat.zero_le _) (fun r _ hr h => ?_) h
    rcases hk r hr with hk | ⟨_, hk⟩
    · exact (hm r hr).ng k hk h
    · by_cases hx : lk (st (r + 1)).2.gr k = none
      · exact hx
      · exact absurd ⟨h, hx⟩ hk

end
end Mini

/- Regions that draw: where the act is a store. -/
namespace Mini
open Go

theorem storable_keep {m M : Mem} (h : ∀ k, alive m k = true → alive M k = true) {u : T} (hs : storable m u = true) : storable M u = true := by
  cases u with
  | own k => exact h k hs
  | _ => exact hs

theorem storeT_addr {E : Env} {m : Mem} {tid b off : Nat} {v : T} : storeT E m tid (.addr b off) v = .bad ∨ ∃ cs new, lk m.boxes b = some cs ∧ off + new.length ≤ cs.length ∧ storeT E m tid (.addr b off) v = .ok .unk ⟨setB m.boxes b (setCells cs off new), m.gr⟩ ∧
    ∀ M : Mem, lk M.boxes b = some cs → (∀ k, alive m k = true → alive M k = true) → storeT E M tid (.addr b off) v = .ok .unk ⟨setB M.boxes b (setCells cs off new), M.gr⟩ := by
  have one : ∀ cs, lk m.boxes b = some cs → (∀ M : Mem, lk M.boxes b = some cs → storeT E M tid (.addr b off) v = if storable M v = true ∧ off < cs.length then .ok .unk ⟨setB M.boxes b (setCells cs off [v]), M.gr⟩ else .bad) →
      storeT E m tid (.addr b off) v = .bad ∨ ∃ cs new, lk m.boxes b = some cs ∧ off + new.length ≤ cs.length ∧ storeT E m tid (.addr b off) v = .ok .unk ⟨setB m.boxes b (setCells cs off new), m.gr⟩ ∧
        ∀ M : Mem, lk M.boxes b = some cs → (∀ k, alive m k = true → alive M k = true) → storeT E M tid (.addr b off) v = .ok .unk ⟨setB M.boxes b (setCells cs off new), M.gr⟩ := by
    intro cs hc h
    by_cases hs : storable m v = true ∧ off < cs.length
    · refine .inr ⟨cs, [v], hc, by simp; omega, by rw [h m hc, if_pos hs], fun M hM ha => by rw [h M hM, if_pos ⟨storable_keep ha hs.1, hs.2⟩]⟩
    · exact .inl (by rw [h m hc, if_neg hs])
  cases hc : lk m.boxes b with
  | none => left; simp only [storeT, hc]
  | some cs =>
    cases ht : E.ty tid with
    | none =>
      by_cases ho : E.one tid = true
      · have := one cs hc fun M hM => (by simp only [storeT, hM, ht, ho, true_and])
        rw [hc] at this; exact this
      · left; simp only [storeT, hc, ht]; rw [if_neg (fun h => ho h.1)]
    | some t =>
      by_cases ha : t.isAgg = true
      · cases v with
        | dat u x =>
          cases hq : Ty.eq? u t with
          | none => left; simp only [storeT, hc, ht, ha, if_true, hq]
          | some q =>
            by_cases hl : off + u.size ≤ cs.length
            · refine .inr ⟨cs, expl u x, rfl, by rw [expl_len]; exact hl, by simp only [storeT, hc, ht, ha, if_true, hq, if_pos hl], fun M hM _ => by simp only [storeT, hM, ht, ha, if_true, hq, if_pos hl]⟩
            · left; simp only [storeT, hc, ht, ha, if_true, hq, if_neg hl]
        | agv u l =>
          cases hq : Ty.eq? u t with
          | none => left; simp only [storeT, hc, ht, ha, if_true, hq]
          | some q =>
            by_cases hl : l.length = u.size ∧ off + u.size ≤ cs.length
            · refine .inr ⟨cs, l, rfl, by rw [hl.1]; exact hl.2, by simp only [storeT, hc, ht, ha, if_true, hq, if_pos hl], fun M hM _ => by simp only [storeT, hM, ht, ha, if_true, hq, if_pos hl]⟩
            · left; simp only [storeT, hc, ht, ha, if_true, hq, if_neg hl]
        | _ => left; simp only [storeT, hc, ht, ha, if_true]
      · have := one cs hc fun M hM => (by simp only [storeT, hM, ht, ha, Bool.false_eq_true, if_false])
        rw [hc] at this; exact this

theorem madeIn_spec {j d : Nat} : ∀ {l : List Oper} {n : Nat}, madeIn j d l n = true → ∀ (q : Nat) (o : Oper), l[q]? = some o → o.dst = some d → n + q < j ∧ o.guard = none ∧ ∃ t, o.op = .alloc t := by
  intro l
  induction l with
  | nil => intro n _ q o h; simp at h
  | cons x l ih =>
    intro n h q o ho hd
    simp only [madeIn, Bool.and_eq_true] at h
    cases q with
    | zero =>
      obtain rfl := Option.some.inj (show some x = some o from ho)
      have h1 := h.1
      rw [hd] at h1
      simp only [Bool.or_eq_true, Bool.not_eq_true', Bool.and_eq_true] at h1
      rcases h1 with h1 | ⟨h1, h2⟩
      · have : Nat.beq d d = true := by simp
        rw [this] at h1; cases h1
      · have h1 : n < j := by rw [← Nat.blt_eq]; exact h1
        split at h2
        · rename_i t e1 e2; exact ⟨by omega, e2, t, e1⟩
        · cases h2
    | succ q =>
      have := ih h.2 q o (by simpa using ho) hd
      exact ⟨by omega, this.2⟩

theorem lk_up (l : List (Nat × List T)) (k n : Nat) (f : List T → List T) : lk (up l k f) n = if n = k then (lk l k).map f else lk l n := by
  by_cases h : n = k
  · subst h; rw [if_pos rfl, lk_up_self]
  · rw [if_neg h, lk_up_ne _ _ h]

section
variable {E : Env} {call : CallT} {rid : Nat} {all : List Oper} {ms : List Nat} {free j rt : Nat} {oj : Op} {st : Nat → List T × Mem}

theorem plan_store (hw : Way E call rid all ms free j rt oj st) (hap : apartD all = true) (hj : j < free) {b off d : Nat} {cs new : List T} (hoj : isStore oj = true)
    (hbj : ∀ i, bef ms j i = true → i < j) (hbi : ∀ i, i < free → bef ms i j = true → j < i)
    (hd : getT (st j).1 d = .addr b off) (hr : sameBox (getT (st j).1 d) (getT (st j).1 rt) = true) (hmade : madeIn j rt all 0 = true) (hfl : free ≤ all.length)
    (hcs : lk (st j).2.boxes b = some cs) (hlen : off + new.length ≤ cs.length) (hnext : (st (j + 1)).2 = ⟨setB (st j).2.boxes b (setCells cs off new), (st j).2.gr⟩) :
    Plan rid ms free j rt oj st ⟨up (st free).2.boxes b (fun _ => cs), (st free).2.gr⟩ (fun k => k = b) (fun _ => False) := by
  have hmild := fun q (hq : q < free) (hqj : q ≠ j) => mild_of hw hq hqj
  have g1 : ∀ i, i ≤ j → Grow (st i).2 (st j).2 := fun i hi => mild_grow (f := fun q => (st q).2) j hi fun r _ hr => (hmild r (by omega) (by omega)).grow
  have g2 : ∀ i q, j < i → i ≤ q → q ≤ free → Grow (st i).2 (st q).2 := fun i q h1 h2 h3 => mild_grow (f := fun q => (st q).2) q h2 fun r hr1 hr2 => (hmild r (by omega) (by omega)).grow
  have hb1 : lk (st (j + 1)).2.boxes b = some (setCells cs off new) := by rw [hnext, lk_setB, if_pos rfl, hcs]; rfl
  have hk1 : ∀ k, k ≠ b → lk (st (j + 1)).2.boxes k = lk (st j).2.boxes k := fun k hk => by rw [hnext, lk_setB, if_neg hk]
  have hgr1 : (st (j + 1)).2.gr = (st j).2.gr := by rw [hnext]
  have hMN : lk (st free).2.boxes b = some (setCells cs off new) := (g2 (j + 1) free (by omega) (by omega) (Nat.le_refl _)).1 _ _ hb1
  have hMO : ∀ k, lk (up (st free).2.boxes b (fun _ => cs)) k = if k = b then some cs else lk (st free).2.boxes k := fun k => by
    rw [lk_up]; split
    · rw [hMN]; rfl
    · rfl
  have hsl : (setCells cs off new).length = cs.length := setCells_len hlen
  -- boxes other than b, and entries, grow all the way
  have gb : ∀ i, i ≤ free → ∀ k c, k ≠ b → lk (st i).2.boxes k = some c → lk (st free).2.boxes k = some c := by
    intro i hi k c hk hc
    by_cases hij : i ≤ j
    · have := (g1 i hij).1 k c hc
      rw [← hk1 k hk] at this
      exact (g2 (j + 1) free (by omega) (by omega) (Nat.le_refl _)).1 k c this
    · exact (g2 i free (by omega) hi (Nat.le_refl _)).1 k c hc
  have gg : ∀ i, i ≤ free → ∀ k g, lk (st i).2.gr k = some g → ∃ g', lk (st free).2.gr k = some g' ∧ (g' = g ∨ g' = shareG g) := by
    intro i hi
    by_cases hij : i ≤ j
    · have h2 : Grow ⟨[], (st j).2.gr⟩ ⟨[], (st free).2.gr⟩ := ⟨fun _ _ h => (by cases h), fun k g hg => (g2 (j + 1) free (by omega) (by omega) (Nat.le_refl _)).2 k g (by rw [hgr1]; exact hg)⟩
      have h1 : Grow ⟨[], (st i).2.gr⟩ ⟨[], (st j).2.gr⟩ := ⟨fun _ _ h => (by cases h), (g1 i hij).2⟩
      exact (h1.trans h2).2
    · exact (g2 i free (by omega) hi (Nat.le_refl _)).2
  have gbb : ∀ i, i ≤ free → ∀ c, lk (st i).2.boxes b = some c → c.length = cs.length ∧ (i ≤ j → c = cs) ∧ (j < i → c = setCells cs off new) := by
    intro i hi c hc
    by_cases hij : i ≤ j
    · have := (g1 i hij).1 b c hc
      rw [hcs] at this
      obtain rfl := Option.some.inj this
      exact ⟨rfl, fun _ => rfl, fun h => by omega⟩
    · have := (g2 i free (by omega) hi (Nat.le_refl _)).1 b c hc
      rw [hMN] at this
      obtain rfl := Option.some.inj this
      exact ⟨hsl, fun h => by omega, fun _ => rfl⟩
  have grE : ∀ i, i ≤ free → GrExt (st i).2.gr (st free).2.gr := fun i hi =>
    (grow_ext (m := ⟨[], (st i).2.gr⟩) (m' := ⟨[], (st free).2.gr⟩) ⟨fun _ _ h => (by cases h), gg i hi⟩).gr
  have E1 : ∀ i, i ≤ j → Ext (st i).2 ⟨up (st free).2.boxes b (fun _ => cs), (st free).2.gr⟩ := by
    intro i hi
    refine ⟨grE i (by omega), fun k c hc => ?_⟩
    simp only [hMO]
    by_cases hk : k = b
    · subst hk
      obtain ⟨_, e, _⟩ := gbb i (by omega) c hc
      rw [if_pos rfl, e hi]
      exact ⟨_, rfl, CsLe.refl _⟩
    · rw [if_neg hk]
      exact ⟨c, gb i (by omega) k c hk hc, CsLe.refl c⟩
  have E2 : ∀ i, j < i → i ≤ free → Ext (st i).2 (st free).2 := fun i hi hif => grow_ext (g2 i free hi hif (Nat.le_refl _))
  -- the root
  have hrootj : ∃ x, getT (st j).1 rt = .addr b x := by
    rw [hd] at hr
    cases hx : getT (st j).1 rt with
    | addr i x =>
      rw [hx] at hr
      have : b = i := Nat.eq_of_beq_eq_true hr
      subst this
      exact ⟨x, rfl⟩
    | _ => rw [hx] at hr; cases hr
  have root : ∀ i, i < free → (∃ x, getT (st i).1 rt = .addr b x) ∨ lk (st i).2.boxes b = none := by
    intro i hi
    obtain ⟨x, hx⟩ := hrootj
    by_cases hex : ∃ q o, q < free ∧ all[q]? = some o ∧ o.dst = some rt
    · obtain ⟨q, o, hq, ho, hdst⟩ := hex
      obtain ⟨h1, h2, t, h3⟩ := madeIn_spec hmade q o ho hdst
      have hqj : q < j := by omega
      obtain ⟨s1, s2⟩ := way_slot hw hap ho hdst i (by omega)
      obtain ⟨_, sj⟩ := way_slot hw hap ho hdst j (by omega)
      by_cases hiq : i ≤ q
      · right
        obtain ⟨o', ho', hs⟩ := hw q hq
        rw [ho] at ho'
        obtain rfl := Option.some.inj ho'
        -- the variable is made at q
        have key : ∀ {tm tm' : List T} {m m' : Mem}, StepD E call rid all ms free j rt oj q o tm m tm' m' → (rt < tm.length → getT tm' rt = .addr (keyAt rid q) 0) ∧ lk m.boxes (keyAt rid q) = none := by
          intro tm tm' m m' hs
          cases hs with
          | act u m' hi => omega
          | cond j0 b0 s g ks v hi hg => rw [h2] at hg; cases hg
          | plain u m' hi hv hg hk he =>
            rw [h3] at he hk
            simp only [evAt, evOp] at he hk
            cases hty : E.ty t with
            | none => simp only [hty, res] at he; exact he.elim
            | some t' =>
              simp only [hty, res] at he
              obtain ⟨hf, rfl, _⟩ := he
              refine ⟨fun hl => by rw [hdst]; exact putT_self hl, (freeM_lk hf).1⟩
        obtain ⟨k1, k2⟩ := key hs
        have hl : rt < (st q).1.length := by
          rw [way_len hw q (by omega), ← way_len hw j (by omega)]
          exact slot_lt (by rw [hx]; simp)
        have e1 := k1 hl
        have e2 : getT (st (q + 1)).1 rt = getT (st free).1 rt := (way_slot hw hap ho hdst (q + 1) (by omega)).2 (by omega)
        rw [sj hqj, ← e2, e1] at hx
        obtain ⟨rfl, _⟩ : keyAt rid q = b ∧ 0 = x := by injection hx with a b; exact ⟨a, b⟩
        have hg := g1 i (by omega)
        cases hc : lk (st i).2.boxes (keyAt rid q) with
        | none => rfl
        | some c =>
          have := (mild_grow (f := fun q => (st q).2) (i := i) q hiq fun r _ hr => (hmild r (by omega) (by omega)).grow).1 _ c hc
          rw [k2] at this; cases this
      · left
        exact ⟨x, by rw [s2 (by omega), ← sj hqj]; exact hx⟩
    · left
      have hn : ∀ q o, q < free → all[q]? = some o → o.dst ≠ some rt := fun q o hq ho hdd => hex ⟨q, o, hq, ho, hdd⟩
      exact ⟨x, by rw [way_noslot hw hn i (by omega), ← way_noslot hw hn j (by omega)]; exact hx⟩
  have hidden : ∀ i, i < free → ∀ M : Mem, M.gr = (st free).2.gr → (∀ k c, k ≠ b → lk (st free).2.boxes k = some c → lk M.boxes k = some c) → (∃ c, lk M.boxes b = some c ∧ c.length = cs.length) → Ext (hideM (st i).1 (st i).2 oj rt) M := by
    intro i hi M hMg hMb ⟨c0, hc0, hl0⟩
    unfold hideM
    rw [if_pos hoj]
    have plain : ∀ k c, k ≠ b → lk (st i).2.boxes k = some c → ∃ c', lk M.boxes k = some c' ∧ CsLe c c' := fun k c hk hc => ⟨c, hMb k c hk (gb i (by omega) k c hk hc), CsLe.refl c⟩
    rcases root i hi with ⟨x, hx⟩ | hnone
    · rw [hx]
      refine ⟨by rw [hMg]; exact grE i (by omega), fun k c hc => ?_⟩
      simp only [lk_up] at hc
      split at hc
      · rename_i hk
        subst hk
        cases hcc : lk (st i).2.boxes k with
        | none => rw [hcc] at hc; cases hc
        | some c1 =>
          rw [hcc] at hc
          obtain rfl := Option.some.inj hc
          refine ⟨c0, hc0, ?_, fun q => .inr (unkCs_get _ _)⟩
          rw [unkCs_len, hl0]; exact ((gbb i (by omega) c1 hcc).1).symm
      · rename_i hk; exact plain k c hk hc
    · have hm : ∀ k c, lk (st i).2.boxes k = some c → ∃ c', lk M.boxes k = some c' ∧ CsLe c c' := by
        intro k c hc
        by_cases hk : k = b
        · subst hk; rw [hnone] at hc; cases hc
        · exact plain k c hk hc
      split
      · rename_i b' o' hb'
        refine ⟨by rw [hMg]; exact grE i (by omega), fun k c hc => ?_⟩
        simp only [lk_up] at hc
        split at hc
        · rename_i hk
          subst hk
          cases hcc : lk (st i).2.boxes k with
          | none => rw [hcc] at hc; cases hc
          | some c1 =>
            rw [hcc] at hc
            obtain rfl := Option.some.inj hc
            obtain ⟨c', e1, e2⟩ := hm k c1 hcc
            exact ⟨c', e1, by rw [unkCs_len]; exact e2.1, fun q => .inr (unkCs_get _ _)⟩
        · exact hm k c hc
      · exact ⟨by rw [hMg]; exact grE i (by omega), hm⟩
  have hgrM : ∀ c : Bool, (if c = true then (st free).2 else (⟨up (st free).2.boxes b (fun _ => cs), (st free).2.gr⟩ : Mem)).gr = (st free).2.gr := fun c => by cases c <;> rfl
  have hbM : ∀ (c : Bool) k x, k ≠ b → lk (st free).2.boxes k = some x → lk (if c = true then (st free).2 else (⟨up (st free).2.boxes b (fun _ => cs), (st free).2.gr⟩ : Mem)).boxes k = some x := by
    intro c k x hk hx
    cases c with
    | true => exact hx
    | false => show lk (up _ b _) k = _; rw [hMO, if_neg hk]; exact hx
  have hbN : ∀ (c : Bool) k, lk (st free).2.boxes k = none → lk (if c = true then (st free).2 else (⟨up (st free).2.boxes b (fun _ => cs), (st free).2.gr⟩ : Mem)).boxes k = none := by
    intro c k hx
    cases c with
    | true => exact hx
    | false =>
      show lk (up _ b _) k = _
      rw [hMO]
      split
      · rename_i hk; subst hk; rw [hMN] at hx; cases hx
      · exact hx
  have none1 : ∀ k, lk (st j).2.boxes k = none → lk (st (j + 1)).2.boxes k = none := fun k hk => by
    rw [hk1 k (by rintro rfl; rw [hcs] at hk; cases hk)]; exact hk
  have noneG : ∀ k, lk (st j).2.gr k = none → lk (st (j + 1)).2.gr k = none := fun k hk => by rw [hgr1]; exact hk
  refine ⟨fun i hi hij c hc => ?_, fun i hi hij c hc _ k g g' h1 h2 h3 => ?_, fun i hi hij c hc h0 x h => ?_, fun i hi hij c hc h => ?_, fun i hi hij c hc h0 g h => ?_, fun i hi hij c hc h => ?_, fun k => ?_, fun k => ?_, fun k hk => ⟨fun h => ?_, fun h => ?_⟩⟩
  · -- seen
    unfold seenM
    have hblt : Nat.blt j free = true := by rw [Nat.blt_eq]; exact hj
    split
    · refine hidden i hi _ (hgrM c) (hbM c) ?_
      cases c with
      | true => exact ⟨_, hMN, hsl⟩
      | false => exact ⟨cs, by show lk (up _ b _) b = _; rw [hMO, if_pos rfl], rfl⟩
    · rename_i hopen
      simp only [hblt, Bool.true_and, Bool.and_eq_true, Bool.not_eq_true', not_and, Bool.not_eq_false] at hopen
      by_cases h1 : bef ms j i = true
      · have hij' := hbj i h1
        have : c = false := by
          cases c with
          | false => rfl
          | true => have := (hc.1 rfl).2; rw [h1] at this; cases this
        subst this
        exact E1 i (by omega)
      · have h2 := hopen (by simpa using h1)
        have hij' := hbi i hi h2
        have : c = true := by
          cases c with
          | true => rfl
          | false => have := hc.2 rfl hj; rw [h2] at this; cases this
        subst this
        exact E2 i hij' (by omega)
  · rw [hgrM] at h3
    obtain ⟨g2, e1, e2⟩ := gg (i + 1) hi k g h1
    rw [h3] at e1
    obtain rfl := Option.some.inj e1
    rcases e2 with rfl | rfl
    · exact h2
    · rw [shareG_of h2]; exact h2
  · by_cases hk : keyAt rid i = b
    · cases c with
      | true => exact .inr ⟨rfl, hk⟩
      | false =>
        left
        show lk (up _ b _) _ = _
        rw [hMO, if_pos hk]
        rw [hk] at h h0
        by_cases hij' : i < j
        · rw [((gbb (i + 1) (by omega) x h).2.1 (by omega))]
        · have := (g2 (j + 1) i (by omega) (by omega) (by omega)).1 b _ hb1
          rw [h0] at this; cases this
    · exact .inl (hbM c _ _ hk (gb (i + 1) hi _ _ hk h))
  · rw [hgrM]
    refine seq_none (f := fun q => (st q).2) (P := fun m => lk m.gr (keyAt rid i) = none) free (show i + 1 ≤ free from hi) (fun r hr1 hr2 h => ?_) h
    by_cases hrj : r = j
    · subst hrj; exact noneG _ h
    · exact (hmild r hr2 hrj).ng _ (fun he => by have := keyAt_inj he; omega) h
  · rw [hgrM]; exact .inl (gg (i + 1) hi _ _ h)
  · refine hbN c _ (seq_none (f := fun q => (st q).2) (P := fun m => lk m.boxes (keyAt rid i) = none) free (show i + 1 ≤ free from hi) (fun r hr1 hr2 h => ?_) h)
    by_cases hrj : r = j
    · subst hrj; exact none1 _ h
    · exact (hmild r hr2 hrj).nb _ (fun he => by have := keyAt_inj he; omega) h
  · cases h : lk (st 0).2.boxes k with
    | none => exact .inl rfl
    | some c =>
      right
      show lk (up _ b _) k = _
      rw [hMO]
      by_cases hk : k = b
      · subst hk
        rw [if_pos rfl, (gbb 0 (Nat.zero_le _) c h).2.1 (Nat.zero_le _)]
      · rw [if_neg hk]; exact gb 0 (Nat.zero_le _) k c hk h
  · cases h : lk (st 0).2.gr k with
    | none => exact .inl rfl
    | some g =>
      obtain ⟨g', e1, e2⟩ := gg 0 (Nat.zero_le _) k g h
      refine .inr ⟨g, rfl, ?_⟩
      rcases e2 with rfl | rfl
      · exact .inl e1
      · exact .inr e1
  · refine hbN false k (seq_none (f := fun q => (st q).2) (P := fun m => lk m.boxes k = none) free (Nat.zero_le _) (fun r _ hr h => ?_) h)
    by_cases hrj : r = j
    · subst hrj; exact none1 _ h
    · rcases hk r hr with hk | ⟨hk, _⟩
      · exact (hmild r hr hrj).nb k hk h
      · by_cases hx : lk (st (r + 1)).2.boxes k = none
        · exact hx
        · exact absurd ⟨h, hx⟩ hk
  · refine seq_none (f := fun q => (st q).2) (P := fun m => lk m.gr k = none) free (Nat.zero_le _) (fun r _ hr h => ?_) h
    by_cases hrj : r = j
    · subst hrj; exact noneG _ h
    · rcases hk r hr with hk | ⟨_, hk⟩
      · exact (hmild r hr hrj).ng k hk h
      · by_cases hx : lk (st (r + 1)).2.gr k = none
        · exact hx
        · exact absurd ⟨h, hx⟩ hk

end
end Mini

/- Regions that draw: where the act appends to a slice of the call's own. -/
namespace Mini
open Go

theorem appendT_anew {E : Env} {m : Mem} {tid yid : Nat} {u v : T} {k : Nat} {τ : Ty} {x : Option (El τ)} {f : El τ → Gr} (h : appendT E m tid yid u v = .anew k τ x f) :
    u = .own k ∧ ∃ g, lk m.gr k = some g ∧ g.md ≠ .dead ∧ ∀ M : Mem, GrExt m.gr M.gr → lk M.gr k = some g → appendT E M tid yid u v = .anew k τ x f := by
  have hfull := h
  unfold appendT at h
  split at h
  · rename_i t ht hn
    split at h
    · rename_i ys hy
      cases u with
      | own k' =>
        simp only at h
        split at h
        · rename_i g hg
          have hk : k' = k ∧ g.md ≠ .dead := by
            split at h
            · rename_i hmd; injection h with h1; exact ⟨h1, by rw [hmd]; simp⟩
            · rename_i hmd; injection h with h1; exact ⟨h1, by rw [hmd]; simp⟩
            · cases h
          obtain ⟨rfl, hmd⟩ := hk
          refine ⟨rfl, g, hg, hmd, fun M hM hMk => ?_⟩
          have hy' : appended M.gr t v = some ys := by
            have key : (∀ gr gr', appended gr t v = appended gr' t v) ∨ (∀ gr, appended gr t v = rdCell gr (.sl t) v) := by
              cases t with
              | int kk =>
                cases kk <;> first | exact .inr fun _ => rfl | skip
                cases v with
                | dat t' x => cases t' <;> first | exact .inr fun _ => rfl | exact .inl fun _ _ => rfl
                | _ => exact .inr fun _ => rfl
              | _ => exact .inr fun _ => rfl
            rcases key with key | key
            · rw [key _ m.gr]; exact hy
            · rw [key] at hy ⊢; exact rdCell_ext hM hy
          rw [← hfull]
          unfold appendT
          rw [ht, hn]
          simp only [hy, hy', hg, hMk]
        · cases h
      | _ => cases h
    · cases h
  · cases h

theorem evAt_anew {E : Env} {call : CallT} {κ : Nat} {tm : List T} {ch : List (Nat × Bool)} {m : Mem} {op : Op} {k : Nat} {τ : Ty} {x : Option (El τ)} {f : El τ → Gr} (ha : acts op = true) (hs : isStore op = false)
    (h : evAt E call κ tm ch m op = .anew k τ x f) : (∃ x0 ∈ op.operands, opdC E tm ch x0 = .own k) ∧ ∃ g, lk m.gr k = some g ∧ g.md ≠ .dead ∧ ∀ M : Mem, GrExt m.gr M.gr → lk M.gr k = some g → evAt E call κ tm ch M op = .anew k τ x f := by
  unfold acts at ha
  split at ha
  · cases hs
  · rename_i args tys
    simp only [evAt, evOp] at h ⊢
    generalize hl : ops1 (opdC E tm ch) args.toList = l at h ⊢
    match l, hl with
    | [], _ => simp [builtT] at h
    | [u], _ => simp [builtT] at h
    | u :: v :: y :: l, _ => simp [builtT] at h
    | [u, v], hl =>
      simp only [builtT] at h ⊢
      cases ht : tys[0]? with
      | none => rw [ht] at h; cases h
      | some t =>
        rw [ht] at h
        simp only at h ⊢
        cases ht' : tys[1]? with
        | none => rw [ht'] at h; cases h
        | some t' =>
          rw [ht'] at h
          simp only at h ⊢
          obtain ⟨rfl, g, h1, h2, h3⟩ := appendT_anew h
          refine ⟨?_, g, h1, h2, h3⟩
          obtain ⟨a, b, rfl, e1, e2⟩ := ops1_two hl
          exact ⟨a, by simp [Op.operands, Call.operands], e1⟩
  · cases ha

def delK (κ : Nat) : List (Nat × Gr) → List (Nat × Gr)
  | [] => []
  | (k, g) :: l => if k = κ then delK κ l else (k, g) :: delK κ l
theorem lk_delK (κ : Nat) : ∀ (l : List (Nat × Gr)) (q : Nat), lk (delK κ l) q = if q = κ then none else lk l q := by
  intro l
  induction l with
  | nil => intro q; simp [delK, lk]
  | cons x l ih =>
    intro q
    obtain ⟨k, g⟩ := x
    simp only [delK]
    by_cases hk : k = κ
    · rw [if_pos hk, ih, lk_cons]
      subst hk
      by_cases hq : q = k
      · subst hq; simp
      · rw [if_neg hq, if_neg hq, if_neg (Ne.symm hq)]
    · rw [if_neg hk, lk_cons, lk_cons, ih]
      by_cases hq : q = κ
      · subst hq; rw [if_neg hk, if_pos rfl, if_pos rfl]
      · rw [if_neg hq, if_neg hq]

section
variable {E : Env} {call : CallT} {rid : Nat} {all : List Oper} {ms : List Nat} {free j rt : Nat} {oj : Op} {st : Nat → List T × Mem}

theorem plan_anew (hw : Way E call rid all ms free j rt oj st) (hj : j < free) {k : Nat} {g gn : Gr} (hoj : isStore oj = false)
    (hbj : ∀ i, bef ms j i = true → i < j) (hbi : ∀ i, i < free → bef ms i j = true → j < i)
    (hg : lk (st j).2.gr k = some g) (hfr : freeM (keyAt rid j) (st j).2 = true) (hnext : (st (j + 1)).2 = ⟨(st j).2.boxes, (keyAt rid j, gn) :: up (st j).2.gr k killG⟩) :
    Plan rid ms free j rt oj st ⟨(st free).2.boxes, (k, g) :: delK (keyAt rid j) (st free).2.gr⟩ (fun _ => False) (fun q => q = k) ∧
    (∀ q, lk (st free).2.gr q = if q = keyAt rid j then some gn else if q = k then some (killG g) else lk ((k, g) :: delK (keyAt rid j) (st free).2.gr) q) ∧
    lk ((k, g) :: delK (keyAt rid j) (st free).2.gr) (keyAt rid j) = none ∧ lk (st free).2.boxes (keyAt rid j) = none := by
  have hmild := fun q (hq : q < free) (hqj : q ≠ j) => mild_of hw hq hqj
  have hnb : ∀ r, j < r → bef ms j r = false := fun r hr => by
    cases h : bef ms j r with
    | false => rfl
    | true => have := hbj r h; omega
  have g1 : ∀ i, i ≤ j → Grow (st i).2 (st j).2 := fun i hi => mild_grow (f := fun q => (st q).2) j hi fun r _ hr => (hmild r (by omega) (by omega)).grow
  have g2 : ∀ i q, j < i → i ≤ q → q ≤ free → Grow (st i).2 (st q).2 := fun i q h1 h2 h3 => mild_grow (f := fun q => (st q).2) q h2 fun r hr1 hr2 => (hmild r (by omega) (by omega)).grow
  have s2 : ∀ i q, j < i → i ≤ q → q ≤ free → Same (st i).2 (st q).2 := fun i q h1 h2 h3 => way_same hw hj hoj q h2 h3 fun r hr1 _ => ⟨by omega, hnb r (by omega)⟩
  obtain ⟨fb, fg⟩ := freeM_lk hfr
  have hkk : k ≠ keyAt rid j := by rintro rfl; rw [fg] at hg; cases hg
  have hbx1 : (st (j + 1)).2.boxes = (st j).2.boxes := by rw [hnext]
  have hgr1 : ∀ q, lk (st (j + 1)).2.gr q = if q = keyAt rid j then some gn else if q = k then some (killG g) else lk (st j).2.gr q := by
    intro q
    rw [hnext]
    simp only [lk_cons]
    by_cases h1 : q = keyAt rid j
    · rw [if_pos h1.symm, if_pos h1]
    · rw [if_neg (Ne.symm h1), if_neg h1]
      by_cases h2 : q = k
      · subst h2; rw [if_pos rfl, lk_up_self, hg]; rfl
      · rw [if_neg h2, lk_up_ne _ _ h2]
  have hS := s2 (j + 1) free (by omega) (by omega) (Nat.le_refl _)
  have hMO : ∀ q, lk ((k, g) :: delK (keyAt rid j) (st free).2.gr) q = if q = k then some g else if q = keyAt rid j then none else lk (st free).2.gr q := by
    intro q
    rw [lk_cons, lk_delK]
    by_cases h : q = k
    · rw [if_pos h.symm, if_pos h]
    · rw [if_neg (Ne.symm h), if_neg h]
  have hMNj : lk (st free).2.gr (keyAt rid j) = some gn := hS.2 _ _ (by rw [hgr1, if_pos rfl])
  have hMNk : lk (st free).2.gr k = some (killG g) := hS.2 _ _ (by rw [hgr1, if_neg hkk, if_pos rfl])
  -- boxes grow all the way
  have gb : ∀ i, i ≤ free → ∀ q c, lk (st i).2.boxes q = some c → lk (st free).2.boxes q = some c := by
    intro i hi q c hc
    by_cases hij : i ≤ j
    · have := (g1 i hij).1 q c hc
      rw [← hbx1] at this
      exact hS.1 q c this
    · exact (g2 i free (by omega) hi (Nat.le_refl _)).1 q c hc
  -- entries up to the act
  have gj : ∀ i, i ≤ j → ∀ q g0, lk (st i).2.gr q = some g0 → ∃ g', lk ((k, g) :: delK (keyAt rid j) (st free).2.gr) q = some g' ∧ (g' = g0 ∨ g' = shareG g0) := by
    intro i hi q g0 h
    obtain ⟨g', e1, e2⟩ := (g1 i hi).2 q g0 h
    refine ⟨g', ?_, e2⟩
    rw [hMO]
    by_cases hq : q = k
    · subst hq; rw [if_pos rfl, ← hg, e1]
    · have hqj : q ≠ keyAt rid j := by rintro rfl; rw [fg] at e1; cases e1
      rw [if_neg hq, if_neg hqj]
      exact hS.2 q g' (by rw [hgr1, if_neg hqj, if_neg hq]; exact e1)
  have nbP : ∀ i, i ≤ free → ∀ q, (∀ r, i ≤ r → r < free → r ≠ j → q ≠ keyAt rid r ∨ ¬ (lk (st r).2.boxes q = none ∧ lk (st (r + 1)).2.boxes q ≠ none)) → lk (st i).2.boxes q = none → lk (st free).2.boxes q = none := by
    intro i hi q hq h
    refine seq_none (f := fun q => (st q).2) (P := fun m => lk m.boxes q = none) free hi (fun r hr1 hr2 h => ?_) h
    by_cases hrj : r = j
    · subst hrj; simp only [hbx1]; exact h
    · rcases hq r hr1 hr2 hrj with hq | hq
      · exact (hmild r hr2 hrj).nb _ hq h
      · by_cases hx : lk (st (r + 1)).2.boxes q = none
        · exact hx
        · exact absurd ⟨h, hx⟩ hq
  have ngP : ∀ i, i ≤ free → ∀ q, q ≠ keyAt rid j → (∀ r, i ≤ r → r < free → r ≠ j → q ≠ keyAt rid r ∨ ¬ (lk (st r).2.gr q = none ∧ lk (st (r + 1)).2.gr q ≠ none)) → lk (st i).2.gr q = none → lk (st free).2.gr q = none := by
    intro i hi q hqj hq h
    refine seq_none (f := fun q => (st q).2) (P := fun m => lk m.gr q = none) free hi (fun r hr1 hr2 h => ?_) h
    by_cases hrj : r = j
    · subst hrj
      simp only [hgr1]
      rw [if_neg hqj, if_neg]
      · exact h
      · rintro rfl; rw [hg] at h; cases h
    · rcases hq r hr1 hr2 hrj with hq | hq
      · exact (hmild r hr2 hrj).ng _ hq h
      · by_cases hx : lk (st (r + 1)).2.gr q = none
        · exact hx
        · exact absurd ⟨h, hx⟩ hq
  have toMO : ∀ q, lk (st free).2.gr q = none → lk ((k, g) :: delK (keyAt rid j) (st free).2.gr) q = none := by
    intro q hq
    rw [hMO]
    by_cases h : q = k
    · subst h; rw [hMNk] at hq; cases hq
    · rw [if_neg h]; split
      · rfl
      · exact hq
  have hboxM : ∀ (c : Bool), (if c = true then (st free).2 else (⟨(st free).2.boxes, (k, g) :: delK (keyAt rid j) (st free).2.gr⟩ : Mem)).boxes = (st free).2.boxes := fun c => by cases c <;> rfl
  refine ⟨⟨fun i hi hij c hc => ?_, fun i hi hij c hc hsh q g0 g' h1 h2 h3 => ?_, fun i hi hij c hc h0 x h => ?_, fun i hi hij c hc h => ?_, fun i hi hij c hc h0 g0 h => ?_, fun i hi hij c hc h => ?_, fun q => ?_, fun q => ?_, fun q hq => ⟨fun h => ?_, fun h => ?_⟩⟩, fun q => ?_, ?_, ?_⟩
  · -- seen
    unfold seenM
    have hblt : Nat.blt j free = true := by rw [Nat.blt_eq]; exact hj
    split
    · exact hide_kill hoj (fun q c' h => by rw [hboxM]; exact gb i (by omega) q c' h)
    · rename_i hopen
      simp only [hblt, Bool.true_and, Bool.and_eq_true, Bool.not_eq_true', not_and, Bool.not_eq_false] at hopen
      by_cases h1 : bef ms j i = true
      · have hij' := hbj i h1
        have : c = false := by
          cases c with
          | false => rfl
          | true => have := (hc.1 rfl).2; rw [h1] at this; cases this
        subst this
        exact grow_ext ⟨gb i (by omega), gj i (by omega)⟩
      · have h2 := hopen (by simpa using h1)
        have hij' := hbi i hi h2
        have : c = true := by
          cases c with
          | true => rfl
          | false => have := hc.2 rfl hj; rw [h2] at this; cases this
        subst this
        exact grow_ext (g2 i free hij' (by omega) (Nat.le_refl _))
  · have hb := hsh hj hoj
    have hij' := hbj i hb
    have : c = false := by
      cases c with
      | false => rfl
      | true => have := (hc.1 rfl).2; rw [hb] at this; cases this
    subst this
    obtain ⟨g3, e1, e2⟩ := gj (i + 1) (by omega) q g0 h1
    have h3 : lk ((k, g) :: delK (keyAt rid j) (st free).2.gr) q = some g' := h3
    rw [h3] at e1
    obtain rfl := Option.some.inj e1
    rcases e2 with rfl | rfl
    · exact h2
    · rw [shareG_of h2]; exact h2
  · rw [hboxM]; exact .inl (gb (i + 1) hi _ _ h)
  · have hN := ngP (i + 1) hi _ (fun he => hij (keyAt_inj he)) (fun r hr _ _ => .inl fun he => by have := keyAt_inj he; omega) h
    cases c with
    | true => exact hN
    | false => exact toMO _ hN
  · by_cases hij' : i < j
    · obtain ⟨g', e1, e2⟩ := gj (i + 1) (by omega) _ g0 h
      cases c with
      | false => exact .inl ⟨g', e1, e2⟩
      | true =>
        by_cases hk : keyAt rid i = k
        · exact .inr ⟨rfl, hk⟩
        · left
          rw [hMO, if_neg hk, if_neg (fun he => hij (keyAt_inj he))] at e1
          exact ⟨g', e1, e2⟩
    · left
      obtain ⟨g', e1, e2⟩ := (g2 (i + 1) free (by omega) hi (Nat.le_refl _)).2 _ g0 h
      refine ⟨g', ?_, e2⟩
      have hk : keyAt rid i ≠ k := by
        intro hk
        have := (s2 (j + 1) i (by omega) (by omega) (by omega)).2 k (killG g) (by rw [hgr1, if_neg hkk, if_pos rfl])
        rw [← hk, h0] at this; cases this
      cases c with
      | true => exact e1
      | false =>
        show lk ((k, g) :: delK (keyAt rid j) (st free).2.gr) _ = _
        rw [hMO, if_neg hk, if_neg (fun he => hij (keyAt_inj he))]; exact e1
  · rw [hboxM]
    exact nbP (i + 1) hi _ (fun r hr _ _ => .inl fun he => by have := keyAt_inj he; omega) h
  · cases h : lk (st 0).2.boxes q with
    | none => exact .inl rfl
    | some c => exact .inr (gb 0 (Nat.zero_le _) q c h)
  · cases h : lk (st 0).2.gr q with
    | none => exact .inl rfl
    | some g0 =>
      obtain ⟨g', e1, e2⟩ := gj 0 (Nat.zero_le _) q g0 h
      refine .inr ⟨g0, rfl, ?_⟩
      rcases e2 with rfl | rfl
      · exact .inl e1
      · exact .inr e1
  · exact nbP 0 (Nat.zero_le _) q (fun r _ hr _ => by rcases hq r hr with hq | ⟨hq, _⟩ <;> simp_all) h
  · by_cases hqj : q = keyAt rid j
    · show lk ((k, g) :: delK (keyAt rid j) (st free).2.gr) q = none
      rw [hMO, if_neg (by rintro rfl; exact hkk hqj), if_pos hqj]
    · exact toMO q (ngP 0 (Nat.zero_le _) q hqj (fun r _ hr _ => by rcases hq r hr with hq | ⟨_, hq⟩ <;> simp_all) h)
  · rw [hMO]
    by_cases h1 : q = keyAt rid j
    · rw [if_pos h1, h1, hMNj]
    · rw [if_neg h1]
      by_cases h2 : q = k
      · rw [if_pos h2, h2, hMNk]
      · rw [if_neg h2, if_neg h2, if_neg h1]
  · rw [hMO, if_neg (Ne.symm hkk), if_pos rfl]
  · refine nbP (j + 1) (by omega) _ (fun r hr _ _ => .inl fun he => by have := keyAt_inj he; omega) (by rw [hbx1]; exact fb)

end
end Mini

/- Regions that draw: one operation, wherever it is executed. -/
namespace Mini
open Go

theorem allIn_spec {gr : List (Nat × Gr)} : ∀ {l : List Nat}, allIn gr l = true → ∀ k ∈ l, ∃ g, lk gr k = some g := by
  intro l
  induction l with
  | nil => intro _ k hk; simp at hk
  | cons x l ih =>
    intro h k hk
    simp only [allIn, Bool.and_eq_true] at h
    rcases List.mem_cons.1 hk with rfl | hk
    · cases hg : lk gr k with
      | none => rw [hg] at h; cases h.1
      | some g => exact ⟨g, rfl⟩
    · exact ih h.2 k hk

theorem res_known {gr : List (Nat × Gr)} : ∀ {r}, knownKs gr r = true → knownKs gr (res r) = true := by
  intro r
  induction r with
  | alt c r s ihr ihs =>
    intro h
    simp only [knownKs, Bool.and_eq_true] at h
    simp only [res]
    split
    · exact ihr h.1
    · exact ihs h.2
  | _ => exact fun h => h
theorem known_ks {gr : List (Nat × Gr)} {r : OpRes} (hn : noAlt r) (h : knownKs gr r = true) : allIn gr (ksOf r) = true := by
  cases r with
  | alt c r s => exact hn.elim
  | _ => exact h

/-- the key of a step is new by it -/
def crK (rid : Nat) (st : Nat → List T × Mem) (i : Nat) : Prop :=
  lk (st i).2.boxes (keyAt rid i) = none ∧ lk (st i).2.gr (keyAt rid i) = none ∧ (lk (st (i + 1)).2.boxes (keyAt rid i) ≠ none ∨ lk (st (i + 1)).2.gr (keyAt rid i) ≠ none)
/-- what is there when the operations of S have been executed -/
def pS (rid free : Nat) (st : Nat → List T × Mem) (S : Nat → Prop) (k : Nat) : Prop := ∀ i, i < free → ¬ S i → crK rid st i → k ≠ keyAt rid i
def addS (S : Nat → Prop) (i : Nat) : Nat → Prop := fun q => S q ∨ q = i

section
variable {E : Env} {B : Base} {call : CallT} {rid free : Nat} {st : Nat → List T × Mem} {S : Nat → Prop}

theorem pS_up {i k : Nat} (h : pS rid free st S k) : pS rid free st (addS S i) k := fun q hq hn hc => h q hq (fun hs => hn (.inl hs)) hc
theorem pS_down {i k : Nat} (h : pS rid free st (addS S i) k) : pS rid free st S k ∨ k = keyAt rid i := by
  by_cases hk : k = keyAt rid i
  · exact .inr hk
  · left
    intro q hq hn hc
    by_cases hqi : q = i
    · subst hqi; exact hk
    · exact h q hq (fun hs => hs.elim hn hqi) hc
theorem pS_new {i : Nat} : pS rid free st (addS S i) (keyAt rid i) := fun q _ hn _ he => hn (.inr (keyAt_inj he).symm)
theorem pS_not {i : Nat} (hi : i < free) (hS : ¬ S i) (hc : crK rid st i) : ¬ pS rid free st S (keyAt rid i) := fun h => h i hi hS hc rfl
theorem pS_same {i : Nat} (hc : ¬ crK rid st i) : pS rid free st (addS S i) = pS rid free st S := by
  funext k
  apply propext
  refine ⟨fun h q hq hn hcq => ?_, pS_up⟩
  by_cases hqi : q = i
  · subst hqi; exact absurd hcq hc
  · exact h q hq (fun hs => hs.elim hn hqi) hcq

/-- what the memory in which an operation is executed has to tell -/
structure Local (rid : Nat) (st : Nat → List T × Mem) (i : Nat) (M : Mem) (ks : List Nat) : Prop where
  shr : ∀ k ∈ ks, ∀ g, lk M.gr k = some g → g.md ≠ .excl
  nbx : lk (st i).2.boxes (keyAt rid i) = none → ∀ cs, lk (st (i + 1)).2.boxes (keyAt rid i) = some cs → lk M.boxes (keyAt rid i) = some cs
  nbg : lk (st (i + 1)).2.gr (keyAt rid i) = none → lk M.gr (keyAt rid i) = none
  ngr : lk (st i).2.gr (keyAt rid i) = none → ∀ g, lk (st (i + 1)).2.gr (keyAt rid i) = some g → ∃ g', lk M.gr (keyAt rid i) = some g' ∧ (g' = g ∨ g' = shareG g)
  ngb : lk (st (i + 1)).2.boxes (keyAt rid i) = none → lk M.boxes (keyAt rid i) = none

theorem share_lk {M : Mem} {ks : List Nat} (h : ∀ k ∈ ks, ∀ g, lk M.gr k = some g → g.md ≠ .excl) (k : Nat) : lk (shareKs M.gr ks) k = lk M.gr k := by
  rw [lk_shareKs]
  cases hg : lk M.gr k with
  | none => rfl
  | some g =>
    simp only [Option.map_some]
    split
    · rename_i hk; rw [shareG_of (h k hk g hg)]
    · rfl

/-- the outcome in another memory -/
theorem eff_out {i : Nat} {M : Mem} {r : OpRes} {u : T} (hi : i < free) (hS : ¬ S i) (hs : still r = true) (hn : noAlt r) (hk : allIn (st i).2.gr (ksOf r) = true) (he : Eff r (keyAt rid i) (st i).2 u (st (i + 1)).2) (hL : Local rid st i M (ksOf r)) :
    ∃ M', Out r (keyAt rid i) M (pS rid free st S) u M' (pS rid free st (addS S i)) ∧
      ∀ G w tm a, RelAll E B G M' (pS rid free st (addS S i)) w tm a → ∃ G', RelAll E B G' M (pS rid free st (addS S i)) w tm a := by
  have back : ∀ ks, (∀ k ∈ ks, ∀ g, lk M.gr k = some g → g.md ≠ .excl) → ∀ p G w tm a, RelAll E B G (M.share ks) p w tm a → ∃ G', RelAll E B G' M p w tm a := by
    intro ks hks p G w tm a h
    exact ⟨G, rel_congr h (fun _ => rfl) (fun k => (share_lk hks k).symm)⟩
  have nocr : ∀ ks, (st (i + 1)).2 = (st i).2.share ks → ¬ crK rid st i := by
    rintro ks e ⟨h1, h2, h3 | h3⟩
    · rw [e] at h3; exact h3 h1
    · rw [e] at h3; refine h3 ?_; simp only [Mem.share, lk_shareKs, h2]; rfl
  have newk : ∀ (ks : List Nat) (g : Gr), freeM (keyAt rid i) (st i).2 = true → (st (i + 1)).2 = ⟨(st i).2.boxes, (keyAt rid i, g) :: shareKs (st i).2.gr ks⟩ → ksOf r = ks →
      ∃ M', NewKey (M.share ks) M' (pS rid free st S) (pS rid free st (addS S i)) (keyAt rid i) ∧ lk M'.gr (keyAt rid i) = some g ∧ lk M'.boxes (keyAt rid i) = none ∧
        ∀ G w tm a, RelAll E B G M' (pS rid free st (addS S i)) w tm a → ∃ G', RelAll E B G' M (pS rid free st (addS S i)) w tm a := by
    intro ks g hf e hks
    obtain ⟨fb, fg⟩ := freeM_lk hf
    have eg : lk (st (i + 1)).2.gr (keyAt rid i) = some g := by rw [e]; simp only [lk_cons, if_true]
    have eb : lk (st (i + 1)).2.boxes (keyAt rid i) = none := by rw [e]; exact fb
    have hcr : crK rid st i := ⟨fb, fg, .inr (by rw [eg]; simp)⟩
    obtain ⟨g', h1, h2⟩ := hL.ngr fg g eg
    have hkn : keyAt rid i ∉ ks := fun hm => by
      obtain ⟨g0, h0⟩ := allIn_spec hk _ (by rw [hks]; exact hm)
      rw [fg] at h0; cases h0
    have hshr : ∀ k ∈ ks, ∀ g, lk M.gr k = some g → g.md ≠ .excl := fun k hk' => hL.shr k (by rw [hks]; exact hk')
    refine ⟨⟨M.boxes, (keyAt rid i, g) :: shareKs M.gr ks⟩, ⟨fun _ _ => rfl, fun k hk' => by rw [lk_cons, if_neg (Ne.symm hk')]; rfl, fun _ => pS_up, fun _ => pS_down, pS_new, fun hp => absurd hp (pS_not hi hS hcr), fun hp => absurd hp (pS_not hi hS hcr)⟩,
      by rw [lk_cons, if_pos rfl], hL.ngb eb, fun G w tm a h => ?_⟩
    have lkM : ∀ k, k ≠ keyAt rid i → lk ((keyAt rid i, g) :: shareKs M.gr ks) k = lk M.gr k := fun k hk' => by rw [lk_cons, if_neg (Ne.symm hk')]; exact share_lk hshr k
    rcases h2 with rfl | rfl
    · refine ⟨G, rel_congr h (fun _ => rfl) fun k => ?_⟩
      by_cases hk' : k = keyAt rid i
      · subst hk'; rw [h1]; simp only [lk_cons, if_true]
      · exact (lkM k hk').symm
    · obtain ⟨G', h', _⟩ := share_all [keyAt rid i] h (fun k hk' => by simp only [List.mem_singleton] at hk'; subst hk'; exact pS_new)
      refine ⟨G', rel_congr h' (fun _ => rfl) fun k => ?_⟩
      simp only [Mem.share, lk_shareKs]
      by_cases hk' : k = keyAt rid i
      · subst hk'; rw [h1]; simp only [lk_cons, if_true, Option.map_some, List.mem_singleton]
      · rw [lkM k hk']
        cases lk M.gr k with
        | none => rfl
        | some g0 => simp [hk']
  cases r with
  | val ks v =>
    obtain ⟨rfl, e⟩ := he
    refine ⟨M.share ks, ⟨rfl, rfl, ?_⟩, fun G w tm a h => back ks hL.shr _ G w tm a h⟩
    exact pS_same (nocr ks e)
  | vpart ks τ x f =>
    obtain ⟨y, hy, rfl, e⟩ := he
    refine ⟨M.share ks, ⟨y, hy, rfl, rfl, ?_⟩, fun G w tm a h => back ks hL.shr _ G w tm a h⟩
    exact pS_same (nocr ks e)
  | newB ks cs =>
    obtain ⟨hf, rfl, e⟩ := he
    obtain ⟨fb, fg⟩ := freeM_lk hf
    have eb : lk (st (i + 1)).2.boxes (keyAt rid i) = some cs := by rw [e]; simp only [lk_cons, if_true]
    have eg : lk (st (i + 1)).2.gr (keyAt rid i) = none := by rw [e]; simp only [lk_shareKs, fg]; rfl
    have hcr : crK rid st i := ⟨fb, fg, .inl (by rw [eb]; simp)⟩
    have hg0 := hL.nbg eg
    refine ⟨M.share ks, ⟨rfl, ⟨fun _ _ => rfl, fun _ _ => rfl, fun _ => pS_up, fun _ => pS_down, pS_new, fun hp => absurd hp (pS_not hi hS hcr), fun hp => absurd hp (pS_not hi hS hcr)⟩, hL.nbx fb cs eb, rfl, .inl ?_⟩, fun G w tm a h => back ks hL.shr _ G w tm a h⟩
    simp only [Mem.share, lk_shareKs, hg0]; rfl
  | newG ks g =>
    obtain ⟨hf, rfl, e⟩ := he
    obtain ⟨M', h1, h2, h3, h4⟩ := newk ks g hf e rfl
    exact ⟨M', ⟨rfl, h1, h2, h3⟩, h4⟩
  | gpart ks τ x f =>
    obtain ⟨hf, y, hy, rfl, e⟩ := he
    obtain ⟨M', h1, h2, h3, h4⟩ := newk ks (f y) hf e rfl
    exact ⟨M', ⟨y, hy, rfl, h1, h2, h3⟩, h4⟩
  | alt c r s => exact hn.elim
  | _ => cases hs

/-- an operation without a guard -/
theorem core_plain (hE : EnvOK E) (hC : CallsOK E call) {i : Nat} {M mm : Mem} {o : Oper} {G : Gh} {w : World} {tm : List T} {a : Act} {u : T} (hi : i < free) (hS : ¬ S i)
    (h : RelAll E B G M (pS rid free st S) w tm a) (hlook : ∀ t ∈ tmpsOf o.op.operands.toList, getT tm t = getT (st i).1 t)
    (hs : still (evAt E call (keyAt rid i) (st i).1 [] mm o.op) = true) (hx : Ext mm M) (hk : knownKs (st i).2.gr (evAt E call (keyAt rid i) (st i).1 [] mm o.op) = true)
    (he : Eff (res (evAt E call (keyAt rid i) (st i).1 [] mm o.op)) (keyAt rid i) (st i).2 u (st (i + 1)).2) (hL : Local rid st i M (ksOf (res (evAt E call (keyAt rid i) (st i).1 [] mm o.op))))
    (hdst : ∀ t s b q, getT tm t = .cnd s b q → o.dst ≠ some s) (next : Act → World → Prop) (Q : Exit → Act → World → Prop)
    (hn : ∀ G' v w', RelAll E B G' M (pS rid free st (addS S i)) w' (putT tm o.dst u) (a.put o.dst v) → next (a.put o.dst v) w') : o.wp E.P a w next Q := by
  have e1 : evAt E call (keyAt rid i) tm [] M o.op = evAt E call (keyAt rid i) (st i).1 [] mm o.op := by
    rw [evAt_congr hlook]
    exact evAt_ext hx hs
  obtain ⟨M', h1, h2⟩ := eff_out (B := B) (E := E) hi hS (res_still hs) (res_noAlt _) (known_ks (res_noAlt _) (res_known hk)) he hL
  have hok := evAt_ok (κ := keyAt rid i) (o := o) hE hC h (ch := []) (fun _ _ hq => by cases hq)
  rw [e1] at hok
  refine hok u M' _ (out_res h1) next Q fun v w' G' h3 hrel => ?_
  obtain ⟨G'', h4⟩ := h2 _ _ _ _ (rel_put (d := o.dst) h3 (fun _ _ => relC_ofT hrel) hdst)
  exact hn G'' v w' h4

/-- an operation under a guard -/
theorem core_cond (hE : EnvOK E) (hC : CallsOK E call) {ops : Array Oper} {i j0 s : Nat} {b g : Bool} {ks : List Nat} {M mm : Mem} {o : Oper} {G : Gh} {w : World} {tm : List T} {a : Act} {v : T}
    (h : RelAll E B G M (pS rid free st S) w tm a) (hlook : ∀ t ∈ tmpsOf o.op.operands.toList, getT tm t = getT (st i).1 t) (hch : chain tm 8 s b = chain (st i).1 8 s b) (hmet : met tm (chain tm 8 s b) = some g)
    (hg : o.guard = some (j0, b)) (hds : dstOf ops.toList j0 = some s) (hds' : o.dst ≠ some s) (hx : Ext mm M)
    (hs : still (evAt E call (keyAt rid i) (st i).1 (chain (st i).1 8 s b) mm o.op) = true) (hshr : ∀ k ∈ ks, ∀ g, lk M.gr k = some g → g.md ≠ .excl) (hcr : ¬ crK rid st i)
    (he : evAt E call (keyAt rid i) (st i).1 (chain (st i).1 8 s b) mm o.op = .val ks v ∨ ∃ τ x f, evAt E call (keyAt rid i) (st i).1 (chain (st i).1 8 s b) mm o.op = .vpart ks τ x f ∧ ∃ y, bsel g x (some (zero τ)) = some y ∧ v = f y)
    (hdst : ∀ t s b q, getT tm t = .cnd s b q → o.dst ≠ some s) (next : Act → World → Prop) (Q : Exit → Act → World → Prop)
    (hn : ∀ G' v' w', RelAll E B G' M (pS rid free st (addS S i)) w' (putT tm o.dst (.cnd s b v)) (a.put o.dst v') → next (a.put o.dst v') w') :
    if Region.wanted o (yielded ops a.tmps) = true then o.wp E.P a w next Q ∨ (o.asks E.P a w ∧ LetsOut Q) else next (a.put o.dst undef) w := by
  have e1 : evAt E call (keyAt rid i) tm (chain tm 8 s b) M o.op = evAt E call (keyAt rid i) (st i).1 (chain (st i).1 8 s b) mm o.op := by
    rw [hch, evAt_congr hlook]
    exact evAt_ext hx hs
  have hps := pS_same (free := free) (S := S) hcr
  have hw : ∀ tmps, Region.wanted o (yielded ops tmps) = true ↔ tmps[s]? = some (.bool b) := fun tmps => wanted_guard hg hds
  obtain ⟨m1, m2⟩ := met_ok h 8 s b g hmet
  obtain ⟨l0, hl0⟩ := chain_head (tm := tm) 8 s b
  have hhead : (s, b) ∈ chain tm 8 s b := by rw [hl0]; simp
  cases hgv : g with
  | true =>
    subst hgv
    have hall := m1 rfl
    rw [if_pos ((hw _).2 (hall _ hhead))]
    left
    have hout : Out (evAt E call (keyAt rid i) (st i).1 (chain (st i).1 8 s b) mm o.op) (keyAt rid i) M (pS rid free st S) v (M.share ks) (pS rid free st S) := by
      rcases he with he | ⟨τ, x, f, he, y, hy, rfl⟩
      · rw [he]; exact ⟨rfl, rfl, rfl⟩
      · rw [he]; exact ⟨y, hy, rfl, rfl, rfl⟩
    have hok := evAt_ok (κ := keyAt rid i) (o := o) hE hC h (ch := chain tm 8 s b) (fun s b hq => hall (s, b) hq)
    rw [e1] at hok
    refine hok v _ _ hout next Q fun v' w' G' h3 hrel => ?_
    have h4 := rel_put (d := o.dst) (u := .cnd s b v) (v := v') h3 (fun tmps hs => ⟨fun _ => hrel, fun hnn => absurd ((hs s hds').trans (hall _ hhead)) hnn⟩) hdst
    have h5 := rel_congr (M := M) h4 (fun _ => rfl) (fun k => (share_lk hshr k).symm)
    rw [← hps] at h5
    exact hn G' v' w' h5
  | false =>
    subst hgv
    have hnn := m2 rfl
    rw [if_neg (by rw [hw]; exact hnn)]
    have h4 := rel_put (d := o.dst) (u := .cnd s b v) (v := undef) h (fun tmps hs => ⟨fun hp => by rw [hs s hds'] at hp; exact absurd hp hnn, fun _ => rfl⟩) hdst
    rw [← hps] at h4
    exact hn G undef w h4

end
end Mini

/- Regions that draw: from one set of executed operations to the next. -/
namespace Mini
open Go

theorem setIn_spec {ms : List Nat} {i t : Nat} : ∀ {l : List Oper} {n : Nat}, setIn ms i t l n = true → ∀ (q : Nat) (o : Oper), l[q]? = some o → o.dst = some t → bef ms i (n + q) = true ∨ (i < n + q ∧ bef ms (n + q) i = true) := by
  intro l
  induction l with
  | nil => intro n _ q o h; simp at h
  | cons x l ih =>
    intro n h q o ho hd
    simp only [setIn, Bool.and_eq_true] at h
    cases q with
    | zero =>
      obtain rfl := Option.some.inj (show some x = some o from ho)
      have h1 := h.1
      rw [hd] at h1
      simp only [Bool.or_eq_true, Bool.not_eq_true', Bool.and_eq_true, Nat.blt_eq] at h1
      rcases h1 with (h1 | h1) | h1
      · have : Nat.beq t t = true := by simp
        rw [this] at h1; cases h1
      · exact .inl h1
      · exact .inr h1
    | succ q =>
      have := ih h.2 q o (by simpa using ho) hd
      rwa [show n + 1 + q = n + (q + 1) by omega] at this

theorem looksIn_spec {ms : List Nat} {all : List Oper} {i : Nat} : ∀ {l : List Nat}, looksIn ms all i l = true → ∀ t ∈ l, setIn ms i t all 0 = true := by
  intro l
  induction l with
  | nil => intro _ t ht; simp at ht
  | cons x l ih =>
    intro h t ht
    simp only [looksIn, Bool.and_eq_true] at h
    rcases List.mem_cons.1 ht with rfl | ht
    · exact h.1
    · exact ih h.2 t ht

theorem looksOK_spec {ms : List Nat} {all : List Oper} : ∀ {l : List Oper} {n : Nat}, looksOK ms all l n = true → ∀ (i : Nat) (o : Oper), l[i]? = some o → ∀ t ∈ looks all o, setIn ms (n + i) t all 0 = true := by
  intro l
  induction l with
  | nil => intro n _ i o h; simp at h
  | cons x l ih =>
    intro n h i o ho t ht
    simp only [looksOK, Bool.and_eq_true] at h
    cases i with
    | zero =>
      obtain rfl := Option.some.inj (show some x = some o from ho)
      exact looksIn_spec h.1 t ht
    | succ i =>
      have := ih h.2 i o (by simpa using ho) t ht
      rwa [show n + 1 + i = n + (i + 1) by omega] at this

section
variable (E : Env) (B : Base) (call : CallT) (rid : Nat) (all : List Oper) (free j rt : Nat) (oj : Op) (st : Nat → List T × Mem)

structure Setting : Prop where
  way : Way E call rid all (masksF all []) free j rt oj st
  ap : apartD all = true
  ed : edgesIn all 0 = true
  lo : looksOK (masksF all []) all all 0 = true
  noc : NoC (st 0).1
  le : free ≤ all.length

/-- the operations of S have been executed -/
structure AtS (MO : Mem) (tB tG : Nat → Prop) (c : Bool) (S : Nat → Prop) (a : Act) (w : World) : Prop where
  hc : c = true ↔ (j < free ∧ S j)
  rel : ∃ G tm, RelAll E B G (if c = true then (st free).2 else MO) (pS rid free st S) w tm a ∧ tm.length = (st 0).1.length ∧ (∀ t : Nat, (∀ q o, S q → all[q]? = some o → o.dst ≠ some t) → getT tm t = getT (st 0).1 t) ∧ (∀ (q : Nat) (o : Oper) (t : Nat), S q → all[q]? = some o → o.dst = some t → getT tm t = getT (st free).1 t)
  tch : c = true → ∀ k, (tB k ∨ tG k) → pS rid free st S k

variable {E B call rid all free j rt oj st}
variable {MO : Mem} {tB tG : Nat → Prop} {c : Bool} {S : Nat → Prop} {a : Act} {w : World}

theorem look_eq (H : Setting E call rid all free j rt oj st) (hcl : Closed all S) (hsub : ∀ i, S i → i < free) {i : Nat} {o : Oper} (hi : i < free) (ho : all[i]? = some o) (hS : ¬ S i) (hr : ∀ e ∈ o.after, Region.binds .any e = true → S e.on)
    {tm : List T} (h1 : ∀ t : Nat, (∀ q o, S q → all[q]? = some o → o.dst ≠ some t) → getT tm t = getT (st 0).1 t) (h2 : ∀ (q : Nat) (o : Oper) (t : Nat), S q → all[q]? = some o → o.dst = some t → getT tm t = getT (st free).1 t) :
    ∀ t ∈ looks all o, getT tm t = getT (st i).1 t := by
  intro t ht
  have hlen : ∀ i, S i → i < all.length := fun i hi => Nat.lt_of_lt_of_le (hsub i hi) H.le
  by_cases hex : ∃ (q : Nat) (x : Oper), all[q]? = some x ∧ x.dst = some t
  · obtain ⟨q, x, hx, hd⟩ := hex
    have := setIn_spec (looksOK_spec H.lo i o ho t ht) q x hx hd
    simp only [Nat.zero_add] at this
    rcases this with hb | ⟨hq, hb⟩
    · have hSq := bef_in hcl hlen i o ho hr q hb
      have hqi := bef_lt H.ed i (Nat.lt_of_lt_of_le hi H.le) q hb
      rw [h2 q x t hSq hx hd, (way_slot H.way H.ap hx hd i (by omega)).2 hqi]
    · have hSq : ¬ S q := fun hSq => hS (bef_in hcl hlen q x hx (fun e he hbb => hcl q x hSq hx e he hbb) i hb)
      rw [h1 t (fun r y hSr hy hyd => by
        have := lay_one H.ap hx hy hd hyd
        subst this; exact hSq hSr)]
      by_cases hqf : q < free
      · exact ((way_slot H.way H.ap hx hd i (by omega)).1 (by omega)).symm
      · exact (way_noslot H.way (fun r y hr hy hyd => by
          have := lay_one H.ap hx hy hd hyd; omega) i (by omega)).symm
  · have hn : ∀ (q : Nat) (x : Oper), all[q]? = some x → x.dst ≠ some t := fun q x hx hd => hex ⟨q, x, hx, hd⟩
    rw [h1 t (fun q x _ hx => hn q x hx)]
    exact (way_noslot H.way (fun q x _ hx => hn q x hx) i (by omega)).symm

theorem chain_ok (H : Setting E call rid all free j rt oj st) (hcl : Closed all S) (hsub : ∀ i, S i → i < free) {i : Nat} {o : Oper} (hi : i < free) (ho : all[i]? = some o) (hr : ∀ e ∈ o.after, Region.binds .any e = true → S e.on)
    {tm : List T} (h2 : ∀ (q : Nat) (o : Oper) (t : Nat), S q → all[q]? = some o → o.dst = some t → getT tm t = getT (st free).1 t)
    {j0 s : Nat} {b : Bool} (hg : o.guard = some (j0, b)) (hs : grdOf all j0 i = some s) : chain tm 8 s b = chain (st i).1 8 s b ∧ met tm (chain tm 8 s b) = met (st i).1 (chain (st i).1 8 s b) := by
  have hlen : ∀ i, S i → i < all.length := fun i hi => Nat.lt_of_lt_of_le (hsub i hi) H.le
  have grd : ∀ {j0 i s : Nat}, grdOf all j0 i = some s → j0 < i ∧ ∃ x, all[j0]? = some x ∧ x.dst = some s := by
    intro j0 i s hs
    unfold grdOf at hs
    split at hs
    · rename_i hlt
      unfold dstOf at hs
      cases hx : all[j0]? with
      | none => rw [hx] at hs; cases hs
      | some x => rw [hx] at hs; exact ⟨hlt, x, rfl, hs⟩
    · cases hs
  -- the guard of an operation stands before it
  have gb : ∀ (q : Nat) (x : Oper) (j0 : Nat) (b : Bool) (s : Nat), all[q]? = some x → x.guard = some (j0, b) → grdOf all j0 q = some s → bef (masksF all []) q j0 = true := by
    intro q x j0 b s hx hg hs
    obtain ⟨hlt, y, hy, hd⟩ := grd hs
    have ht : s ∈ looks all x := by
      unfold looks
      rw [hg]
      have : dstOf all j0 = some s := by unfold dstOf; rw [hy]; exact hd
      simp [this]
    have := setIn_spec (looksOK_spec H.lo q x hx s ht) j0 y hy hd
    simp only [Nat.zero_add] at this
    rcases this with h | ⟨h, _⟩
    · exact h
    · omega
  let good : Nat → Prop := fun s => ∃ q x, q < i ∧ S q ∧ all[q]? = some x ∧ x.dst = some s
  have heq : ∀ s, good s → getT (st i).1 s = getT tm s := by
    rintro s ⟨q, x, hq, hSq, hx, hd⟩
    rw [h2 q x s hSq hx hd, (way_slot H.way H.ap hx hd i (by omega)).2 hq]
  have hnx : ∀ s s' b u, good s → getT (st i).1 s = .cnd s' b u → good s' := by
    rintro s s' b u ⟨q, x, hq, hSq, hx, hd⟩ hc
    obtain ⟨_, q', x', j1, h3, h4, h5, h6, h7⟩ := way_cnd H.way H.noc i (by omega) s s' b u hc
    have := lay_one H.ap hx h4 hd h5
    subst this
    have hb := gb q x' j1 b s' h4 h6 h7
    obtain ⟨hlt, y, hy, hyd⟩ := grd h7
    exact ⟨j1, y, by omega, bef_in hcl hlen q x' h4 (fun e he hbb => hcl q x' hSq h4 e he hbb) j1 hb, hy, hyd⟩
  have h0 : good s := by
    have hb := gb i o j0 b s ho hg hs
    obtain ⟨hlt, y, hy, hyd⟩ := grd hs
    exact ⟨j0, y, hlt, bef_in hcl hlen i o ho hr j0 hb, hy, hyd⟩
  obtain ⟨e1, e2⟩ := chain_eq good heq hnx 8 s b h0
  refine ⟨e1, ?_⟩
  rw [e1]
  exact met_eq _ (fun q hq => heq q.1 (e2 q hq))

theorem dst_free (H : Setting E call rid all free j rt oj st) (hcl : Closed all S) (hsub : ∀ i, S i → i < free) {i : Nat} {o : Oper} (ho : all[i]? = some o) (hS : ¬ S i) {tm : List T}
    (h1 : ∀ t : Nat, (∀ q o, S q → all[q]? = some o → o.dst ≠ some t) → getT tm t = getT (st 0).1 t) (h2 : ∀ (q : Nat) (o : Oper) (t : Nat), S q → all[q]? = some o → o.dst = some t → getT tm t = getT (st free).1 t) :
    ∀ t s b q, getT tm t = .cnd s b q → o.dst ≠ some s := by
  have hlen : ∀ i, S i → i < all.length := fun i hi => Nat.lt_of_lt_of_le (hsub i hi) H.le
  intro t s b u hc hd
  by_cases hex : ∃ (q : Nat) (x : Oper), S q ∧ all[q]? = some x ∧ x.dst = some t
  · obtain ⟨q, x, hSq, hx, hxd⟩ := hex
    rw [h2 q x t hSq hx hxd] at hc
    obtain ⟨_, q', x', j1, h3, h4, h5, h6, h7⟩ := way_cnd H.way H.noc free (Nat.le_refl _) t s b u hc
    have := lay_one H.ap hx h4 hxd h5
    subst this
    unfold grdOf at h7
    split at h7
    · rename_i hlt
      unfold dstOf at h7
      cases hy : all[j1]? with
      | none => rw [hy] at h7; cases h7
      | some y =>
        rw [hy] at h7
        have hyd : y.dst = some s := h7
        have := lay_one H.ap ho hy hd hyd
        subst this
        have ht : s ∈ looks all x' := by
          unfold looks
          rw [h6]
          have : dstOf all i = some s := by unfold dstOf; rw [hy]; exact hyd
          simp [this]
        have := setIn_spec (looksOK_spec H.lo q x' h4 s ht) i y hy hyd
        simp only [Nat.zero_add] at this
        rcases this with h | ⟨h, _⟩
        · exact hS (bef_in hcl hlen q x' h4 (fun e he hbb => hcl q x' hSq h4 e he hbb) i h)
        · omega
    · cases h7
  · rw [h1 t (fun q x hq hx hxd => hex ⟨q, x, hq, hx, hxd⟩)] at hc
    exact H.noc t s b u hc

/-- slots behind one more operation -/
theorem slots_add (H : Setting E call rid all free j rt oj st) {i : Nat} {o : Oper} (hi : i < free) (ho : all[i]? = some o) (hS : ¬ S i) {tm : List T} {u : T} (hl : tm.length = (st 0).1.length) (hu : (st (i + 1)).1 = putT (st i).1 o.dst u)
    (h1 : ∀ t : Nat, (∀ q o, S q → all[q]? = some o → o.dst ≠ some t) → getT tm t = getT (st 0).1 t) (h2 : ∀ (q : Nat) (o : Oper) (t : Nat), S q → all[q]? = some o → o.dst = some t → getT tm t = getT (st free).1 t) :
    (putT tm o.dst u).length = (st 0).1.length ∧ (∀ t : Nat, (∀ q x, addS S i q → all[q]? = some x → x.dst ≠ some t) → getT (putT tm o.dst u) t = getT (st 0).1 t) ∧ (∀ (q : Nat) (x : Oper) (t : Nat), addS S i q → all[q]? = some x → x.dst = some t → getT (putT tm o.dst u) t = getT (st free).1 t) := by
  refine ⟨by rw [putT_len]; exact hl, fun t ht => ?_, fun q x t hq hx hd => ?_⟩
  · rw [putT_get (ht i o (.inr rfl) ho)]
    exact h1 t fun q x hq hx => ht q x (.inl hq) hx
  · by_cases hqi : q = i
    · subst hqi
      rw [ho] at hx
      obtain rfl := Option.some.inj hx
      have e : getT (st (q + 1)).1 t = getT (st free).1 t := (way_slot H.way H.ap ho hd (q + 1) (by omega)).2 (by omega)
      rw [← e, hu, hd]
      by_cases hlt : t < (st 0).1.length
      · rw [putT_self (by rw [hl]; exact hlt), putT_self (by rw [way_len H.way q (by omega)]; exact hlt)]
      · rw [getT_ge _ _ (by rw [putT_len, hl]; omega), getT_ge _ _ (by rw [putT_len, way_len H.way q (by omega)]; omega)]
    · have hSq : S q := hq.resolve_right hqi
      rw [putT_get (fun hd' => hqi (lay_one H.ap hx ho hd hd'))]
      exact h2 q x t hSq hx hd

end
end Mini
