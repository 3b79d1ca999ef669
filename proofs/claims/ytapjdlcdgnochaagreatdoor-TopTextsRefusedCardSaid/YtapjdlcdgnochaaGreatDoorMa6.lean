/- An evaluator of plain data over the form of a program, and its soundness. -/
import Derived.Test.YtapjdlcdgnochaaGreatDoorMa5
set_option linter.unusedSectionVars false
set_option linter.unusedSimpArgs false
set_option linter.unusedVariables false

/- Regions that draw: the steps. -/
namespace Mini
open Go

/-- what is shared by an outcome is shared -/
theorem eff_shared {r : OpRes} {κ : Nat} {m m' : Mem} {u : T} (hs : still r = true) (hn : noAlt r) (he : Eff r κ m u m') {k : Nat} (hk : k ∈ ksOf r) {g : Gr} (hg : lk m.gr k = some g) : ∃ g', lk m'.gr k = some g' ∧ g'.md ≠ .excl := by
  have sh : ∀ ks, k ∈ ks → ∃ g', lk (shareKs m.gr ks) k = some g' ∧ g'.md ≠ .excl := by
    intro ks hk
    rw [lk_shareKs, hg]
    refine ⟨_, rfl, ?_⟩
    simp only [hk, if_true]
    obtain ⟨t, xs, md, v⟩ := g
    cases md <;> simp [shareG]
  have add : ∀ ks (g0 : Gr), freeM κ m = true → k ∈ ks → ∃ g', lk ((κ, g0) :: shareKs m.gr ks) k = some g' ∧ g'.md ≠ .excl := by
    intro ks g0 hf hk
    rw [lk_cons, if_neg]
    · exact sh ks hk
    · rintro rfl; rw [(freeM_lk hf).2] at hg; cases hg
  cases r with
  | val ks v => obtain ⟨_, rfl⟩ := he; exact sh ks hk
  | vpart ks τ x f => obtain ⟨y, _, _, rfl⟩ := he; exact sh ks hk
  | newB ks cs => obtain ⟨_, _, rfl⟩ := he; exact sh ks hk
  | newG ks g0 => obtain ⟨hf, _, rfl⟩ := he; exact add ks g0 hf hk
  | gpart ks τ x f => obtain ⟨hf, y, _, _, rfl⟩ := he; exact add ks _ hf hk
  | alt c r s => exact hn.elim
  | _ => cases hs

theorem noKs_ks {r : OpRes} (hn : noAlt r) (h : noKs r = true) : ksOf r = [] := by
  cases r with
  | val ks v => cases ks <;> first | rfl | cases h
  | vpart ks τ x f => cases ks <;> first | rfl | cases h
  | newB ks cs => cases ks <;> first | rfl | cases h
  | newG ks g => cases ks <;> first | rfl | cases h
  | gpart ks τ x f => cases ks <;> first | rfl | cases h
  | alt c r s => exact hn.elim
  | _ => rfl

section
variable {E : Env} {B : Base} {call : CallT} {rid : Nat} {ops : Array Oper} {free j rt : Nat} {oj : Op} {st : Nat → List T × Mem}
variable {MO : Mem} {tB tG : Nat → Prop} {c : Bool} {S : Nat → Prop} {a : Act} {w : World}

theorem share_nocr {i : Nat} {ks : List Nat} (e : (st (i + 1)).2 = (st i).2.share ks) : ¬ crK rid st i := by
  rintro ⟨h1, h2, h3 | h3⟩
  · rw [e] at h3; exact h3 h1
  · rw [e] at h3; refine h3 ?_; simp only [Mem.share, lk_shareKs, h2]; rfl

theorem step_at (hE : EnvOK E) (hC : CallsOK E call) (H : Setting E call rid ops.toList free j rt oj st) (hP : Plan rid (masksF ops.toList []) free j rt oj st MO tB tG) (hcl : Closed ops.toList S) (hsub : ∀ i, S i → i < free)
    {i : Nat} {o : Oper} (hi : i < free) (hij : i ≠ j) (ho : ops.toList[i]? = some o) (hS : ¬ S i) (hr : ∀ e ∈ o.after, Region.binds .any e = true → S e.on) (hat : AtS E B rid ops.toList free j st MO tB tG c S a w) (Q : Exit → Act → World → Prop) :
    wpOp E.P ops Q i (fun a' w' => AtS E B rid ops.toList free j st MO tB tG c (addS S i) a' w') a w := by
  have hoA : ops[i]? = some o := by simpa using ho
  unfold wpOp
  simp only [hoA]
  have hlen : ∀ i, S i → i < ops.toList.length := fun i hi => Nat.lt_of_lt_of_le (hsub i hi) H.le
  obtain ⟨o', ho', hs⟩ := H.way i hi
  rw [ho] at ho'
  obtain rfl := Option.some.inj ho'
  obtain ⟨hc, ⟨G, tm, h, hl, h1, h2⟩, htch⟩ := hat
  have hlook := look_eq H hcl hsub hi ho hS hr h1 h2
  have hlook' : ∀ t ∈ tmpsOf o.op.operands.toList, getT tm t = getT (st i).1 t := fun t ht => hlook t (by unfold looks; exact List.mem_append_right _ ht)
  have hdst := dst_free H hcl hsub ho hS h1 h2
  have hcons : Cons (masksF ops.toList []) free j i c := by
    refine ⟨fun hct => ?_, fun hcf hj => ?_⟩
    · obtain ⟨hj, hSj⟩ := hc.1 hct
      refine ⟨hj, ?_⟩
      cases hb : bef (masksF ops.toList []) j i with
      | false => rfl
      | true =>
        have hjl := hlen j hSj
        exact absurd (bef_in hcl hlen j _ (List.getElem?_eq_getElem hjl) (fun e he hbb => hcl j _ hSj (List.getElem?_eq_getElem hjl) e he hbb) i hb) hS
    · cases hb : bef (masksF ops.toList []) i j with
      | false => rfl
      | true =>
        have := hc.2 ⟨hj, bef_in hcl hlen i o ho hr j hb⟩
        rw [hcf] at this; cases this
  have hc' : c = true ↔ (j < free ∧ addS S i j) := by
    rw [hc]
    exact ⟨fun ⟨x, y⟩ => ⟨x, .inl y⟩, fun ⟨x, y⟩ => ⟨x, y.resolve_right (Ne.symm hij)⟩⟩
  have htch' : c = true → ∀ k, (tB k ∨ tG k) → pS rid free st (addS S i) k := fun hct k hk => pS_up (htch hct k hk)
  -- what the memory tells
  have loc : ∀ (r : OpRes) (u : T), still r = true → noAlt r → allIn (st i).2.gr (ksOf r) = true → (∀ k ∈ ksOf r, j < free → isStore oj = false → bef (masksF ops.toList []) j i = true) → Eff r (keyAt rid i) (st i).2 u (st (i + 1)).2 →
      Local rid st i (if c = true then (st free).2 else MO) (ksOf r) := by
    intro r u hst hn hkn hkb he
    have cr : ∀ {P : Prop}, crK rid st i → (c = true ∧ (tB (keyAt rid i) ∨ tG (keyAt rid i))) → P := fun hcr hh => absurd (htch hh.1 _ hh.2) (pS_not hi hS hcr)
    have fr : ∀ cs, lk (st i).2.boxes (keyAt rid i) = none → lk (st (i + 1)).2.boxes (keyAt rid i) = some cs → crK rid st i := by
      intro cs h3 h4
      cases r with
      | val ks v => obtain ⟨_, e⟩ := he; rw [e] at h4; rw [show lk ((st i).2.share ks).boxes (keyAt rid i) = lk (st i).2.boxes (keyAt rid i) from rfl, h3] at h4; cases h4
      | vpart ks τ x f => obtain ⟨y, _, _, e⟩ := he; rw [e] at h4; rw [show lk ((st i).2.share ks).boxes (keyAt rid i) = lk (st i).2.boxes (keyAt rid i) from rfl, h3] at h4; cases h4
      | newB ks cs => obtain ⟨hf, _, e⟩ := he; exact ⟨h3, (freeM_lk hf).2, .inl (by rw [h4]; simp)⟩
      | newG ks g => obtain ⟨hf, _, e⟩ := he; exact ⟨h3, (freeM_lk hf).2, .inl (by rw [h4]; simp)⟩
      | gpart ks τ x f => obtain ⟨hf, y, _, _, e⟩ := he; exact ⟨h3, (freeM_lk hf).2, .inl (by rw [h4]; simp)⟩
      | alt c r s => exact hn.elim
      | _ => cases hst
    have fr2 : ∀ g, lk (st i).2.gr (keyAt rid i) = none → lk (st (i + 1)).2.gr (keyAt rid i) = some g → crK rid st i := by
      intro g h3 h4
      have no : ∀ ks, lk (shareKs (st i).2.gr ks) (keyAt rid i) = none := fun ks => by rw [lk_shareKs, h3]; rfl
      cases r with
      | val ks v => obtain ⟨_, e⟩ := he; rw [e] at h4; have := no ks; simp only [Mem.share] at h4; rw [this] at h4; cases h4
      | vpart ks τ x f => obtain ⟨y, _, _, e⟩ := he; rw [e] at h4; have := no ks; simp only [Mem.share] at h4; rw [this] at h4; cases h4
      | newB ks cs => obtain ⟨hf, _, e⟩ := he; exact ⟨(freeM_lk hf).1, h3, .inr (by rw [h4]; simp)⟩
      | newG ks g => obtain ⟨hf, _, e⟩ := he; exact ⟨(freeM_lk hf).1, h3, .inr (by rw [h4]; simp)⟩
      | gpart ks τ x f => obtain ⟨hf, y, _, _, e⟩ := he; exact ⟨(freeM_lk hf).1, h3, .inr (by rw [h4]; simp)⟩
      | alt c r s => exact hn.elim
      | _ => cases hst
    refine ⟨fun k hk g hg => ?_, fun h3 cs h4 => ?_, fun h3 => hP.nbg i hi hij c hcons h3, fun h3 g h4 => ?_, fun h3 => hP.ngb i hi hij c hcons h3⟩
    · obtain ⟨g0, hg0⟩ := allIn_spec hkn k hk
      obtain ⟨g1, e1, e2⟩ := eff_shared hst hn he hk hg0
      exact hP.shr i hi hij c hcons (hkb k hk) k g1 g e1 e2 hg
    · rcases hP.nbx i hi hij c hcons h3 cs h4 with h5 | h5
      · exact h5
      · exact cr (fr cs h3 h4) ⟨h5.1, .inl h5.2⟩
    · rcases hP.ngr i hi hij c hcons h3 g h4 with h5 | h5
      · exact h5
      · exact cr (fr2 g h3 h4) ⟨h5.1, .inr h5.2⟩
  have okd : ∀ {r}, okD (masksF ops.toList []) free j oj i (st i).2 r = true → still r = true ∧ (noKs r = true ∨ ∀ (_ : j < free) (_ : isStore oj = false), bef (masksF ops.toList []) j i = true) ∧ knownKs (st i).2.gr r = true := by
    intro r hk
    simp only [okD, Bool.and_eq_true, Bool.or_eq_true, Bool.not_eq_true'] at hk
    refine ⟨hk.1.1, ?_, hk.2⟩
    rcases hk.1.2 with ((h | h) | h) | h
    · exact .inl h
    · refine .inr fun hj _ => ?_
      have : Nat.blt j free = true := by rw [Nat.blt_eq]; exact hj
      rw [this] at h; cases h
    · refine .inr fun _ hns => ?_
      rw [h] at hns; cases hns
    · exact .inr fun _ _ => h
  -- the step
  have hwaylen := way_len H.way i (by omega)
  generalize hst1 : st (i + 1) = s1 at hs
  obtain ⟨tm1, m1⟩ := s1
  have hm1 : (st (i + 1)).2 = m1 := by rw [hst1]
  have ht1 : (st (i + 1)).1 = tm1 := by rw [hst1]
  cases hs with
  | act u m' hij' => exact absurd hij' hij
  | plain u m' _ hv hg hk he =>
    obtain ⟨k1, k2, k3⟩ := okd hk
    rw [← hm1] at he
    rw [if_pos (wanted_none hg)]
    left
    have hn := res_noAlt (evAt E call (keyAt rid i) (st i).1 [] (seenM (masksF ops.toList []) free j rt oj i (st i).1 (st i).2) o.op)
    have hL := loc _ u (res_still k1) hn (known_ks hn (res_known k3)) (fun k hk' => by
      rcases k2 with k2 | k2
      · rw [noKs_ks hn (res_noKs k2)] at hk'; simp at hk'
      · exact k2) he
    refine core_plain hE hC hi hS h hlook' k1 (hP.seen i hi hij c hcons) k3 he hL hdst _ Q fun G' v w' hrel => ?_
    obtain ⟨s1, s2, s3⟩ := slots_add H hi ho hS hl ht1 h1 h2
    exact ⟨hc', ⟨G', _, hrel, s1, s2, s3⟩, htch'⟩
  | cond j0 b s g ks v _ hg hs hm hk hv he =>
    obtain ⟨k1, k2, k3⟩ := okd hk
    have hm1 : (st (i + 1)).2 = (st i).2.share ks := hm1
    obtain ⟨c1, c2⟩ := chain_ok H hcl hsub hi ho hr h2 hg hs
    obtain ⟨hlt, hds⟩ : j0 < i ∧ dstOf ops.toList j0 = some s := by
      unfold grdOf at hs
      split at hs
      · rename_i hlt; exact ⟨hlt, hs⟩
      · cases hs
    have hds' : o.dst ≠ some s := by
      intro hd
      unfold dstOf at hds
      cases hx : ops.toList[j0]? with
      | none => rw [hx] at hds; cases hds
      | some x =>
        rw [hx] at hds
        have := lay_one H.ap ho hx hd hds
        omega
    have hksr : ∀ k ∈ ks, ∀ g0, lk (if c = true then (st free).2 else MO).gr k = some g0 → g0.md ≠ .excl := by
      intro k hk' g0 hg0
      have hkn : allIn (st i).2.gr ks = true := by
        rcases he with he | ⟨τ, x, f, he, _⟩ <;> (rw [he] at k3; exact k3)
      obtain ⟨g1, hg1⟩ := allIn_spec hkn k hk'
      obtain ⟨g2, e1, e2⟩ := eff_shared (r := .vpart ks .unit (some ()) (fun _ => v)) (u := v) (m' := (st i).2.share ks) (κ := 0) rfl trivial ⟨(), rfl, rfl, rfl⟩ hk' hg1
      refine hP.shr i hi hij c hcons ?_ k g2 g0 (by rw [hm1]; exact e1) e2 hg0
      rcases k2 with k2 | k2
      · exfalso
        rcases he with he | ⟨τ, x, f, he, _⟩
        · rw [he] at k2; cases ks with
          | nil => simp at hk'
          | cons => cases k2
        · rw [he] at k2; cases ks with
          | nil => simp at hk'
          | cons => cases k2
      · exact k2
    refine core_cond hE hC (ops := ops) h hlook' c1 (c2.trans hm) hg hds hds' (hP.seen i hi hij c hcons) k1 hksr (share_nocr hm1) he hdst _ Q fun G' v' w' hrel => ?_
    obtain ⟨s1, s2, s3⟩ := slots_add H hi ho hS hl ht1 h1 h2
    exact ⟨hc', ⟨G', _, hrel, s1, s2, s3⟩, htch'⟩

end
end Mini

/- Regions that draw: the act. -/
namespace Mini
open Go

section
variable {E : Env} {B : Base} {call : CallT} {rid : Nat} {ops : Array Oper} {free j rt : Nat} {oj : Op} {st : Nat → List T × Mem}
variable {S : Nat → Prop} {a : Act} {w : World}

theorem hc_act (hj : j < free) : (true = true) ↔ (j < free ∧ addS S j j) := ⟨fun _ => ⟨hj, .inr rfl⟩, fun _ => rfl⟩

/-- an act that turns nothing -/
theorem act_mild (hE : EnvOK E) (hC : CallsOK E call) (H : Setting E call rid ops.toList free j rt oj st) (hm : ∀ q, q < free → Mild (keyAt rid q) (st q).2 (st (q + 1)).2) (hcl : Closed ops.toList S) (hsub : ∀ i, S i → i < free)
    {o : Oper} {u : T} (hj : j < free) (ho : ops.toList[j]? = some o) (hg : o.guard = none) (hS : ¬ S j) (hr : ∀ e ∈ o.after, Region.binds .any e = true → S e.on)
    (hk1 : still (evAt E call (keyAt rid j) (st j).1 [] (st j).2 o.op) = true) (hk2 : noKs (evAt E call (keyAt rid j) (st j).1 [] (st j).2 o.op) = true)
    (he : Eff (res (evAt E call (keyAt rid j) (st j).1 [] (st j).2 o.op)) (keyAt rid j) (st j).2 u (st (j + 1)).2) (hu : (st (j + 1)).1 = putT (st j).1 o.dst u)
    (hat : AtS E B rid ops.toList free j st (st free).2 (fun _ => False) (fun _ => False) false S a w) (Q : Exit → Act → World → Prop) :
    wpOp E.P ops Q j (fun a' w' => AtS E B rid ops.toList free j st (st free).2 (fun _ => False) (fun _ => False) true (addS S j) a' w') a w := by
  have hoA : ops[j]? = some o := by simpa using ho
  unfold wpOp
  simp only [hoA]
  rw [if_pos (wanted_none hg)]
  left
  obtain ⟨_, ⟨G, tm, h, hl, h1, h2⟩, _⟩ := hat
  have h : RelAll E B G (st free).2 (pS rid free st S) w tm a := h
  have hlook := look_eq H hcl hsub hj ho hS hr h1 h2
  have hn := res_noAlt (evAt E call (keyAt rid j) (st j).1 [] (st j).2 o.op)
  have hks := noKs_ks hn (res_noKs hk2)
  have hgr : ∀ i, i ≤ free → Grow (st i).2 (st free).2 := fun i hi => mild_grow (f := fun q => (st q).2) free hi fun r _ hr => (hm r hr).grow
  have hL : Local rid st j (st free).2 (ksOf (res (evAt E call (keyAt rid j) (st j).1 [] (st j).2 o.op))) := by
    rw [hks]
    refine ⟨fun k hk => by simp at hk, fun _ cs h => (hgr (j + 1) hj).1 _ _ h, fun h => ?_, fun _ g h => (hgr (j + 1) hj).2 _ _ h, fun h => ?_⟩
    · exact seq_none (f := fun q => (st q).2) (P := fun m => lk m.gr (keyAt rid j) = none) free (show j + 1 ≤ free from hj) (fun r hr1 hr2 h => (hm r hr2).ng _ (fun he => by have := keyAt_inj he; omega) h) h
    · exact seq_none (f := fun q => (st q).2) (P := fun m => lk m.boxes (keyAt rid j) = none) free (show j + 1 ≤ free from hj) (fun r hr1 hr2 h => (hm r hr2).nb _ (fun he => by have := keyAt_inj he; omega) h) h
  have hkn : knownKs (st j).2.gr (evAt E call (keyAt rid j) (st j).1 [] (st j).2 o.op) = true := by
    have : ∀ {gr} {r : OpRes}, noKs r = true → still r = true → knownKs gr r = true := by
      intro gr r
      induction r with
      | alt c r s ihr ihs =>
        intro h h'
        simp only [noKs, still, Bool.and_eq_true] at h h'
        simp only [knownKs, ihr h.1 h'.1, ihs h.2 h'.2, Bool.and_self]
      | val ks v => intro h _; cases ks <;> first | rfl | cases h
      | vpart ks τ x f => intro h _; cases ks <;> first | rfl | cases h
      | newB ks cs => intro h _; cases ks <;> first | rfl | cases h
      | newG ks g => intro h _; cases ks <;> first | rfl | cases h
      | gpart ks τ x f => intro h _; cases ks <;> first | rfl | cases h
      | _ => intro _ h'; cases h'
    exact this hk2 hk1
  refine core_plain hE hC hj hS h (fun t ht => hlook t (by unfold looks; exact List.mem_append_right _ ht)) hk1 (grow_ext (hgr j (by omega))) hkn he hL (dst_free H hcl hsub ho hS h1 h2) _ Q fun G' v w' hrel => ?_
  obtain ⟨s1, s2, s3⟩ := slots_add H hj ho hS hl hu h1 h2
  exact ⟨hc_act hj, ⟨G', _, hrel, s1, s2, s3⟩, fun _ k hk => hk.elim False.elim False.elim⟩

/-- an act that stores -/
theorem act_store (hE : EnvOK E) (hC : CallsOK E call) (H : Setting E call rid ops.toList free j rt oj st) (hcl : Closed ops.toList S) (hsub : ∀ i, S i → i < free)
    {o : Oper} {tid : TypeId} {d : Nat} {y : Operand} {b off : Nat} {cs new : List T} (hj : j < free) (ho : ops.toList[j]? = some o) (hg : o.guard = none) (hS : ¬ S j) (hr : ∀ e ∈ o.after, Region.binds .any e = true → S e.on)
    (hop : o.op = .store tid (.tmp d) y) (hd : getT (st j).1 d = .addr b off) (hcs : lk (st j).2.boxes b = some cs) (hlen : off + new.length ≤ cs.length)
    (hst : ∀ M : Mem, lk M.boxes b = some cs → (∀ k, alive (st j).2 k = true → alive M k = true) → evAt E call (keyAt rid j) (st j).1 [] M o.op = .ok .unk ⟨setB M.boxes b (setCells cs off new), M.gr⟩)
    (hnext : (st (j + 1)).2 = ⟨setB (st j).2.boxes b (setCells cs off new), (st j).2.gr⟩) (hu : (st (j + 1)).1 = putT (st j).1 o.dst .unk)
    (hat : AtS E B rid ops.toList free j st ⟨up (st free).2.boxes b (fun _ => cs), (st free).2.gr⟩ (fun k => k = b) (fun _ => False) false S a w) (Q : Exit → Act → World → Prop) :
    wpOp E.P ops Q j (fun a' w' => AtS E B rid ops.toList free j st ⟨up (st free).2.boxes b (fun _ => cs), (st free).2.gr⟩ (fun k => k = b) (fun _ => False) true (addS S j) a' w') a w := by
  have hoA : ops[j]? = some o := by simpa using ho
  unfold wpOp
  simp only [hoA]
  rw [if_pos (wanted_none hg)]
  left
  obtain ⟨_, ⟨G, tm, h, hl, h1, h2⟩, _⟩ := hat
  have h : RelAll E B G ⟨up (st free).2.boxes b (fun _ => cs), (st free).2.gr⟩ (pS rid free st S) w tm a := h
  have hlook := look_eq H hcl hsub hj ho hS hr h1 h2
  have hlook' : ∀ t ∈ tmpsOf o.op.operands.toList, getT tm t = getT (st j).1 t := fun t ht => hlook t (by unfold looks; exact List.mem_append_right _ ht)
  have hdst := dst_free H hcl hsub ho hS h1 h2
  have hgrow : Grow (st (j + 1)).2 (st free).2 := mild_grow (f := fun q => (st q).2) free (show j + 1 ≤ free from hj) fun r hr1 hr2 => (mild_of H.way hr2 (by omega)).grow
  have hMN : lk (st free).2.boxes b = some (setCells cs off new) := hgrow.1 _ _ (by rw [hnext, lk_setB, if_pos rfl, hcs]; rfl)
  have hMOb : lk (up (st free).2.boxes b (fun _ => cs)) b = some cs := by rw [lk_up_self, hMN]; rfl
  have hal : ∀ k, alive (st j).2 k = true → alive (⟨up (st free).2.boxes b (fun _ => cs), (st free).2.gr⟩ : Mem) k = true := by
    intro k hk
    have e : (st (j + 1)).2.gr = (st j).2.gr := by rw [hnext]
    unfold alive at hk ⊢
    cases hx : lk (st j).2.gr k with
    | none => rw [hx] at hk; cases hk
    | some g =>
      rw [hx] at hk
      obtain ⟨g', e1, e2⟩ := hgrow.2 k g (by rw [e]; exact hx)
      simp only [e1]
      rcases e2 with rfl | rfl
      · exact hk
      · obtain ⟨t, xs, md, v⟩ := g
        cases md <;> simp [shareG] at hk ⊢
  have hev : evAt E call (keyAt rid j) tm [] ⟨up (st free).2.boxes b (fun _ => cs), (st free).2.gr⟩ o.op = .ok .unk ⟨setB (up (st free).2.boxes b (fun _ => cs)) b (setCells cs off new), (st free).2.gr⟩ := by
    rw [evAt_congr hlook']
    exact hst _ hMOb hal
  have hok := evAt_ok (κ := keyAt rid j) (o := o) hE hC h (ch := []) (fun _ _ hq => by cases hq)
  rw [hev] at hok
  have hdlt : d < tm.length := by
    have := slot_lt (tm := (st j).1) (t := d) (by rw [hd]; simp)
    rw [hl, ← way_len H.way j (by omega)]; exact this
  have hact : pS rid free st S b := by
    have := h.tms.rel d hdlt
    have e : getT tm d = .addr b off := by rw [hlook' d (by rw [hop]; simp [Op.operands, tmpsOf]), hd]
    rw [e] at this
    exact this.1
  have hcr : ¬ crK rid st j := by
    rintro ⟨c1, c2, c3 | c3⟩
    · rw [hnext] at c3; refine c3 ?_
      rw [lk_setB, if_neg]
      · exact c1
      · intro he; rw [he, hcs] at c1; cases c1
    · rw [hnext] at c3; exact c3 c2
  refine hok .unk _ (pS rid free st S) ⟨rfl, rfl, rfl⟩ _ Q fun v w' G' h3 hrel => ?_
  have h4 := rel_put (d := o.dst) (v := v) h3 (fun _ _ => relC_ofT hrel) hdst
  have h5 := rel_congr (M := (st free).2) h4 (fun k => by
    show lk (st free).2.boxes k = lk (setB (up _ b _) b _) k
    rw [lk_setB]
    by_cases hk : k = b
    · rw [if_pos hk, hMOb, hk, hMN]; rfl
    · rw [if_neg hk, lk_up_ne _ _ hk]) (fun k => rfl)
  rw [← pS_same (free := free) (S := S) hcr] at h5
  obtain ⟨s1, s2, s3⟩ := slots_add H hj ho hS hl hu h1 h2
  refine ⟨hc_act hj, ⟨G', _, h5, s1, s2, s3⟩, fun _ k hk => ?_⟩
  rcases hk with rfl | hk
  · exact pS_up hact
  · exact hk.elim

/-- an act that appends -/
theorem act_anew (hE : EnvOK E) (hC : CallsOK E call) (H : Setting E call rid ops.toList free j rt oj st) (hcl : Closed ops.toList S) (hsub : ∀ i, S i → i < free)
    {o : Oper} {k : Nat} {g gn : Gr} {τ : Ty} {x : Option (El τ)} {f : El τ → Gr} {z : El τ} (hj : j < free) (ho : ops.toList[j]? = some o) (hg : o.guard = none) (hS : ¬ S j) (hr : ∀ e ∈ o.after, Region.binds .any e = true → S e.on)
    (hns : isStore oj = false) (hx : x = some z) (hgn : gn = f z) (hbj : ∀ i, bef (masksF ops.toList []) j i = true → i < j) (hk : ∃ x0 ∈ o.op.operands, opdC E (st j).1 [] x0 = .own k) (hgk : lk (st j).2.gr k = some g)
    (hst : ∀ M : Mem, GrExt (st j).2.gr M.gr → lk M.gr k = some g → evAt E call (keyAt rid j) (st j).1 [] M o.op = .anew k τ x f)
    (hfr : freeM (keyAt rid j) (st j).2 = true) (hnext : (st (j + 1)).2 = ⟨(st j).2.boxes, (keyAt rid j, gn) :: up (st j).2.gr k killG⟩) (hu : (st (j + 1)).1 = putT (st j).1 o.dst (.own (keyAt rid j)))
    (hMN : ∀ q, lk (st free).2.gr q = if q = keyAt rid j then some gn else if q = k then some (killG g) else lk ((k, g) :: delK (keyAt rid j) (st free).2.gr) q)
    (hMOj : lk ((k, g) :: delK (keyAt rid j) (st free).2.gr) (keyAt rid j) = none) (hMOb : lk (st free).2.boxes (keyAt rid j) = none)
    (hat : AtS E B rid ops.toList free j st ⟨(st free).2.boxes, (k, g) :: delK (keyAt rid j) (st free).2.gr⟩ (fun _ => False) (fun q => q = k) false S a w) (Q : Exit → Act → World → Prop) :
    wpOp E.P ops Q j (fun a' w' => AtS E B rid ops.toList free j st ⟨(st free).2.boxes, (k, g) :: delK (keyAt rid j) (st free).2.gr⟩ (fun _ => False) (fun q => q = k) true (addS S j) a' w') a w := by
  have hoA : ops[j]? = some o := by simpa using ho
  unfold wpOp
  simp only [hoA]
  rw [if_pos (wanted_none hg)]
  left
  obtain ⟨_, ⟨G, tm, h, hl, h1, h2⟩, _⟩ := hat
  have h : RelAll E B G ⟨(st free).2.boxes, (k, g) :: delK (keyAt rid j) (st free).2.gr⟩ (pS rid free st S) w tm a := h
  have hlook := look_eq H hcl hsub hj ho hS hr h1 h2
  have hlook' : ∀ t ∈ tmpsOf o.op.operands.toList, getT tm t = getT (st j).1 t := fun t ht => hlook t (by unfold looks; exact List.mem_append_right _ ht)
  have hdst := dst_free H hcl hsub ho hS h1 h2
  obtain ⟨fb, fg⟩ := freeM_lk hfr
  have hkk : k ≠ keyAt rid j := by rintro rfl; rw [fg] at hgk; cases hgk
  have hsame : Same (st (j + 1)).2 (st free).2 := way_same H.way hj hns free (show j + 1 ≤ free from hj) (Nat.le_refl _) fun r hr1 _ => ⟨by omega, by
    cases hb : bef (masksF ops.toList []) j r with
    | false => rfl
    | true => have := hbj r hb; omega⟩
  have hMOk : lk ((k, g) :: delK (keyAt rid j) (st free).2.gr) k = some g := by rw [lk_cons, if_pos rfl]
  have hext : GrExt (st j).2.gr ((k, g) :: delK (keyAt rid j) (st free).2.gr) := by
    intro q g0 h0
    right
    refine ⟨g0.md, ?_, .inl rfl⟩
    by_cases hq : q = k
    · subst hq; rw [hMOk]; rw [hgk] at h0; exact h0
    · have hqj : q ≠ keyAt rid j := by rintro rfl; rw [fg] at h0; cases h0
      have e : lk (st (j + 1)).2.gr q = some g0 := by rw [hnext]; simp only [lk_cons]; rw [if_neg (Ne.symm hqj), lk_up_ne _ _ hq]; exact h0
      have := hsame.2 q g0 e
      rw [hMN, if_neg hqj, if_neg hq] at this
      exact this
  have hcr : crK rid st j := ⟨fb, fg, .inr (by rw [hnext]; simp only [lk_cons, if_true]; simp)⟩
  -- the key becomes active
  have hact : pS rid free st S k := by
    obtain ⟨x0, hx0, hx1⟩ := hk
    have e : opdC E tm [] x0 = .own k := by
      rw [← hx1]
      unfold opdC
      congr 1
      cases x0 with
      | tmp t => exact hlook' t (tmpsOf_mem (by simpa using hx0))
      | _ => rfl
    have := opdC_rel h (ch := []) (fun _ _ hq => by cases hq) x0
    rw [e] at this
    exact this.1
  have h' : RelAll E B G ⟨(st free).2.boxes, (k, g) :: delK (keyAt rid j) (st free).2.gr⟩ (pS rid free st (addS S j)) w tm a := by
    refine rel_sub h (fun _ => pS_up) (fun _ _ => rfl) (fun _ _ => rfl) (fun q h3 h4 => ?_) (fun q h3 h4 => ?_)
    · rcases pS_down h3 with h5 | rfl
      · exact absurd h5 h4
      · exact hMOb
    · rcases pS_down h3 with h5 | rfl
      · exact absurd h5 h4
      · exact hMOj
  have hev : evAt E call (keyAt rid j) tm [] ⟨(st free).2.boxes, (k, g) :: delK (keyAt rid j) (st free).2.gr⟩ o.op = .anew k τ x f := by
    rw [evAt_congr hlook']
    exact hst _ hext hMOk
  have hok := evAt_ok (κ := keyAt rid j) (o := o) hE hC h' (ch := []) (fun _ _ hq => by cases hq)
  rw [hev] at hok
  refine hok (.own (keyAt rid j)) ⟨(st free).2.boxes, (keyAt rid j, f z) :: up ((k, g) :: delK (keyAt rid j) (st free).2.gr) k killG⟩ (pS rid free st (addS S j)) ⟨z, hx, rfl, rfl, pS_new, hMOj, hMOb, rfl⟩ _ Q fun v w' G' h3 hrel => ?_
  have h4 := rel_put (d := o.dst) (v := v) h3 (fun _ _ => relC_ofT hrel) hdst
  have h5 := rel_congr (M := (st free).2) h4 (fun _ => rfl) (fun q => by
    rw [hMN, ← hgn]
    show _ = lk ((keyAt rid j, gn) :: up ((k, g) :: delK (keyAt rid j) (st free).2.gr) k killG) q
    rw [lk_cons (up ((k, g) :: delK (keyAt rid j) (st free).2.gr) k killG) (keyAt rid j) q gn]
    by_cases hq : q = keyAt rid j
    · rw [if_pos hq, if_pos hq.symm]
    · rw [if_neg hq, if_neg (Ne.symm hq)]
      by_cases hq2 : q = k
      · subst hq2; rw [if_pos rfl, lk_up_self, hMOk]; rfl
      · rw [if_neg hq2, lk_up_ne _ _ hq2])
  obtain ⟨s1, s2, s3⟩ := slots_add H hj ho hS hl hu h1 h2
  refine ⟨hc_act hj, ⟨G', _, h5, s1, s2, s3⟩, fun _ q hq => ?_⟩
  rcases hq with hq | rfl
  · exact hq.elim
  · exact pS_up hact

end
end Mini

/- Regions that draw: the beginning, and all orders. -/
namespace Mini
open Go

/-! ### fewer are active -/

section
variable {E : Env} {B : Base} {G : Gh} {m : Mem} {p q : Nat → Prop} {w : World} {tm : List T} {a : Act}

theorem rel1_shrink (hq : ∀ k, (lk m.boxes k ≠ none ∨ lk m.gr k ≠ none) → q k) {u : T} {v : Value} (h : Rel1 G m p w u v) : Rel1 G m q w u v := by
  have hb : ∀ {k : Nat} {cs : List T}, lk m.boxes k = some cs → q k := fun h => hq _ (.inl (by rw [h]; simp))
  have hg : ∀ {k : Nat} {g : Gr}, lk m.gr k = some g → q k := fun h => hq _ (.inr (by rw [h]; simp))
  cases u with
  | own k => obtain ⟨_, g, h1, h2⟩ := h; exact ⟨hg h1, g, h1, h2⟩
  | addr i off => obtain ⟨_, ⟨cs, h1⟩, h2⟩ := h; exact ⟨hb h1, ⟨cs, h1⟩, h2⟩
  | aptr i off n u ix => obtain ⟨_, ⟨cs, h1⟩, h2⟩ := h; exact ⟨hb h1.1, ⟨cs, h1⟩, h2⟩
  | eptr k ver i off t x => obtain ⟨_, g, h1, h2⟩ := h; exact ⟨hg h1, g, h1, h2⟩
  | clo f caps =>
    obtain ⟨cs, h1, h2⟩ := h
    refine ⟨cs, h1, ?_⟩
    have : ∀ (l : List (Nat × Nat)) (vs : List Value), RelCaps G m p l vs → RelCaps G m q l vs := by
      intro l
      induction l with
      | nil => intro vs h; cases vs <;> exact h
      | cons x l ih =>
        intro vs h
        obtain ⟨i, off⟩ := x
        cases vs with
        | nil => exact h
        | cons v vs => obtain ⟨⟨_, ⟨cs, h3⟩, h4⟩, h5⟩ := h; exact ⟨⟨hb h3, ⟨cs, h3⟩, h4⟩, ih vs h5⟩
    exact this _ _ h2
  | _ => exact h

theorem rel_shrink (hpq : ∀ k, q k → p k) (hq : ∀ k, (lk m.boxes k ≠ none ∨ lk m.gr k ≠ none) → q k) (hn : NoC tm) (h : RelAll E B G m p w tm a) : RelAll E B G m q w tm a := by
  refine ⟨⟨h.tms.size, fun i hi => ?_⟩, ⟨fun k cs hk hc j hj => ?_, fun k g hk hg => h.inv.gr k g (hpq k hk) hg, h.inv.lt⟩, h.fr, h.glob, h.defers, fun j hj => ?_, h.sz⟩
  · have := h.tms.rel i hi
    cases hc : getT tm i with
    | cnd s b u => exact absurd hc (hn i s b u)
    | tup l =>
      rw [hc] at this
      obtain ⟨vs, h1, h2, h3⟩ := this
      exact ⟨vs, h1, h2, fun i hi => rel1_shrink hq (h3 i hi)⟩
    | agv t l =>
      rw [hc] at this
      obtain ⟨vs, h1, h2, h3⟩ := this
      exact ⟨vs, h1, h2, fun i hi => ⟨rel1_shrink hq (h3 i hi).1, (h3 i hi).2⟩⟩
    | _ =>
      rw [hc] at this
      simp only [RelC] at this ⊢
      rw [relT_eq1 rfl] at this ⊢
      exact rel1_shrink hq this
  · obtain ⟨h1, h2, v, h3, h4, h5⟩ := h.inv.box k cs (hpq k hk) hc j hj
    exact ⟨h1, h2, v, h3, h4, rel1_shrink hq h5⟩
  · obtain ⟨_, h2, cs, h3, h4⟩ := h.bx j hj
    exact ⟨hq j (.inl (by rw [h3]; simp)), h2, cs, h3, h4⟩

end

theorem getT_ext : ∀ (l l' : List T), l.length = l'.length → (∀ i, getT l i = getT l' i) → l = l' := by
  intro l
  induction l with
  | nil => intro l' h _; cases l' with
    | nil => rfl
    | cons x l' => simp at h
  | cons x l ih =>
    intro l' h hg
    cases l' with
    | nil => simp at h
    | cons y l' =>
      have h0 : x = y := hg 0
      rw [h0, ih l' (by simpa using h) (fun i => hg (i + 1))]

theorem eff_new {r : OpRes} {κ : Nat} {m m' : Mem} {u : T} (hs : still r = true) (hn : noAlt r) (he : Eff r κ m u m') (h : (lk m.boxes κ = none ∧ lk m'.boxes κ ≠ none) ∨ (lk m.gr κ = none ∧ lk m'.gr κ ≠ none)) : lk m.boxes κ = none ∧ lk m.gr κ = none := by
  have sh : ∀ ks, lk m.gr κ = none → lk (shareKs m.gr ks) κ = none := fun ks h => by rw [lk_shareKs, h]; rfl
  cases r with
  | val ks v =>
    obtain ⟨_, rfl⟩ := he
    rcases h with ⟨h1, h2⟩ | ⟨h1, h2⟩
    · exact absurd h1 h2
    · exact absurd (sh ks h1) h2
  | vpart ks τ x f =>
    obtain ⟨y, _, _, rfl⟩ := he
    rcases h with ⟨h1, h2⟩ | ⟨h1, h2⟩
    · exact absurd h1 h2
    · exact absurd (sh ks h1) h2
  | newB ks cs => obtain ⟨hf, _⟩ := he; exact freeM_lk hf
  | newG ks g => obtain ⟨hf, _⟩ := he; exact freeM_lk hf
  | gpart ks τ x f => obtain ⟨hf, _⟩ := he; exact freeM_lk hf
  | alt c r s => exact hn.elim
  | _ => cases hs

section
variable {E : Env} {B : Base} {call : CallT} {rid : Nat} {ops : Array Oper} {free j rt : Nat} {oj : Op} {st : Nat → List T × Mem}
variable {MO : Mem} {tB tG : Nat → Prop}

/-- what is known of the act's step -/
structure ActOK (rid : Nat) (st : Nat → List T × Mem) (j : Nat) : Prop where
  eb : ∀ k, lk (st j).2.boxes k ≠ none → lk (st (j + 1)).2.boxes k ≠ none
  eg : ∀ k, lk (st j).2.gr k ≠ none → lk (st (j + 1)).2.gr k ≠ none
  new : (lk (st j).2.boxes (keyAt rid j) = none ∧ lk (st (j + 1)).2.boxes (keyAt rid j) ≠ none) ∨ (lk (st j).2.gr (keyAt rid j) = none ∧ lk (st (j + 1)).2.gr (keyAt rid j) ≠ none) → lk (st j).2.boxes (keyAt rid j) = none ∧ lk (st j).2.gr (keyAt rid j) = none

theorem step_new (H : Setting E call rid ops.toList free j rt oj st) (hA : j < free → ActOK rid st j) {i : Nat} (hi : i < free)
    (h : (lk (st i).2.boxes (keyAt rid i) = none ∧ lk (st (i + 1)).2.boxes (keyAt rid i) ≠ none) ∨ (lk (st i).2.gr (keyAt rid i) = none ∧ lk (st (i + 1)).2.gr (keyAt rid i) ≠ none)) : crK rid st i := by
  have key : lk (st i).2.boxes (keyAt rid i) = none ∧ lk (st i).2.gr (keyAt rid i) = none := by
    by_cases hij : i = j
    · subst hij; exact (hA hi).new h
    · obtain ⟨o, _, hs⟩ := H.way i hi
      generalize hst1 : st (i + 1) = s1 at hs h
      obtain ⟨tm1, m1⟩ := s1
      cases hs with
      | act u m' hij' => exact absurd hij' hij
      | plain u m' _ hv hg hk he =>
        refine eff_new (res_still ?_) (res_noAlt _) he h
        simp only [okD, Bool.and_eq_true] at hk
        exact hk.1.1
      | cond j0 b s g ks v _ hg hs hm hk hv he =>
        rcases h with ⟨h1, h2⟩ | ⟨h1, h2⟩
        · exact absurd h1 h2
        · exfalso; refine h2 ?_; simp only [lk_shareKs, h1]; rfl
  refine ⟨key.1, key.2, ?_⟩
  rcases h with h | h
  · exact .inl h.2
  · exact .inr h.2

theorem keep_some (H : Setting E call rid ops.toList free j rt oj st) (hA : j < free → ActOK rid st j) (k : Nat) : ∀ i, i ≤ free → (lk (st 0).2.boxes k ≠ none → lk (st i).2.boxes k ≠ none) ∧ (lk (st 0).2.gr k ≠ none → lk (st i).2.gr k ≠ none) := by
  intro i
  induction i with
  | zero => intro _; exact ⟨fun h => h, fun h => h⟩
  | succ i ih =>
    intro hi
    obtain ⟨h1, h2⟩ := ih (by omega)
    by_cases hij : i = j
    · subst hij; exact ⟨fun h => (hA (by omega)).eb k (h1 h), fun h => (hA (by omega)).eg k (h2 h)⟩
    · have hm := (mild_of H.way (show i < free by omega) hij).grow
      refine ⟨fun h => ?_, fun h => ?_⟩
      · cases hx : lk (st i).2.boxes k with
        | none => exact absurd hx (h1 h)
        | some cs => rw [hm.1 k cs hx]; simp
      · cases hx : lk (st i).2.gr k with
        | none => exact absurd hx (h2 h)
        | some g => obtain ⟨g', e, _⟩ := hm.2 k g hx; rw [e]; simp

/-- nothing has been executed -/
theorem at_start (H : Setting E call rid ops.toList free j rt oj st) (hA : j < free → ActOK rid st j) (hP : Plan rid (masksF ops.toList []) free j rt oj st MO tB tG) {G : Gh} {w : World} {a : Act}
    (h : RelAll E B G (st 0).2 All w (st 0).1 a) : AtS E B rid ops.toList free j st MO tB tG false (fun _ => False) a w := by
  classical
  let ks : List Nat := ((st 0).2.gr.map (·.1)).filter fun k => decide (∃ g, lk (st 0).2.gr k = some g ∧ lk MO.gr k = some (shareG g))
  obtain ⟨G1, h1, _⟩ := share_all ks h (fun _ _ => trivial)
  have hkey : ∀ k, (lk ((st 0).2.share ks).boxes k ≠ none ∨ lk ((st 0).2.share ks).gr k ≠ none) → pS rid free st (fun _ => False) k := by
    intro k hk i hi _ hcr he
    subst he
    obtain ⟨k1, k2⟩ := keep_some H hA (keyAt rid i) i (by omega)
    rcases hk with hk | hk
    · exact k1 hk hcr.1
    · refine k2 ?_ hcr.2.1
      intro hn; apply hk
      simp only [Mem.share, lk_shareKs, hn]; rfl
  have h2 := rel_shrink (q := pS rid free st (fun _ => False)) (fun _ _ => trivial) hkey H.noc h1
  have hcond : ∀ k, pS rid free st (fun _ => False) k → ∀ i, i < free → k ≠ keyAt rid i ∨ (¬ (lk (st i).2.boxes k = none ∧ lk (st (i + 1)).2.boxes k ≠ none) ∧ ¬ (lk (st i).2.gr k = none ∧ lk (st (i + 1)).2.gr k ≠ none)) := by
    intro k hk i hi
    by_cases he : k = keyAt rid i
    · right
      subst he
      exact ⟨fun hh => hk i hi id (step_new H hA hi (.inl hh)) rfl, fun hh => hk i hi id (step_new H hA hi (.inr hh)) rfl⟩
    · exact .inl he
  refine ⟨⟨fun h => (by cases h), fun h => h.2.elim⟩, ⟨G1, (st 0).1, ?_, rfl, fun _ _ => rfl, fun _ _ _ h => h.elim⟩, fun h => (by cases h)⟩
  show RelAll E B G1 MO _ w (st 0).1 a
  refine rel_sub h2 (fun _ h => h) (fun k hk => ?_) (fun k hk => ?_) (fun _ h h' => absurd h h') (fun _ h h' => absurd h h')
  · show lk MO.boxes k = lk (st 0).2.boxes k
    rcases hP.initB k with h3 | h3
    · rw [h3]; exact (hP.none k (hcond k hk)).1 h3
    · exact h3
  · simp only [Mem.share, lk_shareKs]
    rcases hP.initG k with h3 | ⟨g, h3, h4⟩
    · rw [h3]; exact (hP.none k (hcond k hk)).2 h3
    · rw [h3]
      simp only [Option.map_some]
      by_cases hm : k ∈ ks
      · rw [if_pos hm]
        obtain ⟨_, hd⟩ := List.mem_filter.1 hm
        obtain ⟨g', e1, e2⟩ := of_decide_eq_true hd
        rw [h3] at e1
        obtain rfl := Option.some.inj e1
        exact e2
      · rw [if_neg hm]
        rcases h4 with h4 | h4
        · exact h4
        · exfalso
          refine hm (List.mem_filter.2 ⟨?_, decide_eq_true ⟨g, h3, h4⟩⟩)
          have : ∀ (l : List (Nat × Gr)), lk l k = some g → k ∈ l.map (·.1) := by
            intro l
            induction l with
            | nil => intro h; cases h
            | cons x l ih =>
              intro h
              obtain ⟨q, g0⟩ := x
              rw [lk_cons] at h
              split at h
              · rename_i he; simp [he]
              · simp [ih h]
          exact this _ h3

/-! ### all orders -/

def SL (listed : Array Bool) (i : Nat) : Prop := listed.getD i false = true
theorem SL_set {listed : Array Bool} {i : Nat} (hi : i < listed.size) : SL (listed.setIfInBounds i true) = addS (SL listed) i := by
  funext q
  apply propext
  unfold SL addS
  by_cases hq : i = q
  · subst hq; simp [hi]
  · simp only [Array.getD_eq_getD_getElem?, Array.getElem?_setIfInBounds_ne hq]
    exact ⟨.inl, fun h => h.resolve_right (Ne.symm hq)⟩

def left (listed : Array Bool) (n : Nat) : Nat := ((List.range n).filter fun i => !listed.getD i false).length
theorem left_set {listed : Array Bool} {i n : Nat} (hi : i < n) (hs : listed.size = n) (hl : listed.getD i false = false) : left (listed.setIfInBounds i true) n < left listed n := by
  unfold left
  have e : (List.range n).filter (fun q => !(listed.setIfInBounds i true).getD q false) = ((List.range n).filter fun q => !listed.getD q false).filter (fun q => q != i) := by
    rw [List.filter_filter]
    congr 1
    funext q
    by_cases hq : i = q
    · subst hq; simp [hs, hi]
    · have : (q != i) = true := by simp; exact Ne.symm hq
      simp only [Array.getD_eq_getD_getElem?, Array.getElem?_setIfInBounds_ne hq, this, Bool.true_and]
  rw [e]
  refine List.length_filter_lt_length_iff_exists.2 ⟨i, ?_, by simp⟩
  rw [List.mem_filter]
  exact ⟨List.mem_range.2 hi, by rw [hl]; rfl⟩

/-- the rest stands in one order -/
theorem tail_any {P : Program} {Q : Exit → Act → World → Prop} (hed : edgesIn ops.toList 0 = true) : ∀ (r n : Nat) (fuel : Nat) (listed : Array Bool) (a : Act) (w : World), n + r = ops.size → r ≤ fuel → listed.size = ops.size → lastFree (masksF ops.toList []) ops.toList.length ≤ n → (∀ i, SL listed i ↔ i < n) →
    wpOps P ops Q (List.range' n r) a w → wpAny P .any ops Q fuel listed a w := by
  intro r
  induction r with
  | zero =>
    intro n fuel listed a w hn hf hsz hlf hS h
    refine wpAny_done ?_ h fuel
    refine List.eq_nil_iff_forall_not_mem.2 fun i hi => ?_
    obtain ⟨h0, o, ho, _⟩ := mem_ready.1 hi
    have hlt : i < ops.size := (Array.getElem?_eq_some_iff.1 ho).1
    have : SL listed i := (hS i).2 (by omega)
    unfold SL at this
    have hl : i < listed.size := by omega
    simp [hl] at h0 this
    rw [this] at h0; cases h0
  | succ r ih =>
    intro n fuel listed a w hn hf hsz hlf hS h
    cases fuel with
    | zero => omega
    | succ fuel =>
      have hnl : n < ops.size := by omega
      have hmem : n ∈ Region.ready .any ops listed := by
        refine mem_ready.2 ⟨?_, ops[n], Array.getElem?_eq_getElem hnl, fun e he hb => ?_⟩
        · have hl : n < listed.size := by omega
          have : ¬ SL listed n := fun hh => by have := (hS n).1 hh; omega
          unfold SL at this
          simp [hl] at this ⊢
          exact this
        · have := edgesIn_spec hed n ops[n] (by simp [hnl]) e he hb
          exact (hS _).2 (by omega)
      refine ⟨fun hr => (by rw [hr] at hmem; cases hmem), fun i hi => ?_⟩
      obtain ⟨h0, o, ho, hall⟩ := mem_ready.1 hi
      have hlt : i < ops.size := (Array.getElem?_eq_some_iff.1 ho).1
      have hni : i = n := by
        have hge : ¬ i < n := fun hlt' => by
          have : SL listed i := (hS i).2 hlt'
          unfold SL at this
          have hl : i < listed.size := by omega
          simp [hl] at h0 this
          rw [this] at h0; cases h0
        rcases Nat.lt_or_ge n i with hgt | hle
        · exfalso
          have hoL : ops.toList[i]? = some o := by simpa using ho
          have hb := behind (all := ops.toList) (i := i) (q := n) (by omega) (by simpa using hlt) hgt
          have hcl : Closed ops.toList (SL listed) := by
            intro q x hq hx e he hbb
            have hqn := (hS q).1 hq
            have := edgesIn_spec hed q x hx e he hbb
            exact (hS _).2 (by omega)
          have := bef_in hcl (fun q hq => by have := (hS q).1 hq; simp; omega) i o hoL (fun e he hbb => hall e he hbb) n hb
          have := (hS n).1 this
          omega
        · omega
      subst hni
      rw [List.range'_succ, wpOps_cons] at h
      refine wpOp_mono (fun a' w' h' => ?_) h
      refine ih (i + 1) fuel _ a' w' (by omega) (by omega) (by simp [hsz]) (by omega) (fun q => ?_) h'
      rw [SL_set (by omega)]
      unfold addS
      rw [hS]
      omega

theorem phase (hE : EnvOK E) (hC : CallsOK E call) (H : Setting E call rid ops.toList free j rt oj st) (hP : Plan rid (masksF ops.toList []) free j rt oj st MO tB tG) (hfree : lastFree (masksF ops.toList []) ops.toList.length = free)
    (hAct : j < free → ∀ (o : Oper) (S : Nat → Prop) (a : Act) (w : World) (Q : Exit → Act → World → Prop), ops.toList[j]? = some o → Closed ops.toList S → (∀ i, S i → i < free) → ¬ S j → (∀ e ∈ o.after, Region.binds .any e = true → S e.on) →
      AtS E B rid ops.toList free j st MO tB tG false S a w → wpOp E.P ops Q j (fun a' w' => AtS E B rid ops.toList free j st MO tB tG true (addS S j) a' w') a w)
    (hMO : free ≤ j → MO = (st free).2) {Q : Exit → Act → World → Prop} (hend : ∀ G w a, RelAll E B G (st free).2 All w (st free).1 a → wpOps E.P ops Q (List.range' free (ops.size - free)) a w) :
    ∀ (fuel : Nat) (listed : Array Bool) (c : Bool) (a : Act) (w : World), listed.size = ops.size → left listed ops.size ≤ fuel → Closed ops.toList (SL listed) → (∀ i, SL listed i → i < free) → AtS E B rid ops.toList free j st MO tB tG c (SL listed) a w → wpAny E.P .any ops Q fuel listed a w := by
  have hfl : free ≤ ops.size := by have := H.le; simpa using this
  have unl : ∀ {listed : Array Bool} {i : Nat}, listed.size = ops.size → i < ops.size → ¬ SL listed i → listed.getD i false = false ∧ listed.getD i true = false := by
    intro listed i hsz hi hS
    unfold SL at hS
    have hl : i < listed.size := by omega
    simp [hl] at hS ⊢
    exact hS
  -- all that is open has been executed
  have full : ∀ (fuel : Nat) (listed : Array Bool) (c : Bool) (a : Act) (w : World), listed.size = ops.size → left listed ops.size ≤ fuel → (∀ i, SL listed i → i < free) → (∀ i, i < free → SL listed i) → AtS E B rid ops.toList free j st MO tB tG c (SL listed) a w → wpAny E.P .any ops Q fuel listed a w := by
    intro fuel listed c a w hsz hf hsub hfull hat
    obtain ⟨hc, ⟨G, tm, h, hl, h1, h2⟩, _⟩ := hat
    have hM : (if c = true then (st free).2 else MO) = (st free).2 := by
      cases c with
      | true => rfl
      | false =>
        show MO = _
        refine hMO (Nat.le_of_not_lt fun hj => ?_)
        have := hc.2 ⟨hj, hfull j hj⟩; cases this
    have hp : pS rid free st (SL listed) = All := by
      funext k
      exact propext ⟨fun _ => trivial, fun _ i hi hS _ => absurd (hfull i hi) hS⟩
    have htm : tm = (st free).1 := by
      refine getT_ext _ _ (by rw [hl, way_len H.way free (Nat.le_refl _)]) fun t => ?_
      by_cases hex : ∃ (q : Nat) (x : Oper), q < free ∧ ops.toList[q]? = some x ∧ x.dst = some t
      · obtain ⟨q, x, hq, hx, hd⟩ := hex
        exact h2 q x t (hfull q hq) hx hd
      · rw [h1 t (fun q x hq hx hd => hex ⟨q, x, hsub q hq, hx, hd⟩)]
        exact (way_noslot H.way (fun q x hq hx hd => hex ⟨q, x, hq, hx, hd⟩) free (Nat.le_refl _)).symm
    rw [hM, hp, htm] at h
    have hleft : ops.size - free ≤ fuel := by
      refine Nat.le_trans ?_ hf
      unfold left
      have : (List.range' free (ops.size - free)).length ≤ ((List.range ops.size).filter fun i => !listed.getD i false).length := by
        refine List.Sublist.length_le ?_
        have e1 : List.range ops.size = List.range' 0 free ++ List.range' free (ops.size - free) := by
          rw [List.range_eq_range', show List.range' free (ops.size - free) = List.range' (0 + free) (ops.size - free) by rw [Nat.zero_add], List.range'_append_1, show free + (ops.size - free) = ops.size by omega]
        rw [e1, List.filter_append]
        refine List.Sublist.trans ?_ (List.sublist_append_right _ _)
        rw [List.filter_eq_self.2 (fun i hi => by
          have := List.mem_range'_1.1 hi
          have := (unl hsz (by omega) (fun hS => by have := hsub i hS; omega) : listed.getD i false = false ∧ _)
          rw [this.1]; rfl)]
        exact List.Sublist.refl _
      simpa using this
    exact tail_any H.ed (ops.size - free) free fuel listed a w (by omega) hleft hsz (by rw [hfree]; exact Nat.le_refl _) (fun i => ⟨hsub i, hfull i⟩) (hend G w a h)
  intro fuel
  induction fuel with
  | zero =>
    intro listed c a w hsz hf hcl hsub hat
    refine full 0 listed c a w hsz hf hsub (fun i hi => ?_) hat
    by_cases hS : SL listed i
    · exact hS
    · exfalso
      have := left_set (n := ops.size) (by omega) hsz (unl hsz (by omega) hS).1
      omega
  | succ fuel ih =>
    intro listed c a w hsz hf hcl hsub hat
    by_cases hfull : ∀ i, i < free → SL listed i
    · exact full (fuel + 1) listed c a w hsz hf hsub hfull hat
    · obtain ⟨i0, hi0, hS0⟩ : ∃ i, i < free ∧ ¬ SL listed i := by
        refine Classical.byContradiction fun hn => hfull fun i hi => ?_
        exact Classical.byContradiction fun hS => hn ⟨i, hi, hS⟩
      refine ⟨fun hr => ?_, fun i hi => ?_⟩
      · exfalso
        have : ∀ i, i < ops.size → SL listed i := by
          intro i
          induction i using Nat.strongRecOn with
          | _ i ih2 =>
            intro hi
            refine Classical.byContradiction fun hS => ?_
            have : i ∈ Region.ready .any ops listed := by
              refine mem_ready.2 ⟨(unl hsz hi hS).2, ops[i], Array.getElem?_eq_getElem hi, fun e he hb => ?_⟩
              have := edgesIn_spec H.ed i ops[i] (by simp [hi]) e he hb
              exact ih2 e.on (by omega) (by omega)
            rw [hr] at this; cases this
        exact hS0 (this i0 (by omega))
      · obtain ⟨h0, o, ho, hall⟩ := mem_ready.1 hi
        have hlt : i < ops.size := (Array.getElem?_eq_some_iff.1 ho).1
        have hoL : ops.toList[i]? = some o := by simpa using ho
        have hS : ¬ SL listed i := fun hS => by
          unfold SL at hS
          have hl : i < listed.size := by omega
          simp [hl] at h0 hS
          rw [hS] at h0; cases h0
        have hif : i < free := by
          refine Nat.lt_of_not_le fun hge => ?_
          have hb := behind (all := ops.toList) (i := i) (q := i0) (by rw [hfree]; exact hge) (by simpa using hlt) (by omega)
          exact hS0 (bef_in hcl (fun q hq => by have := hsub q hq; simp; omega) i o hoL (fun e he hbb => hall e he hbb) i0 hb)
        have hcl' : Closed ops.toList (addS (SL listed) i) := by
          intro q x hq hx e he hbb
          rcases hq with hq | rfl
          · exact .inl (hcl q x hq hx e he hbb)
          · rw [hoL] at hx
            obtain rfl := Option.some.inj hx
            exact .inl (hall e he hbb)
        have hsub' : ∀ q, addS (SL listed) i q → q < free := fun q hq => by
          rcases hq with hq | rfl
          · exact hsub q hq
          · exact hif
        have next : ∀ c' a' w', AtS E B rid ops.toList free j st MO tB tG c' (addS (SL listed) i) a' w' → wpAny E.P .any ops Q fuel (listed.setIfInBounds i true) a' w' := by
          intro c' a' w' h'
          have e := SL_set (listed := listed) (i := i) (by omega)
          refine ih (listed.setIfInBounds i true) c' a' w' (by simp [hsz]) ?_ (by rw [e]; exact hcl') (by rw [e]; exact hsub') (by rw [e]; exact h')
          have := left_set (n := ops.size) hlt hsz (unl hsz hlt hS).1
          omega
        by_cases hij : i = j
        · subst hij
          have hcf : c = false := by
            cases c with
            | false => rfl
            | true => exact absurd (hat.hc.1 rfl).2 hS
          subst hcf
          exact wpOp_mono (next true) (hAct hif o (SL listed) a w Q hoL hcl hsub hS hall hat)
        · exact wpOp_mono (next c) (step_at hE hC H hP hcl hsub hif hij hoL hS hall hat Q)

end
end Mini

/- Regions that draw: the theorem; and what functions come to, without conditions on regions. -/
namespace Mini
open Go

theorem actsOf_spec {free : Nat} : ∀ {l : List Oper} {n j : Nat}, j ∈ actsOf free l n → ∃ (q : Nat) (o : Oper), j = n + q ∧ l[q]? = some o ∧ j < free ∧ acts o.op = true := by
  intro l
  induction l with
  | nil => intro n j h; simp [actsOf] at h
  | cons x l ih =>
    intro n j h
    simp only [actsOf] at h
    have tail : j ∈ actsOf free l (n + 1) → ∃ (q : Nat) (o : Oper), j = n + q ∧ (x :: l)[q]? = some o ∧ j < free ∧ acts o.op = true := fun h => by
      obtain ⟨q, o, h1, h2, h3⟩ := ih h
      exact ⟨q + 1, o, by omega, by simpa using h2, h3⟩
    split at h
    · rename_i hc
      simp only [Bool.and_eq_true, Nat.blt_eq] at hc
      rcases List.mem_cons.1 h with rfl | h
      · exact ⟨0, x, by omega, rfl, hc.1, hc.2⟩
      · exact tail h
    · exact tail h

section
variable {E : Env} {B : Base} {call : CallT}

theorem drawOK (hE : EnvOK E) (hC : CallsOK E call) : DrawOK E B call := by
  intro R z K Q ops rid G m w tm a hK h hn he
  simp only [evReg, if_true] at he
  unfold evDrawn at he
  simp only at he
  split at he
  · rename_i hchk
    simp only [Bool.and_eq_true] at hchk
    obtain ⟨⟨hap, hlo⟩, hed⟩ := hchk
    have hfl : lastFree (masksF ops.toList []) ops.toList.length ≤ ops.toList.length := (lastFree_spec _ _).1
    refine wp_region_any hE.mixed ?_
    have h0 : RelAll E B G m All { w with drawn := w.drawn + 1 } tm a := quiet_rel h ⟨rfl, rfl, rfl, rfl⟩
    generalize hw0 : ({ w with drawn := w.drawn + 1 } : World) = w0 at h0 ⊢
    generalize hfr : lastFree (masksF ops.toList []) ops.toList.length = free at he hfl
    have hSL : SL (Array.replicate ops.size false) = fun _ => False := by
      funext i
      apply propext
      unfold SL
      have : (Array.replicate ops.size false).getD i false = false := by
        rw [Array.getD_eq_getD_getElem?, Array.getElem?_replicate]; split <;> rfl
      rw [this]
      exact ⟨fun h => (by cases h), False.elim⟩
    -- all orders, from a plan
    have fin : ∀ (j rt : Nat) (oj : Op) (st : Nat → List T × Mem) (MO : Mem) (tB tG : Nat → Prop), st 0 = (tm, m) → Way E call rid ops.toList (masksF ops.toList []) free j rt oj st →
        evOps E call rid ops.toList (ops.toList.drop free) free (st free).1 (st free).2 (fun tm m => K (clearG ops.toList tm) m) = some z → (j < free → ActOK rid st j) → Plan rid (masksF ops.toList []) free j rt oj st MO tB tG → (free ≤ j → MO = (st free).2) →
        (j < free → ∀ (o : Oper) (S : Nat → Prop) (a : Act) (w : World) (Q : Exit → Act → World → Prop), ops.toList[j]? = some o → Closed ops.toList S → (∀ i, S i → i < free) → ¬ S j → (∀ e ∈ o.after, Region.binds .any e = true → S e.on) →
          AtS E B rid ops.toList free j st MO tB tG false S a w → wpOp E.P ops Q j (fun a' w' => AtS E B rid ops.toList free j st MO tB tG true (addS S j) a' w') a w) →
        wpAny E.P .any ops Q ops.size (Array.replicate ops.size false) a w0 := by
      intro j rt oj st MO tB tG hst0 hway hrest hA hP hMO hAct
      have H : Setting E call rid ops.toList free j rt oj st := ⟨hway, hap, hed, hlo, by rw [hst0]; exact hn, hfl⟩
      refine phase hE hC H hP hfr hAct hMO (fun G w a hrel => ?_) ops.size (Array.replicate ops.size false) false a w0 (by simp) ?_ (by rw [hSL]; intro i o hi; exact hi.elim) (by rw [hSL]; intro i hi; exact hi.elim) ?_
      · have hiv : Iv ops.toList free (st free).1 := by
          intro t s b u hc
          obtain ⟨hv, q, o, j0, h1, h2, h3, h4, h5⟩ := way_cnd hway H.noc free (Nat.le_refl _) t s b u hc
          refine ⟨hv, ⟨q, o, h1, h2, h3, by rw [h4]; rfl⟩, ?_⟩
          unfold grdOf at h5
          split at h5
          · rename_i hlt
            unfold dstOf at h5
            cases hx : ops.toList[j0]? with
            | none => rw [hx] at h5; cases h5
            | some x => rw [hx] at h5; exact ⟨j0, x, by omega, hx, h5⟩
          · cases h5
        have := evOps_ok (Q := Q) hE hC (fun _ => hap) (fun G m w tm a h hi hk => hK G m w _ a (rel_clear h hi).1 (rel_clear h hi).2 hk) (ops.toList.drop free) free rfl G (st free).2 w (st free).1 a hrel hiv hrest
        rw [List.length_drop, Array.length_toList] at this
        exact this
      · unfold left
        refine Nat.le_trans (List.length_filter_le _ _) ?_
        simp
      · rw [hSL]
        exact at_start H hA hP (G := G) (by rw [hst0]; exact h0)
    split at he
    · -- no act
      obtain ⟨st, hst0, hway, hrest⟩ := trace hfl ops.toList 0 tm m rfl (Nat.zero_le _) he
      have hway : Way E call rid ops.toList (masksF ops.toList []) free ops.toList.length 0 noOp st := fun q hq => hway q (Nat.zero_le _) hq
      have hmild : ∀ q, q < free → Mild (keyAt rid q) (st q).2 (st (q + 1)).2 := fun q hq => mild_of hway hq (by omega)
      exact fin ops.toList.length 0 noOp st (st free).2 _ _ hst0 hway hrest (fun hj => by omega) (plan_mild hmild (fun hj => by omega)) (fun _ => rfl) (fun hj => by omega)
    · rename_i j hacts
      obtain ⟨q0, o, hq0, ho, hj, hact⟩ := actsOf_spec (j := j) (by rw [hacts]; simp)
      have : q0 = j := by omega
      subst this
      rw [ho] at he
      simp only at he
      split at he
      · rename_i hok
        unfold actOK at hok
        rw [ho] at hok
        simp only [Bool.and_eq_true] at hok
        obtain ⟨hg, hok⟩ := hok
        have hg : o.guard = none := by
          cases hx : o.guard with
          | none => rfl
          | some x => rw [hx] at hg; cases hg
        obtain ⟨st, hst0, hway, hrest⟩ := trace hfl ops.toList 0 tm m rfl (Nat.zero_le _) he
        have hway : Way E call rid ops.toList (masksF ops.toList []) free q0 (rootAt ops.toList o.op) o.op st := fun q hq => hway q (Nat.zero_le _) hq
        obtain ⟨o', ho', hs⟩ := hway q0 hj
        rw [ho] at ho'
        obtain rfl := Option.some.inj ho'
        have H : Setting E call rid ops.toList free q0 (rootAt ops.toList o.op) o.op st := ⟨hway, hap, hed, hlo, by rw [hst0]; exact hn, hfl⟩
        have hbj : ∀ i, bef (masksF ops.toList []) q0 i = true → i < q0 := fun i hb => bef_lt hed q0 (by omega) i hb
        have hbi : ∀ i, i < free → bef (masksF ops.toList []) i q0 = true → q0 < i := fun i hi hb => bef_lt hed i (by omega) q0 hb
        generalize hst1 : st (q0 + 1) = s1 at hs
        obtain ⟨tm1, m1⟩ := s1
        have hm1 : (st (q0 + 1)).2 = m1 := by rw [hst1]
        have ht1 : (st (q0 + 1)).1 = tm1 := by rw [hst1]
        cases hs with
        | plain u m' hi => exact absurd rfl hi
        | cond j0 b s g ks v hi => exact absurd rfl hi
        | act u m' _ hv ha hk heff =>
          by_cases hstr : isStore o.op = true
          · -- a store
            obtain ⟨tid, d, y, hop⟩ : ∃ tid d y, o.op = .store tid (.tmp d) y := by
              cases hop : o.op with
              | store tid x y =>
                rw [hop] at hok
                cases x with
                | tmp d => exact ⟨tid, d, y, rfl⟩
                | _ => cases hok
              | _ => rw [hop] at hstr; cases hstr
            have hmade : madeIn q0 (rootAt ops.toList o.op) ops.toList 0 = true := by
              rw [hop] at hok ⊢; exact hok
            have ha' : sameBox (getT (st q0).1 d) (getT (st q0).1 (rootAt ops.toList o.op)) = true := by
              have := ha
              rw [hop] at this ⊢
              exact this
            obtain ⟨b, off, hd⟩ : ∃ b off, getT (st q0).1 d = .addr b off := by
              cases hx : getT (st q0).1 d with
              | addr b off => exact ⟨b, off, rfl⟩
              | _ => rw [hx] at ha'; cases ha'
            have hevM : ∀ M : Mem, evAt E call (keyAt rid q0) (st q0).1 [] M o.op = storeT E M tid (.addr b off) (opdC E (st q0).1 [] y) := by
              intro M
              rw [hop]
              show storeT E M tid (opdC E (st q0).1 [] (.tmp d)) _ = _
              have : opdC E (st q0).1 [] (.tmp d) = .addr b off := by
                unfold opdC
                simp only [opd, hd, unc]
              rw [this]
            rw [hevM] at heff
            rcases storeT_addr (E := E) (m := (st q0).2) (tid := tid) (b := b) (off := off) (v := opdC E (st q0).1 [] y) with hbad | ⟨cs, new, c1, c2, c3, c4⟩
            · rw [hbad] at heff; exact heff.elim
            · rw [c3] at heff
              obtain ⟨rfl, rfl⟩ := heff
              have hA : ActOK rid st q0 := by
                refine ⟨fun k hk => ?_, fun k hk => by rw [hm1]; exact hk, fun hh => ?_⟩
                · rw [hm1]
                  show lk (setB _ _ _) k ≠ none
                  rw [lk_setB]
                  split
                  · rw [c1]; simp
                  · exact hk
                · exfalso
                  rcases hh with ⟨h1, h2⟩ | ⟨h1, h2⟩
                  · rw [hm1] at h2
                    refine h2 ?_
                    show lk (setB _ _ _) _ = none
                    rw [lk_setB, if_neg]
                    · exact h1
                    · intro he; rw [he, c1] at h1; cases h1
                  · rw [hm1] at h2; exact h2 h1
              refine fin q0 _ _ st _ _ _ hst0 hway hrest (fun _ => hA) (plan_store hway hap hj hstr hbj hbi hd ha' hmade hfl c1 c2 hm1) (fun hle => by omega) (fun _ o2 S a w Q ho2 hcl hsub hS hr hat => ?_)
              rw [ho] at ho2
              obtain rfl := Option.some.inj ho2
              exact act_store hE hC H hcl hsub hj ho hg hS hr hop hd c1 c2 (fun M hM hal => by rw [hevM]; exact c4 M hM hal) hm1 ht1 hat Q
          · have hstr : isStore o.op = false := by simpa using hstr
            rcases hk with hk | hk | ⟨hk1, hk2⟩
            · rw [hstr] at hk; cases hk
            · -- an append
              cases hr : evAt E call (keyAt rid q0) (st q0).1 [] (st q0).2 o.op with
              | anew k τ x f =>
                rw [hr] at heff
                obtain ⟨hf, zz, hx, rfl, rfl⟩ := heff
                obtain ⟨hop, g, g1, g2, g3⟩ := evAt_anew hact hstr hr
                obtain ⟨p1, p2, p3, p4⟩ := plan_anew (gn := f zz) hway hj hstr hbj hbi g1 hf hm1
                obtain ⟨fb, fg⟩ := freeM_lk hf
                have hA : ActOK rid st q0 := by
                  refine ⟨fun k' hk' => by rw [hm1]; exact hk', fun k' hk' => ?_, fun _ => ⟨fb, fg⟩⟩
                  rw [hm1]
                  simp only [lk_cons]
                  split
                  · simp
                  · by_cases hkk : k' = k
                    · subst hkk; rw [lk_up_self]; cases hx : lk (st q0).2.gr k' with
                      | none => exact absurd hx hk'
                      | some g => simp
                    · rw [lk_up_ne _ _ hkk]; exact hk'
                refine fin q0 _ _ st _ _ _ hst0 hway hrest (fun _ => hA) p1 (fun hle => by omega) (fun _ o2 S a w Q ho2 hcl hsub hS hr' hat => ?_)
                rw [ho] at ho2
                obtain rfl := Option.some.inj ho2
                exact act_anew hE hC H hcl hsub hj ho hg hS hr' hstr hx rfl hbj hop g1 g3 hf hm1 ht1 p2 p3 p4 hat Q
              | _ => rw [hr] at hk; cases hk
            · -- nothing is turned
              have hnA := res_noAlt (evAt E call (keyAt rid q0) (st q0).1 [] (st q0).2 o.op)
              have heff' := heff
              rw [← hm1] at heff'
              have hmild : ∀ q, q < free → Mild (keyAt rid q) (st q).2 (st (q + 1)).2 := fun q hq => by
                by_cases hqj : q = q0
                · subst hqj
                  obtain ⟨e1, e2⟩ := eff_keys (res_still hk1) hnA heff'
                  exact ⟨eff_grow (res_still hk1) hnA heff', e1, e2⟩
                · exact mild_of hway hq hqj
              have hgr := (hmild q0 hj).grow
              have hA : ActOK rid st q0 := by
                refine ⟨fun k hk => ?_, fun k hk => ?_, fun hh => eff_new (res_still hk1) hnA heff' hh⟩
                · cases hx : lk (st q0).2.boxes k with
                  | none => exact absurd hx hk
                  | some cs => rw [hgr.1 k cs hx]; simp
                · cases hx : lk (st q0).2.gr k with
                  | none => exact absurd hx hk
                  | some g => obtain ⟨g', e, _⟩ := hgr.2 k g hx; rw [e]; simp
              refine fin q0 _ _ st _ _ _ hst0 hway hrest (fun _ => hA) (plan_mild hmild (fun _ => hstr)) (fun _ => rfl) (fun _ o2 S a w Q ho2 hcl hsub hS hr hat => ?_)
              rw [ho] at ho2
              obtain rfl := Option.some.inj ho2
              exact act_mild hE hC H hmild hcl hsub hj ho hg hS hr hk1 hk2 heff' ht1 hat Q
      · cases he
    · cases he
  · cases he

/-- what functions come to -/
theorem meets_of (hE : EnvOK E) (hI : InstOK E) (hX : ExtOK E) {k i : Nat} {s : Sig} {x : El s.ent.ty} {z : El s.out.ty} (hs : E.sig i = some s) (h : sem E k i none s.ent.ty s.out.ty x = some z) : Meets E s x z :=
  (sem_ok hE hI hX (fun _ _ hC => drawOK hE hC) k).1 i s x z hs h

end
end Mini
