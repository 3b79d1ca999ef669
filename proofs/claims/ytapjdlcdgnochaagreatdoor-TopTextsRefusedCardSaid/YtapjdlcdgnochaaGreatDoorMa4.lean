/- An evaluator of plain data over the form of a program, and its soundness. -/
import Derived.Test.YtapjdlcdgnochaaGreatDoorMa3
set_option linter.unusedSectionVars false
set_option linter.unusedSimpArgs false
set_option linter.unusedVariables false

/- Pieces of code: the theorem. -/
namespace Mini
open Go

section
variable {E : Env} {B : Base} {call : CallT} {R : Type}

/-- the boxes of the beginning come first in a shape -/
def Pre (B : Base) (sh : Shape) : Prop := ∀ j, j < B.n → ∃ ks, sh.boxes[j]? = some ks ∧ ks.length = B.len j

/-- laying what lives anew says no less -/
def PackOK (E : Env) (B : Base) : Prop :=
  ∀ (G : Gh) (m : Mem) (w : World) (tm : List T) (a : Act) (sh : Shape) (y : El sh.ty), RelAll E B G m All w tm a → NoC tm → Pre B sh → pack B.n m sh tm = some y →
    ∃ G', RelAll E B G' (unpack sh y).m All w ((unpack sh y).tm ++ padN (B.N - sh.tmps.length)) a ∧ NoC ((unpack sh y).tm ++ padN (B.N - sh.tmps.length))

/-- what is known of the way on from a cut -/
def JOK (E : Env) (B : Base) (C : Nat → Option Shape) (J : JT R) (z : R) (Q : Exit → Act → World → Prop) (b : Go.Frame) (k0 : List Item) (cs : List Go.Frame) (c0 : Code) : Prop :=
  ∀ r sh y pos, C r = some sh → findK r c0 k0 = some pos → J r sh.ty y = some z → Pre B sh ∧ ∀ G w a, RelAll E B G (unpack sh y).m All w ((unpack sh y).tm ++ padN (B.N - sh.tmps.length)) a → NoC ((unpack sh y).tm ++ padN (B.N - sh.tmps.length)) →
    Fin E.P Q b k0 cs (lone (b.at a pos) cs w)

/-- what is known of the way on behind a piece -/
structure KOK (E : Env) (B : Base) (K : Ex → List T → Mem → Option R) (z : R) (Q : Exit → Act → World → Prop) (b : Go.Frame) (k0 : List Item) (cs : List Go.Frame) (k : List Item) : Prop where
  normal : ∀ G m w tm a, RelAll E B G m All w tm a → NoC tm → K .normal tm m = some z → Fin E.P Q b k0 cs (lone (b.at a k) cs w)
  exit : ∀ id G m w tm a, RelAll E B G m All w tm a → NoC tm → K (.exit id) tm m = some z → ∃ k', exitTo id k = some k' ∧ Fin E.P Q b k0 cs (lone (b.at a k') cs w)
  ret : ∀ G m w tm a, RelAll E B G m All w tm a → NoC tm → K .ret tm m = some z → Q .ret a w

def Pos (C : Nat → Option Shape) (c0 : Code) (k0 : List Item) (c : Code) (k : List Item) : Prop := ∀ r s, (C r).isSome = true → findK r c k = some s → findK r c0 k0 = some s

variable {C : Nat → Option Shape} {J : JT R} {z : R} {Q : Exit → Act → World → Prop} {b : Go.Frame} {k0 : List Item} {cs : List Go.Frame} {c0 : Code}

theorem cut_ok (hP : PackOK E B) (hJ : JOK E B C J z Q b k0 cs c0) {o : Option Nat} {pos : List Item} {G : Gh} {m : Mem} {w : World} {tm : List T} {a : Act} {x : Option R} (hpos : ∀ r, o = some r → (C r).isSome = true → findK r c0 k0 = some pos)
    (h : RelAll E B G m All w tm a) (hn : NoC tm) (hc : cutAt B.n C J o tm m = some x) (hx : x = some z) : Fin E.P Q b k0 cs (lone (b.at a pos) cs w) := by
  subst hx
  unfold cutAt at hc
  split at hc
  · cases hc
  · rename_i r
    split at hc
    · cases hc
    · rename_i sh hsh
      have hc := Option.some.inj hc
      cases hp : pack B.n m sh tm with
      | none => rw [hp] at hc; cases hc
      | some y =>
        rw [hp] at hc
        obtain ⟨h1, h2⟩ := hJ r sh y pos hsh (hpos r rfl (by rw [hsh]; rfl)) hc
        obtain ⟨G', h3, h4⟩ := hP G m w tm a sh y h hn h1 hp
        exact h2 G' w a h3 h4

theorem pos_seq {x y : Code} {k : List Item} (hp : Pos C c0 k0 (.seq x y) k) (hd : distinct (cutIds C (.seq x y)) = true) :
    Pos C c0 k0 x (.code y :: k) ∧ Pos C c0 k0 y k ∧ (∀ r, ahead y = some r → (C r).isSome = true → findK r c0 k0 = some (.code y :: k)) ∧ distinct (cutIds C x) = true ∧ distinct (cutIds C y) = true := by
  simp only [cutIds] at hd
  obtain ⟨d1, d2, d3⟩ := distinct_spec hd
  obtain ⟨d4, d5, d6⟩ := distinct_spec d2
  refine ⟨fun r s hC hs => hp r s hC ?_, fun r s hC hs => hp r s hC ?_, fun r hr hC => hp r _ hC (by simp only [findK, hr, if_true]), d4, d5⟩
  · have hm := findK_mem hC _ _ _ hs
    simp only [findK]
    rw [if_neg (fun he => d3 r (idL_mem he hC) (List.mem_append_left _ hm)), hs]
  · have hm := findK_mem hC _ _ _ hs
    simp only [findK]
    rw [if_neg (fun he => d3 r (idL_mem he hC) (List.mem_append_right _ hm))]
    cases hx : findK r x (.code y :: k) with
    | none => exact hs
    | some s' => exact (d6 r (findK_mem hC _ _ _ hx) hm).elim

theorem pos_cond {o : Operand} {x y : Code} {k : List Item} (hp : Pos C c0 k0 (.cond o x y) k) (hd : distinct (cutIds C (.cond o x y)) = true) :
    Pos C c0 k0 x k ∧ Pos C c0 k0 y k ∧ distinct (cutIds C x) = true ∧ distinct (cutIds C y) = true := by
  simp only [cutIds] at hd
  obtain ⟨d4, d5, d6⟩ := distinct_spec hd
  refine ⟨fun r s hC hs => hp r s hC (by simp only [findK, hs]), fun r s hC hs => hp r s hC ?_, d4, d5⟩
  have hm := findK_mem hC _ _ _ hs
  simp only [findK]
  cases hx : findK r x k with
  | none => exact hs
  | some s' => exact (d6 r (findK_mem hC _ _ _ hx) hm).elim

theorem pos_loop {x : Code} {k : List Item} (hp : Pos C c0 k0 (.loop x) k) (hd : distinct (cutIds C (.loop x)) = true) :
    Pos C c0 k0 x (.inLoop x :: k) ∧ (∀ r, headOf x = some r → (C r).isSome = true → findK r c0 k0 = some (.code x :: .inLoop x :: k)) ∧ distinct (cutIds C x) = true := by
  simp only [cutIds] at hd
  obtain ⟨d1, d2, d3⟩ := distinct_spec hd
  refine ⟨fun r s hC hs => hp r s hC ?_, fun r hr hC => hp r _ hC (by simp only [findK, hr, if_true]), d2⟩
  have hm := findK_mem hC _ _ _ hs
  simp only [findK]
  rw [if_neg (fun he => d3 r (idL_mem he hC) hm)]
  exact hs

theorem kok_seq (hP : PackOK E B) (hJ : JOK E B C J z Q b k0 cs c0) {y : Code} {k : List Item} {K : Ex → List T → Mem → Option R} (hK : KOK E B K z Q b k0 cs k)
    (hpos : ∀ r, ahead y = some r → (C r).isSome = true → findK r c0 k0 = some (.code y :: k))
    (hy : ∀ G m w tm a, RelAll E B G m All w tm a → NoC tm → evC E call B.n C J y tm m K = some z → Fin E.P Q b k0 cs (lone (b.at a (.code y :: k)) cs w)) :
    KOK E B (fun e tm m => match e with
      | .normal => match cutAt B.n C J (ahead y) tm m with
        | some r => r
        | none => evC E call B.n C J y tm m K
      | e => K e tm m) z Q b k0 cs (.code y :: k) := by
  refine ⟨fun G m w tm a h hn he => ?_, fun id G m w tm a h hn he => ?_, fun G m w tm a h hn he => hK.ret G m w tm a h hn he⟩
  · simp only at he
    split at he
    · rename_i x hx
      exact cut_ok hP hJ hpos h hn hx he
    · exact hy G m w tm a h hn he
  · obtain ⟨k', h1, h2⟩ := hK.exit id G m w tm a h hn he
    exact ⟨k', by simpa [exitTo] using h1, h2⟩

theorem kok_block {id : Nat} {k : List Item} {K : Ex → List T → Mem → Option R} (hK : KOK E B K z Q b k0 cs k) :
    KOK E B (fun e tm m => match e with
      | .exit i => if i = id then K .normal tm m else K (.exit i) tm m
      | e => K e tm m) z Q b k0 cs (.inBlock id :: k) := by
  refine ⟨fun G m w tm a h hn he => .of_steps (.one step_inBlock) (hK.normal G m w tm a h hn he), fun i G m w tm a h hn he => ?_, fun G m w tm a h hn he => hK.ret G m w tm a h hn he⟩
  simp only at he
  split at he
  · rename_i hi
    exact ⟨k, by simp [exitTo, hi], hK.normal G m w tm a h hn he⟩
  · rename_i hi
    obtain ⟨k', h1, h2⟩ := hK.exit i G m w tm a h hn he
    have : (id == i) = false := by simp; exact fun h => hi h.symm
    exact ⟨k', by simp [exitTo, this, h1], h2⟩

theorem kok_loop (hP : PackOK E B) (hJ : JOK E B C J z Q b k0 cs c0) {x : Code} {k : List Item} {K : Ex → List T → Mem → Option R} (hK : KOK E B K z Q b k0 cs k)
    (hpos : ∀ r, headOf x = some r → (C r).isSome = true → findK r c0 k0 = some (.code x :: .inLoop x :: k)) :
    KOK E B (fun e tm m => match e with
      | .normal => match cutAt B.n C J (headOf x) tm m with
        | some r => r
        | none => none
      | e => K e tm m) z Q b k0 cs (.inLoop x :: k) := by
  refine ⟨fun G m w tm a h hn he => ?_, fun id G m w tm a h hn he => ?_, fun G m w tm a h hn he => hK.ret G m w tm a h hn he⟩
  · simp only at he
    split at he
    · rename_i r hx
      exact .of_steps (.one step_inLoop) (cut_ok hP hJ hpos h hn hx he)
    · cases he
  · obtain ⟨k', h1, h2⟩ := hK.exit id G m w tm a h hn he
    exact ⟨k', by simpa [exitTo] using h1, h2⟩

theorem evC_ok (hE : EnvOK E) (hC : CallsOK E call) (hD : DrawOK E B call) (hP : PackOK E B) (hJ : JOK E B C J z Q b k0 cs c0) : ∀ (c : Code) (k : List Item) (K : Ex → List T → Mem → Option R),
    KOK E B K z Q b k0 cs k → Pos C c0 k0 c k → distinct (cutIds C c) = true → ∀ G m w tm a, RelAll E B G m All w tm a → NoC tm → evC E call B.n C J c tm m K = some z → Fin E.P Q b k0 cs (lone (b.at a (.code c :: k)) cs w) := by
  intro c
  induction c with
  | skip => intro k K hK _ _ G m w tm a h hn he; exact .of_steps (.one step_skip) (hK.normal G m w tm a h hn he)
  | region id ops d =>
    intro k K hK _ _ G m w tm a h hn he
    have := evReg_ok (Q := fun e a w => e = .normal ∧ Fin E.P Q b k0 cs (lone (b.at a k) cs w)) hE hC hD (fun G m w tm a h hn hk => ⟨rfl, hK.normal G m w tm a h hn hk⟩) h hn he
    obtain ⟨e, a', w', ⟨rfl, hq⟩, har⟩ := this b k cs
    exact .of_steps har hq
  | seq x y ihx ihy =>
    intro k K hK hp hd G m w tm a h hn he
    obtain ⟨p1, p2, p3, d1, d2⟩ := pos_seq hp hd
    exact .of_steps (.one step_seq) (ihx _ _ (kok_seq hP hJ hK p3 (ihy k K hK p2 d2)) p1 d1 G m w tm a h hn he)
  | cond o x y ihx ihy =>
    intro k K hK hp hd G m w tm a h hn he
    obtain ⟨p1, p2, d1, d2⟩ := pos_cond hp hd
    simp only [evC] at he
    split at he
    · rename_i t ht
      have hr := opdC_rel h (ch := []) (fun _ _ hq => by cases hq) o
      have hv : a.eval o = .bool t := by
        unfold opdC at hr
        rw [ht] at hr
        exact rel_bool hr
      refine .of_steps (.one (step_cond hv)) ?_
      cases t with
      | true => exact ihx k K hK p1 d1 G m w tm a h hn he
      | false => exact ihy k K hK p2 d2 G m w tm a h hn he
    · cases he
  | block id x ih =>
    intro k K hK hp hd G m w tm a h hn he
    exact .of_steps (.one step_block) (ih _ _ (kok_block hK) (fun r s hC hs => hp r s hC hs) hd G m w tm a h hn he)
  | loop x ih =>
    intro k K hK hp hd G m w tm a h hn he
    obtain ⟨_, p2, _⟩ := pos_loop hp hd
    simp only [evC] at he
    split at he
    · rename_i r hx
      exact .of_steps (.one step_loop) (cut_ok hP hJ p2 h hn hx he)
    · cases he
  | exit id =>
    intro k K hK _ _ G m w tm a h hn he
    obtain ⟨k', h1, h2⟩ := hK.exit id G m w tm a h hn he
    exact .of_steps (.one (step_exit h1)) h2
  | ret =>
    intro k K hK _ _ G m w tm a h hn he
    exact ⟨.ret, a, w, hK.ret G m w tm a h hn he, _, .one step_ret⟩
  | _ => intro k K hK _ _ G m w tm a h hn he; cases he

theorem find_ok (hE : EnvOK E) (hC : CallsOK E call) (hD : DrawOK E B call) (hP : PackOK E B) (hJ : JOK E B C J z Q b k0 cs c0) (r : Nat) : ∀ (c : Code) (k : List Item) (K : Ex → List T → Mem → Option R),
    KOK E B K z Q b k0 cs k → Pos C c0 k0 c k → distinct (cutIds C c) = true →
    (∀ f, find E call B.n C J r c K = some f → ∃ pos, findK r c k = some pos ∧ ∀ G m w tm a, RelAll E B G m All w tm a → NoC tm → f tm m = some z → Fin E.P Q b k0 cs (lone (b.at a pos) cs w)) ∧
    (find E call B.n C J r c K = none → findK r c k = none) := by
  intro c
  induction c with
  | seq x y ihx ihy =>
    intro k K hK hp hd
    obtain ⟨p1, p2, p3, d1, d2⟩ := pos_seq hp hd
    have hKa := kok_seq (call := call) hP hJ hK p3 (evC_ok hE hC hD hP hJ y k K hK p2 d2)
    obtain ⟨i1, i2⟩ := ihx _ _ hKa p1 d1
    obtain ⟨j1, j2⟩ := ihy k K hK p2 d2
    refine ⟨fun f hf => ?_, fun hf => ?_⟩
    · simp only [find] at hf
      split at hf
      · rename_i ha
        obtain rfl := Option.some.inj hf
        exact ⟨_, by simp only [findK, ha, if_true], evC_ok hE hC hD hP hJ y k K hK p2 d2⟩
      · rename_i ha
        split at hf
        · rename_i f' hf'
          obtain rfl := Option.some.inj hf
          obtain ⟨pos, h1, h2⟩ := i1 _ hf'
          exact ⟨pos, by simp only [findK, if_neg ha, h1], h2⟩
        · rename_i hf'
          obtain ⟨pos, h1, h2⟩ := j1 _ hf
          exact ⟨pos, by simp only [findK, if_neg ha, i2 hf', h1], h2⟩
    · simp only [find] at hf
      split at hf
      · cases hf
      · rename_i ha
        split at hf
        · cases hf
        · rename_i hf'
          simp only [findK, if_neg ha, i2 hf', j2 hf]
  | cond o x y ihx ihy =>
    intro k K hK hp hd
    obtain ⟨p1, p2, d1, d2⟩ := pos_cond hp hd
    obtain ⟨i1, i2⟩ := ihx k K hK p1 d1
    obtain ⟨j1, j2⟩ := ihy k K hK p2 d2
    refine ⟨fun f hf => ?_, fun hf => ?_⟩
    · simp only [find] at hf
      split at hf
      · rename_i f' hf'
        obtain rfl := Option.some.inj hf
        obtain ⟨pos, h1, h2⟩ := i1 _ hf'
        exact ⟨pos, by simp only [findK, h1], h2⟩
      · rename_i hf'
        obtain ⟨pos, h1, h2⟩ := j1 _ hf
        exact ⟨pos, by simp only [findK, i2 hf', h1], h2⟩
    · simp only [find] at hf
      split at hf
      · cases hf
      · rename_i hf'
        simp only [findK, i2 hf', j2 hf]
  | block id x ih =>
    intro k K hK hp hd
    exact ih _ _ (kok_block hK) (fun r s hC hs => hp r s hC hs) hd
  | loop x ih =>
    intro k K hK hp hd
    obtain ⟨p1, p2, d⟩ := pos_loop hp hd
    have hKl := kok_loop hP hJ hK p2
    obtain ⟨i1, i2⟩ := ih _ _ hKl p1 d
    refine ⟨fun f hf => ?_, fun hf => ?_⟩
    · simp only [find] at hf
      split at hf
      · rename_i ha
        obtain rfl := Option.some.inj hf
        exact ⟨_, by simp only [findK, ha, if_true], evC_ok hE hC hD hP hJ x _ _ hKl p1 d⟩
      · rename_i ha
        obtain ⟨pos, h1, h2⟩ := i1 _ hf
        exact ⟨pos, by simp only [findK, if_neg ha, h1], h2⟩
    · simp only [find] at hf
      split at hf
      · cases hf
      · rename_i ha
        simp only [findK, if_neg ha, i2 hf]
  | _ => intro k K hK hp hd; exact ⟨fun f hf => (by simp [find] at hf), fun _ => rfl⟩

end
end Mini

/- What lives, packed and laid anew: the data. -/
namespace Mini
open Go

/-- how a slot laid anew stands to the elder one -/
def SlotOK (gr : List (Nat × Gr)) (k : Kind) (v : T) (κ : Nat) (u : T) (g : List (Nat × Gr)) : Prop :=
  match k with
  | .u => u = .unk
  | .a j o => u = .addr j o
  | .d t => ∃ x, rdCell gr t v = some x ∧ u = .dat t x
  | .o t ex => ∃ xs, rdCell gr (.sl t) v = some xs ∧ u = .own κ ∧ lk g κ = some ⟨t, xs, if ex = true then .excl else .shared, 0⟩
  | .c f l => u = .clo f l

theorem slotOK_mono {gr : List (Nat × Gr)} {k : Kind} {v : T} {κ : Nat} {u : T} {g g' : List (Nat × Gr)} (h : SlotOK gr k v κ u g) (hg : lk g' κ = lk g κ) : SlotOK gr k v κ u g' := by
  cases k with
  | o t ex =>
    obtain ⟨xs, h1, h2, h3⟩ := h
    exact ⟨xs, h1, h2, hg.trans h3⟩
  | _ => exact h

theorem un1_ok {gr : List (Nat × Gr)} {k : Kind} {v : T} {acc : List Ty} {y : EL acc} {x : EL (kt1 k acc)} (κ : Nat) (g : List (Nat × Gr)) (h : pk1 gr k v acc y = some x) :
    (un1 k acc x κ g).2.1 = y ∧ SlotOK gr k v κ (un1 k acc x κ g).1 (un1 k acc x κ g).2.2 ∧ (∀ k', k' ≠ κ → lk (un1 k acc x κ g).2.2 k' = lk g k') ∧
    (lk (un1 k acc x κ g).2.2 κ = lk g κ ∨ ∃ t ex, k = .o t ex) := by
  cases k with
  | u => obtain rfl := Option.some.inj h; exact ⟨rfl, rfl, fun _ _ => rfl, .inl rfl⟩
  | a j o => obtain rfl := Option.some.inj h; exact ⟨rfl, rfl, fun _ _ => rfl, .inl rfl⟩
  | c f l => obtain rfl := Option.some.inj h; exact ⟨rfl, rfl, fun _ _ => rfl, .inl rfl⟩
  | d t =>
    simp only [pk1] at h
    split at h
    · rename_i z hz
      obtain rfl := Option.some.inj h
      exact ⟨rfl, ⟨z, hz, rfl⟩, fun _ _ => rfl, .inl rfl⟩
    · cases h
  | o t ex =>
    simp only [pk1] at h
    split at h
    · rename_i z hz
      obtain rfl := Option.some.inj h
      refine ⟨rfl, ⟨z, hz, rfl, ?_⟩, fun k' hk => ?_, .inr ⟨t, ex, rfl⟩⟩
      · show lk ((κ, _) :: g) κ = _
        rw [lk_cons, if_pos rfl]
      · show lk ((κ, _) :: g) k' = _
        rw [lk_cons, if_neg (Ne.symm hk)]
    · cases h

theorem getT_tail (vs : List T) (q : Nat) : getT vs.tail q = getT vs (q + 1) := by cases vs <;> rfl

theorem uns_ok {gr : List (Nat × Gr)} : ∀ (l : List Kind) (acc : List Ty) (vs : List T) (y : EL acc) (x : EL (kts l acc)) (κ : Nat) (g : List (Nat × Gr)), pks gr l vs acc y = some x →
    (uns l acc x κ g).2.1 = y ∧ (uns l acc x κ g).1.length = l.length ∧
    (∀ q (hq : q < l.length), SlotOK gr l[q] (getT vs q) (κ + q) (getT (uns l acc x κ g).1 q) (uns l acc x κ g).2.2) ∧
    (∀ k', (k' < κ ∨ κ + l.length ≤ k') → lk (uns l acc x κ g).2.2 k' = lk g k') ∧
    (∀ q (hq : q < l.length), lk (uns l acc x κ g).2.2 (κ + q) = lk g (κ + q) ∨ ∃ t ex, l[q] = .o t ex) := by
  intro l
  induction l with
  | nil =>
    intro acc vs y x κ g h
    obtain rfl := Option.some.inj (show some y = some x from h)
    exact ⟨rfl, rfl, fun q hq => absurd hq (Nat.not_lt_zero q), fun _ _ => rfl, fun q hq => absurd hq (Nat.not_lt_zero q)⟩
  | cons k l ih =>
    intro acc vs y x κ g h
    simp only [pks] at h
    split at h
    · rename_i y1 hy1
      obtain ⟨a1, a2, a3, a4⟩ := un1_ok κ g h
      have hy1' : pks gr l vs.tail acc y = some (un1 k (kts l acc) x κ g).2.1 := by rw [a1]; exact hy1
      obtain ⟨b1, b2, b3, b4, b5⟩ := ih acc vs.tail y (un1 k (kts l acc) x κ g).2.1 (κ + 1) (un1 k (kts l acc) x κ g).2.2 hy1'
      refine ⟨b1, by simp only [uns, List.length_cons, b2], fun q hq => ?_, fun k' hk => ?_, fun q hq => ?_⟩
      · cases q with
        | zero =>
          refine slotOK_mono a2 ?_
          exact b4 _ (.inl (by omega))
        | succ q =>
          have := b3 q (by simpa using hq)
          rw [getT_tail, show κ + 1 + q = κ + (q + 1) by omega] at this
          exact this
      · simp only [List.length_cons] at hk
        show lk (uns l acc _ (κ + 1) _).2.2 k' = _
        rw [b4 k' (by omega)]
        exact a3 k' (by omega)
      · cases q with
        | zero =>
          show lk (uns l acc _ (κ + 1) _).2.2 κ = _ ∨ _
          rw [b4 κ (.inl (by omega))]
          exact a4
        | succ q =>
          have := b5 q (by simpa using hq)
          rw [show κ + 1 + q = κ + (q + 1) by omega, a3 _ (show κ + (q + 1) ≠ κ by omega)] at this
          exact this
    · cases h

/-- a box that is laid anew -/
def BoxLaid (m : Mem) (bm : List (Option (Nat × Nat))) (ks : List Kind) (j κ : Nat) (cs : List T) (g : List (Nat × Gr)) : Prop :=
  ∃ i b, getM bm j = some (i, b) ∧ cs.length = ks.length ∧ ∀ q (hq : q < ks.length), SlotOK m.gr ks[q] (getT ((getB m.boxes i).drop b) q) (κ + q) (getT cs q) g

theorem unB_ok {m : Mem} {bm : List (Option (Nat × Nat))} : ∀ (l : List (List Kind)) (j : Nat) (acc : List Ty) (y : EL acc) (x : EL (ktss l acc)) (κ : Nat) (g : List (Nat × Gr)), pkB m bm l j acc y = some x →
    (unB l acc x κ g).2.1 = y ∧ (unB l acc x κ g).1.length = l.length ∧
    (∀ jj (hj : jj < l.length) (hj' : jj < (unB l acc x κ g).1.length), BoxLaid m bm l[jj] (j + jj) (κ + sumL (l.take jj)) (unB l acc x κ g).1[jj] (unB l acc x κ g).2.2) ∧
    (∀ k', (k' < κ ∨ κ + sumL l ≤ k') → lk (unB l acc x κ g).2.2 k' = lk g k') ∧
    (∀ k', κ ≤ k' → k' < κ + sumL l → lk (unB l acc x κ g).2.2 k' = lk g k' ∨ ∃ jj q t ex, ∃ (hj : jj < l.length) (hq : q < l[jj].length), k' = κ + sumL (l.take jj) + q ∧ l[jj][q] = .o t ex) := by
  intro l
  induction l with
  | nil =>
    intro j acc y x κ g h
    obtain rfl := Option.some.inj (show some y = some x from h)
    exact ⟨rfl, rfl, fun q hq => absurd hq (Nat.not_lt_zero q), fun _ _ => rfl, fun k' h1 h2 => by simp only [sumL] at h2; omega⟩
  | cons k l ih =>
    intro j acc y x κ g h
    obtain ⟨i, b, y1, hm, hy1, h⟩ : ∃ i b y1, getM bm j = some (i, b) ∧ pkB m bm l (j + 1) acc y = some y1 ∧ pks m.gr k ((getB m.boxes i).drop b) (ktss l acc) y1 = some x := by
      simp only [pkB] at h
      cases hm : getM bm j with
      | none => rw [hm] at h; cases h
      | some ib =>
        obtain ⟨i, b⟩ := ib
        cases hy1 : pkB m bm l (j + 1) acc y with
        | none => rw [hm, hy1] at h; cases h
        | some y1 => rw [hm, hy1] at h; exact ⟨i, b, y1, rfl, rfl, h⟩
    · skip
      obtain ⟨a1, a2, a3, a4, a5⟩ := uns_ok k (ktss l acc) _ y1 x κ g h
      have hy1' : pkB m bm l (j + 1) acc y = some (uns k (ktss l acc) x κ g).2.1 := by rw [a1]; exact hy1
      obtain ⟨b1, b2, b3, b4, b5⟩ := ih (j + 1) acc y (uns k (ktss l acc) x κ g).2.1 (κ + k.length) (uns k (ktss l acc) x κ g).2.2 hy1'
      refine ⟨b1, by simp only [unB, List.length_cons, b2], fun jj hj hj' => ?_, fun k' hk => ?_, fun k' hk1 hk2 => ?_⟩
      · cases jj with
        | zero =>
          refine ⟨i, b, hm, a2, fun q hq => ?_⟩
          refine slotOK_mono (g := (uns k (ktss l acc) x κ g).2.2) ?_ (b4 _ (.inl ?_))
          · exact a3 q hq
          · simp only [List.take_zero, sumL]
            have : q < k.length := hq
            omega
        | succ jj =>
          have := b3 jj (by simpa using hj) (by rw [b2]; simpa using hj)
          rw [show j + 1 + jj = j + (jj + 1) by omega, show κ + k.length + sumL (l.take jj) = κ + sumL ((k :: l).take (jj + 1)) by simp only [List.take_succ_cons, sumL]; omega] at this
          exact this
      · simp only [sumL] at hk
        show lk (unB l acc _ (κ + k.length) _).2.2 k' = _
        rw [b4 k' (by omega)]
        exact a4 k' (by omega)
      · simp only [sumL] at hk2
        by_cases hlt : k' < κ + k.length
        · obtain ⟨q, rfl⟩ : ∃ q, k' = κ + q := ⟨k' - κ, by omega⟩
          show lk (unB l acc _ (κ + k.length) _).2.2 _ = _ ∨ _
          rw [b4 _ (.inl hlt)]
          rcases a5 q (by omega) with e | ⟨t, ex, e⟩
          · exact .inl e
          · exact .inr ⟨0, q, t, ex, by simp, by simp; omega, by simp [sumL], e⟩
        · rcases b5 k' (by omega) (by omega) with e | ⟨jj, q, t, ex, hj, hq, e1, e2⟩
          · left
            show lk (unB l acc _ (κ + k.length) _).2.2 k' = _
            rw [e]; exact a4 k' (by omega)
          · exact .inr ⟨jj + 1, q, t, ex, by simpa using hj, by simpa using hq, by simp only [List.take_succ_cons, sumL]; omega, by simpa using e2⟩

theorem ofP_toP : ∀ (ts : List Ty) (x : EL ts), ofP ts (toP ts x) = x := by
  intro ts
  induction ts with
  | nil => intro x; cases x; rfl
  | cons t ts ih =>
    intro x
    cases ts with
    | nil => obtain ⟨a, b⟩ := x; cases b; rfl
    | cons u ts =>
      obtain ⟨a, b⟩ := x
      show (a, ofP (u :: ts) (toP (u :: ts) b)) = (a, b)
      rw [ih]

end Mini

/- What lives: what the scan has seen. -/
namespace Mini
open Go

def Caps (bm : List (Option (Nat × Nat))) : List (Nat × Nat) → List (Nat × Nat) → Prop
  | [], [] => True
  | (j, off) :: l, (i, o) :: m => (off ≤ o ∧ getM bm j = some (i, o - off)) ∧ Caps bm l m
  | _, _ => False

/-- what the scan has seen of a slot -/
def ScanS (gr : List (Nat × Gr)) (F : Found) (k : Kind) (v : T) : Prop :=
  match k with
  | .u => True
  | .a j off => ∃ i o, v = .addr i o ∧ off ≤ o ∧ getM F.bm j = some (i, o - off)
  | .d _ => ∀ q, v = .own q → q ∈ F.dats
  | .o _ ex => v = .nil ∨ ∃ q g, v = .own q ∧ lk gr q = some g ∧ q ∈ F.owns ∧ g.md ≠ .dead ∧ (ex = true → g.md = .excl ∧ q ∈ F.exs)
  | .c f l => ∃ m, v = .clo f m ∧ Caps F.bm l m

structure FLe (F F' : Found) : Prop where
  bm : ∀ j p, getM F.bm j = some p → getM F'.bm j = some p
  len : F'.bm.length = F.bm.length
  dats : ∀ k ∈ F.dats, k ∈ F'.dats
  exs : ∀ k ∈ F.exs, k ∈ F'.exs
  owns : ∀ k ∈ F.owns, k ∈ F'.owns

theorem FLe.refl (F : Found) : FLe F F := ⟨fun _ _ h => h, rfl, fun _ h => h, fun _ h => h, fun _ h => h⟩
theorem FLe.trans {F F1 F2 : Found} (h : FLe F F1) (k : FLe F1 F2) : FLe F F2 :=
  ⟨fun j p hp => k.bm j p (h.bm j p hp), k.len.trans h.len, fun x hx => k.dats x (h.dats x hx), fun x hx => k.exs x (h.exs x hx), fun x hx => k.owns x (h.owns x hx)⟩

theorem caps_mono {F F' : Found} (h : FLe F F') : ∀ (l m : List (Nat × Nat)), Caps F.bm l m → Caps F'.bm l m := by
  intro l; induction l with
  | nil => intro m hc; cases m <;> first | trivial | exact hc
  | cons x l ih =>
    intro m hc
    cases m with
    | nil => exact hc.elim
    | cons y m => exact ⟨⟨hc.1.1, h.bm _ _ hc.1.2⟩, ih m hc.2⟩

theorem scanS_mono {gr : List (Nat × Gr)} {F F' : Found} {k : Kind} {v : T} (h : FLe F F') (hs : ScanS gr F k v) : ScanS gr F' k v := by
  cases k with
  | u => trivial
  | a j off => obtain ⟨i, o, h1, h2, h3⟩ := hs; exact ⟨i, o, h1, h2, h.bm _ _ h3⟩
  | d t => exact fun q hq => h.dats q (hs q hq)
  | o t ex =>
    rcases hs with hs | ⟨q, g, h1, h2, h3, h4, h5⟩
    · exact .inl hs
    · exact .inr ⟨q, g, h1, h2, h.owns q h3, h4, fun he => ⟨(h5 he).1, h.exs q (h5 he).2⟩⟩
  | c f l => obtain ⟨m, h1, h2⟩ := hs; exact ⟨m, h1, caps_mono h l m h2⟩

theorem getM_set : ∀ (l : List (Option (Nat × Nat))) (j : Nat) (p : Nat × Nat) (i : Nat), getM (setM l j p) i = if i = j ∧ j < l.length then some p else getM l i := by
  intro l; induction l with
  | nil => intro j p i; simp [setM]
  | cons x l ih =>
    intro j p i
    cases j with
    | zero => cases i <;> simp [setM, getM]
    | succ j =>
      cases i with
      | zero => simp [setM, getM]
      | succ i => simp only [setM, getM, ih, List.length_cons]; congr 1; apply propext; omega
theorem setM_len : ∀ (l : List (Option (Nat × Nat))) (j : Nat) (p : Nat × Nat), (setM l j p).length = l.length := by
  intro l; induction l with
  | nil => intro j p; rfl
  | cons x l ih => intro j p; cases j <;> simp [setM, ih]

theorem findB_ok {F F' : Found} {j off i o : Nat} (h : findB F j off i o = some F') : FLe F F' ∧ off ≤ o ∧ getM F'.bm j = some (i, o - off) ∧ F'.owns = F.owns := by
  unfold findB at h
  split at h
  · rename_i hle
    split at h
    · rename_i p hp
      split at h
      · rename_i he
        obtain rfl := Option.some.inj h
        obtain ⟨p1, p2⟩ := p
        simp only at he
        obtain ⟨rfl, rfl⟩ := he
        exact ⟨FLe.refl _, hle, hp, rfl⟩
      · cases h
    · rename_i hp
      split at h
      · rename_i hj
        obtain rfl := Option.some.inj h
        refine ⟨⟨fun q p hq => ?_, setM_len _ _ _, fun _ h => h, fun _ h => h, fun _ h => h⟩, hle, by simp only [getM_set]; rw [if_pos ⟨trivial, hj⟩], rfl⟩
        simp only [getM_set]
        rw [if_neg]
        · exact hq
        · rintro ⟨rfl, _⟩; rw [hp] at hq; cases hq
      · cases h
  · cases h

theorem findBs_ok : ∀ (l m : List (Nat × Nat)) {F F' : Found}, findBs F l m = some F' → FLe F F' ∧ Caps F'.bm l m ∧ F'.owns = F.owns := by
  intro l; induction l with
  | nil =>
    intro m F F' h
    cases m with
    | nil => obtain rfl := Option.some.inj (show some F = some F' from h); exact ⟨FLe.refl _, trivial, rfl⟩
    | cons y m => cases h
  | cons x l ih =>
    intro m F F' h
    obtain ⟨j, off⟩ := x
    cases m with
    | nil => cases h
    | cons y m =>
      obtain ⟨i, o⟩ := y
      simp only [findBs] at h
      split at h
      · rename_i F1 h1
        obtain ⟨a1, a2, a3, a4⟩ := findB_ok h1
        obtain ⟨b1, b2, b3⟩ := ih m h
        exact ⟨a1.trans b1, ⟨⟨a2, b1.bm _ _ a3⟩, b2⟩, b3.trans a4⟩
      · cases h

/-- the entry that a slot hands on whole -/
def OwnS (k : Kind) (v : T) (q : Nat) : Prop := (∃ t ex, k = .o t ex) ∧ v = .own q

theorem scan1_ok {gr : List (Nat × Gr)} {F F' : Found} {k : Kind} {v : T} (h : scan1 gr F k v = some F') :
    FLe F F' ∧ ScanS gr F' k v ∧ ∀ q, OwnS k v q → q ∉ F.owns ∧ q ∈ F'.owns := by
  have noown : (∀ t ex, k ≠ .o t ex) → ∀ q, OwnS k v q → q ∉ F.owns ∧ q ∈ F'.owns := fun hk q hq => by
    obtain ⟨⟨t, ex, he⟩, _⟩ := hq; exact absurd he (hk t ex)
  cases k with
  | u => obtain rfl := Option.some.inj (show some F = some F' by cases v <;> exact h); exact ⟨FLe.refl _, trivial, noown (by simp)⟩
  | a j off =>
    cases v with
    | addr i o =>
      obtain ⟨a1, a2, a3, a4⟩ := findB_ok (show findB F j off i o = some F' from h)
      exact ⟨a1, ⟨i, o, rfl, a2, a3⟩, noown (by simp)⟩
    | _ => cases h
  | d t =>
    cases v with
    | own q =>
      obtain rfl := Option.some.inj h
      exact ⟨⟨fun _ _ h => h, rfl, fun x hx => List.mem_cons_of_mem _ hx, fun _ h => h, fun _ h => h⟩, fun q' hq => by injection hq with hq; subst hq; simp, noown (by simp)⟩
    | _ => obtain rfl := Option.some.inj h; exact ⟨FLe.refl _, fun q hq => (by cases hq), noown (by simp)⟩
  | o t ex =>
    cases v with
    | nil => obtain rfl := Option.some.inj h; exact ⟨FLe.refl _, .inl rfl, fun q hq => by cases hq.2⟩
    | own q =>
      replace h : ownF gr F ex q = some F' := h
      unfold ownF at h
      split at h
      · rename_i g hg
        split at h
        · cases h
        · rename_i hne
          have hne : q ∉ F.owns := by simpa using hne
          have own : ∀ {F' : Found}, F'.owns = q :: F.owns → ∀ q', OwnS (.o t ex) (.own q) q' → q' ∉ F.owns ∧ q' ∈ F'.owns := fun he q' hq => by
            obtain ⟨_, hq⟩ := hq
            injection hq with hq; subst hq
            exact ⟨hne, by rw [he]; simp⟩
          split at h
          · rename_i hmd
            obtain rfl := Option.some.inj h
            exact ⟨⟨fun _ _ h => h, rfl, fun _ h => h, fun x hx => List.mem_cons_of_mem _ hx, fun x hx => List.mem_cons_of_mem _ hx⟩, .inr ⟨q, g, rfl, hg, by simp, by rw [hmd]; simp, fun _ => ⟨hmd, by simp⟩⟩, own rfl⟩
          · rename_i hmd
            obtain rfl := Option.some.inj h
            exact ⟨⟨fun _ _ h => h, rfl, fun _ h => h, fun x hx => hx, fun x hx => List.mem_cons_of_mem _ hx⟩, .inr ⟨q, g, rfl, hg, by simp, by rw [hmd]; simp, fun he => by cases he⟩, own rfl⟩
          · rename_i hmd
            obtain rfl := Option.some.inj h
            exact ⟨⟨fun _ _ h => h, rfl, fun _ h => h, fun x hx => hx, fun x hx => List.mem_cons_of_mem _ hx⟩, .inr ⟨q, g, rfl, hg, by simp, by rw [hmd]; simp, fun he => by cases he⟩, own rfl⟩
          · cases h
      · cases h
    | _ => cases h
  | c f l =>
    cases v with
    | clo g m =>
      simp only [scan1] at h
      split at h
      · rename_i he
        subst he
        obtain ⟨a1, a2, a3⟩ := findBs_ok l m h
        exact ⟨a1, ⟨m, rfl, a2⟩, noown (by simp)⟩
      · cases h
    | _ => cases h

theorem scans_ok {gr : List (Nat × Gr)} : ∀ (l : List Kind) (vs : List T) {F F' : Found}, scans gr F l vs = some F' →
    FLe F F' ∧ l.length ≤ vs.length ∧ (∀ q (hq : q < l.length), ScanS gr F' l[q] (getT vs q)) ∧
    (∀ q (hq : q < l.length) k, OwnS l[q] (getT vs q) k → k ∉ F.owns ∧ k ∈ F'.owns) ∧
    (∀ q1 q2 (h1 : q1 < l.length) (h2 : q2 < l.length) k, OwnS l[q1] (getT vs q1) k → OwnS l[q2] (getT vs q2) k → q1 = q2) := by
  intro l
  induction l with
  | nil => intro vs F F' h; obtain rfl := Option.some.inj (show some F = some F' from h); exact ⟨FLe.refl _, Nat.zero_le _, fun q hq => absurd hq (Nat.not_lt_zero q), fun q hq => absurd hq (Nat.not_lt_zero q), fun q _ hq => absurd hq (Nat.not_lt_zero q)⟩
  | cons k l ih =>
    intro vs F F' h
    cases vs with
    | nil => cases h
    | cons v vs =>
      simp only [scans] at h
      split at h
      · rename_i F1 h1
        obtain ⟨a1, a2, a3⟩ := scan1_ok h1
        obtain ⟨b1, b2, b3, b4, b5⟩ := ih vs h
        refine ⟨a1.trans b1, by simpa using b2, fun q hq => ?_, fun q hq x hx => ?_, fun q1 q2 hq1 hq2 x hx1 hx2 => ?_⟩
        · cases q with
          | zero => exact scanS_mono b1 a2
          | succ q => exact b3 q (by simpa using hq)
        · cases q with
          | zero => exact ⟨(a3 x hx).1, b1.owns x (a3 x hx).2⟩
          | succ q =>
            obtain ⟨c1, c2⟩ := b4 q (by simpa using hq) x hx
            exact ⟨fun hm => c1 (a1.owns x hm), c2⟩
        · cases q1 with
          | zero =>
            cases q2 with
            | zero => rfl
            | succ q2 => exact absurd (a3 x hx1).2 (b4 q2 (by simpa using hq2) x hx2).1
          | succ q1 =>
            cases q2 with
            | zero => exact absurd (a3 x hx2).2 (b4 q1 (by simpa using hq1) x hx1).1
            | succ q2 => rw [b5 q1 q2 (by simpa using hq1) (by simpa using hq2) x hx1 hx2]
      · cases h

theorem scanB_ok {m : Mem} : ∀ (l : List (List Kind)) (j : Nat) {F F' : Found}, scanB m l j F = some F' →
    FLe F F' ∧ (∀ jj (hj : jj < l.length), ∃ i b, getM F'.bm (j + jj) = some (i, b) ∧ b + l[jj].length ≤ (getB m.boxes i).length ∧ ∀ q (hq : q < l[jj].length), ScanS m.gr F' l[jj][q] (getT ((getB m.boxes i).drop b) q)) ∧
    (∀ jj (hj : jj < l.length) i b, getM F'.bm (j + jj) = some (i, b) → ∀ q (hq : q < l[jj].length) k, OwnS l[jj][q] (getT ((getB m.boxes i).drop b) q) k → k ∉ F.owns ∧ k ∈ F'.owns) ∧
    (∀ j1 j2 (h1 : j1 < l.length) (h2 : j2 < l.length) i1 b1 i2 b2, getM F'.bm (j + j1) = some (i1, b1) → getM F'.bm (j + j2) = some (i2, b2) → ∀ q1 q2 (hq1 : q1 < l[j1].length) (hq2 : q2 < l[j2].length) k,
      OwnS l[j1][q1] (getT ((getB m.boxes i1).drop b1) q1) k → OwnS l[j2][q2] (getT ((getB m.boxes i2).drop b2) q2) k → j1 = j2 ∧ q1 = q2) := by
  intro l
  induction l with
  | nil => intro j F F' h; obtain rfl := Option.some.inj (show some F = some F' from h); exact ⟨FLe.refl _, fun q hq => absurd hq (Nat.not_lt_zero q), fun q hq => absurd hq (Nat.not_lt_zero q), fun q _ hq => absurd hq (Nat.not_lt_zero q)⟩
  | cons ks l ih =>
    intro j F F' h
    simp only [scanB] at h
    split at h
    · rename_i i b hm
      split at h
      · rename_i hlen
        split at h
        · rename_i F1 h1
          obtain ⟨a1, _, a3, a4, a5⟩ := scans_ok ks _ h1
          obtain ⟨b1, b2, b3, b4⟩ := ih (j + 1) h
          have h0 : getM F'.bm (j + 0) = some (i, b) := b1.bm _ _ (a1.bm _ _ hm)
          have e1 : ∀ jj, j + (jj + 1) = j + 1 + jj := fun jj => by omega
          refine ⟨a1.trans b1, fun jj hj => ?_, fun jj hj i' b' hib q hq k hk => ?_, fun j1 j2 hj1 hj2 i1 b1' i2 b2' hib1 hib2 q1 q2 hq1 hq2 k hk1 hk2 => ?_⟩
          · cases jj with
            | zero => exact ⟨i, b, h0, hlen, fun q hq => scanS_mono b1 (a3 q hq)⟩
            | succ jj =>
              obtain ⟨i', b', c1, c2, c3⟩ := b2 jj (by simpa using hj)
              exact ⟨i', b', by rw [e1]; exact c1, c2, c3⟩
          · cases jj with
            | zero =>
              rw [h0] at hib
              obtain ⟨rfl, rfl⟩ := Prod.mk.inj (Option.some.inj hib)
              obtain ⟨c1, c2⟩ := a4 q hq k hk
              exact ⟨c1, b1.owns k c2⟩
            | succ jj =>
              rw [e1] at hib
              obtain ⟨c1, c2⟩ := b3 jj (by simpa using hj) i' b' hib q hq k hk
              exact ⟨fun hm => c1 (a1.owns k hm), c2⟩
          · cases j1 with
            | zero =>
              rw [h0] at hib1
              obtain ⟨rfl, rfl⟩ := Prod.mk.inj (Option.some.inj hib1)
              cases j2 with
              | zero =>
                rw [h0] at hib2
                obtain ⟨rfl, rfl⟩ := Prod.mk.inj (Option.some.inj hib2)
                exact ⟨rfl, a5 q1 q2 hq1 hq2 k hk1 hk2⟩
              | succ j2 =>
                rw [e1] at hib2
                exact absurd (a4 q1 hq1 k hk1).2 (b3 j2 (by simpa using hj2) i2 b2' hib2 q2 hq2 k hk2).1
            | succ j1 =>
              rw [e1] at hib1
              cases j2 with
              | zero =>
                rw [h0] at hib2
                obtain ⟨rfl, rfl⟩ := Prod.mk.inj (Option.some.inj hib2)
                exact absurd (a4 q2 hq2 k hk2).2 (b3 j1 (by simpa using hj1) i1 b1' hib1 q1 hq1 k hk1).1
              | succ j2 =>
                rw [e1] at hib2
                obtain ⟨e1', e2⟩ := b4 j1 j2 (by simpa using hj1) (by simpa using hj2) i1 b1' i2 b2' hib1 hib2 q1 q2 hq1 hq2 k hk1 hk2
                exact ⟨by rw [e1'], e2⟩
        · cases h
      · cases h
    · cases h

end Mini

/- What lives: places of slots. -/
namespace Mini
open Go

def zipK : List Kind → List T → List (Kind × T)
  | [], _ => []
  | k :: l, vs => (k, getT vs 0) :: zipK l vs.tail
def cellsOf (m : Mem) (bm : List (Option (Nat × Nat))) (j : Nat) : List T :=
  match getM bm j with
  | some (i, b) => (getB m.boxes i).drop b
  | none => []
def flatB (m : Mem) (bm : List (Option (Nat × Nat))) : List (List Kind) → Nat → List (Kind × T)
  | [], _ => []
  | ks :: l, j => zipK ks (cellsOf m bm j) ++ flatB m bm l (j + 1)
/-- all slots of a shape, in the order of their keys -/
def flat (m : Mem) (bm : List (Option (Nat × Nat))) (sh : Shape) (tm : List T) : List (Kind × T) := zipK sh.tmps tm ++ flatB m bm sh.boxes 0

theorem zipK_len : ∀ (l : List Kind) (vs : List T), (zipK l vs).length = l.length := by
  intro l; induction l with
  | nil => intro vs; rfl
  | cons k l ih => intro vs; simp [zipK, ih]
theorem zipK_get : ∀ (l : List Kind) (vs : List T) (q : Nat) (h : q < l.length), (zipK l vs)[q]? = some (l[q], getT vs q) := by
  intro l; induction l with
  | nil => intro vs q h; simp at h
  | cons k l ih =>
    intro vs q h
    cases q with
    | zero => rfl
    | succ q =>
      simp only [zipK, List.getElem?_cons_succ, List.getElem_cons_succ]
      rw [ih vs.tail q (by simpa using h), getT_tail]

theorem flatB_len (m : Mem) (bm : List (Option (Nat × Nat))) : ∀ (l : List (List Kind)) (j : Nat), (flatB m bm l j).length = sumL l := by
  intro l; induction l with
  | nil => intro j; rfl
  | cons ks l ih => intro j; simp [flatB, zipK_len, ih, sumL]

theorem flatB_get (m : Mem) (bm : List (Option (Nat × Nat))) : ∀ (l : List (List Kind)) (j jj q : Nat) (hj : jj < l.length) (hq : q < l[jj].length), (flatB m bm l j)[sumL (l.take jj) + q]? = some (l[jj][q], getT (cellsOf m bm (j + jj)) q) := by
  intro l; induction l with
  | nil => intro j jj q hj; simp at hj
  | cons ks l ih =>
    intro j jj q hj hq
    cases jj with
    | zero =>
      have hq' : q < ks.length := hq
      simp only [flatB, List.take_zero, sumL, Nat.zero_add]
      rw [List.getElem?_append_left (by rw [zipK_len]; exact hq')]
      exact zipK_get ks _ q hq'
    | succ jj =>
      simp only [flatB, List.take_succ_cons, sumL]
      rw [List.getElem?_append_right (by rw [zipK_len]; omega), zipK_len]
      have := ih (j + 1) jj q (by simpa using hj) (by simpa using hq)
      rw [show ks.length + sumL (l.take jj) + q - ks.length = sumL (l.take jj) + q by omega, this, show j + 1 + jj = j + (jj + 1) by omega]
      rfl

theorem flatB_inv (m : Mem) (bm : List (Option (Nat × Nat))) : ∀ (l : List (List Kind)) (j n : Nat) (x : Kind × T), (flatB m bm l j)[n]? = some x → ∃ jj q, ∃ (hj : jj < l.length) (hq : q < l[jj].length), n = sumL (l.take jj) + q ∧ x = (l[jj][q], getT (cellsOf m bm (j + jj)) q) := by
  intro l; induction l with
  | nil => intro j n x h; simp [flatB] at h
  | cons ks l ih =>
    intro j n x h
    simp only [flatB] at h
    by_cases hn : n < ks.length
    · rw [List.getElem?_append_left (by rw [zipK_len]; exact hn), zipK_get _ _ _ hn] at h
      exact ⟨0, n, by simp, by simpa using hn, by simp [sumL], (Option.some.inj h).symm⟩
    · rw [List.getElem?_append_right (by rw [zipK_len]; omega), zipK_len] at h
      obtain ⟨jj, q, hj, hq, h1, h2⟩ := ih (j + 1) _ x h
      refine ⟨jj + 1, q, by simpa using hj, by simpa using hq, by simp only [List.take_succ_cons, sumL]; omega, ?_⟩
      rw [h2, show j + 1 + jj = j + (jj + 1) by omega]; rfl

theorem flat_tmp {m : Mem} {bm : List (Option (Nat × Nat))} {sh : Shape} {tm : List T} {q : Nat} (h : q < sh.tmps.length) : (flat m bm sh tm)[q]? = some (sh.tmps[q], getT tm q) := by
  unfold flat
  rw [List.getElem?_append_left (by rw [zipK_len]; exact h)]
  exact zipK_get _ _ _ h
theorem flat_box {m : Mem} {bm : List (Option (Nat × Nat))} {sh : Shape} {tm : List T} {jj q : Nat} (hj : jj < sh.boxes.length) (hq : q < sh.boxes[jj].length) :
    (flat m bm sh tm)[sh.tmps.length + sumL (sh.boxes.take jj) + q]? = some (sh.boxes[jj][q], getT (cellsOf m bm jj) q) := by
  unfold flat
  rw [List.getElem?_append_right (by rw [zipK_len]; omega), zipK_len, show sh.tmps.length + sumL (sh.boxes.take jj) + q - sh.tmps.length = sumL (sh.boxes.take jj) + q by omega]
  have := flatB_get m bm sh.boxes 0 jj q hj hq
  rw [Nat.zero_add] at this
  exact this
theorem flat_inv {m : Mem} {bm : List (Option (Nat × Nat))} {sh : Shape} {tm : List T} {n : Nat} {x : Kind × T} (h : (flat m bm sh tm)[n]? = some x) :
    (∃ hq : n < sh.tmps.length, x = (sh.tmps[n], getT tm n)) ∨ ∃ jj q, ∃ (hj : jj < sh.boxes.length) (hq : q < sh.boxes[jj].length), n = sh.tmps.length + sumL (sh.boxes.take jj) + q ∧ x = (sh.boxes[jj][q], getT (cellsOf m bm jj) q) := by
  unfold flat at h
  by_cases hn : n < sh.tmps.length
  · rw [List.getElem?_append_left (by rw [zipK_len]; exact hn), zipK_get _ _ _ hn] at h
    exact .inl ⟨hn, (Option.some.inj h).symm⟩
  · rw [List.getElem?_append_right (by rw [zipK_len]; omega), zipK_len] at h
    obtain ⟨jj, q, hj, hq, h1, h2⟩ := flatB_inv m bm sh.boxes 0 _ x h
    rw [Nat.zero_add] at h2
    exact .inr ⟨jj, q, hj, hq, by omega, h2⟩

/-- what scanning and gathering have shown -/
structure Seen (m : Mem) (sh : Shape) (tm : List T) (F : Found) : Prop where
  len : sh.tmps.length ≤ tm.length
  scan : ∀ (n : Nat) k v, (flat m F.bm sh tm)[n]? = some (k, v) → ScanS m.gr F k v
  uniq : ∀ (n1 n2 : Nat) k1 v1 k2 v2 q, (flat m F.bm sh tm)[n1]? = some (k1, v1) → (flat m F.bm sh tm)[n2]? = some (k2, v2) → OwnS k1 v1 q → OwnS k2 v2 q → n1 = n2
  box : ∀ j (hj : j < sh.boxes.length), ∃ i b, getM F.bm j = some (i, b) ∧ b + sh.boxes[j].length ≤ (getB m.boxes i).length
  apart : ∀ j1 j2 i b1 b2, getM F.bm j1 = some (i, b1) → getM F.bm j2 = some (i, b2) → j1 = j2
  right : ∀ k, k ∈ F.dats → k ∈ F.exs → False

theorem clash_spec {p : Nat × Nat} : ∀ {l : List (Option (Nat × Nat))}, clash p l = false → ∀ j i b, getM l j = some (i, b) → i ≠ p.1 := by
  intro l; induction l with
  | nil => intro _ j i b h; cases j <;> cases h
  | cons x l ih =>
    intro h j i b hj
    cases x with
    | none =>
      cases j with
      | zero => cases hj
      | succ j => exact ih h j i b hj
    | some q =>
      simp only [clash, Bool.or_eq_false_iff, beq_eq_false_iff_ne, ne_eq] at h
      cases j with
      | zero =>
        obtain rfl := Option.some.inj (show some q = some (i, b) from hj)
        exact fun he => h.1 he.symm
      | succ j => exact ih h.2 j i b hj

theorem apartM_spec : ∀ {l : List (Option (Nat × Nat))}, apartM l = true → ∀ j1 j2 i b1 b2, getM l j1 = some (i, b1) → getM l j2 = some (i, b2) → j1 = j2 := by
  intro l; induction l with
  | nil => intro _ j1 j2 i b1 b2 h; cases j1 <;> cases h
  | cons x l ih =>
    intro h j1 j2 i b1 b2 h1 h2
    have tail : apartM l = true := by
      cases x with
      | none => exact h
      | some p => simp only [apartM, Bool.and_eq_true] at h; exact h.2
    have head : ∀ p, x = some p → clash p l = false := by
      rintro p rfl
      simp only [apartM, Bool.and_eq_true, Bool.not_eq_true'] at h; exact h.1
    cases j1 with
    | zero =>
      cases j2 with
      | zero => rfl
      | succ j2 => exact absurd rfl (clash_spec (head _ h1) j2 i b2 h2)
    | succ j1 =>
      cases j2 with
      | zero => exact absurd rfl (clash_spec (head _ h2) j1 i b1 h1)
      | succ j2 => rw [ih tail j1 j2 i b1 b2 h1 h2]

theorem meets_spec {l : List Nat} : ∀ {m : List Nat}, meets l m = false → ∀ k, k ∈ l → k ∈ m → False := by
  intro m; induction m with
  | nil => intro _ k _ h; simp at h
  | cons x m ih =>
    intro h k h1 h2
    simp only [meets, Bool.or_eq_false_iff] at h
    rcases List.mem_cons.1 h2 with rfl | h2
    · have : k ∉ l := by simpa using h.1
      exact this h1
    · exact ih h.2 k h1 h2

theorem seen_of {bm : List (Option (Nat × Nat))} {m : Mem} {sh : Shape} {tm : List T} {F : Found} (h : scanW bm m sh tm = some F) : Seen m sh tm F ∧ FLe ⟨bm, [], [], []⟩ F := by
  unfold scanW at h
  split at h
  · rename_i F1 h1
    split at h
    · rename_i F2 h2
      split at h
      · rename_i hr
        obtain rfl := Option.some.inj h
        obtain ⟨a1, a2, a3, a4, a5⟩ := scans_ok _ _ h1
        obtain ⟨b1, b2, b3, b4⟩ := scanB_ok _ _ h2
        simp only [Found.right, Bool.and_eq_true, Bool.not_eq_true'] at hr
        have hcell : ∀ j i b, getM F2.bm j = some (i, b) → cellsOf m F2.bm j = (getB m.boxes i).drop b := fun j i b hb => by unfold cellsOf; rw [hb]
        have hbx : ∀ j (hj : j < sh.boxes.length), ∃ i b, getM F2.bm j = some (i, b) ∧ b + sh.boxes[j].length ≤ (getB m.boxes i).length ∧ ∀ q (hq : q < sh.boxes[j].length), ScanS m.gr F2 sh.boxes[j][q] (getT ((getB m.boxes i).drop b) q) := by
          intro j hj
          have := b2 j hj
          rw [Nat.zero_add] at this
          exact this
        refine ⟨⟨a2, fun n k v hn => ?_, fun n1 n2 k1 v1 k2 v2 q h1' h2' ho1 ho2 => ?_, fun j hj => ?_, apartM_spec hr.1, meets_spec hr.2⟩, a1.trans b1⟩
        · rcases flat_inv hn with ⟨hq, e⟩ | ⟨jj, q, hj, hq, e1, e2⟩
          · obtain ⟨rfl, rfl⟩ := Prod.mk.inj e
            exact scanS_mono b1 (a3 n hq)
          · obtain ⟨rfl, rfl⟩ := Prod.mk.inj e2
            obtain ⟨i, b, c1, _, c3⟩ := hbx jj hj
            rw [hcell _ _ _ c1]
            exact c3 q hq
        · rcases flat_inv h1' with ⟨hq1, e⟩ | ⟨j1, q1, hj1, hq1, e1, e⟩ <;> obtain ⟨rfl, rfl⟩ := Prod.mk.inj e
          · rcases flat_inv h2' with ⟨hq2, e⟩ | ⟨j2, q2, hj2, hq2, e2, e⟩ <;> obtain ⟨rfl, rfl⟩ := Prod.mk.inj e
            · exact a5 n1 n2 hq1 hq2 q ho1 ho2
            · obtain ⟨i, b, c1, _, _⟩ := hbx j2 hj2
              rw [hcell _ _ _ c1] at ho2
              exact absurd (a4 n1 hq1 q ho1).2 (b3 j2 hj2 i b (by rw [Nat.zero_add]; exact c1) q2 hq2 q ho2).1
          · obtain ⟨i1, b1', c1, _, _⟩ := hbx j1 hj1
            rw [hcell _ _ _ c1] at ho1
            rcases flat_inv h2' with ⟨hq2, e⟩ | ⟨j2, q2, hj2, hq2, e2, e⟩ <;> obtain ⟨rfl, rfl⟩ := Prod.mk.inj e
            · exact absurd (a4 n2 hq2 q ho2).2 (b3 j1 hj1 i1 b1' (by rw [Nat.zero_add]; exact c1) q1 hq1 q ho1).1
            · obtain ⟨i2, b2', c2, _, _⟩ := hbx j2 hj2
              rw [hcell _ _ _ c2] at ho2
              obtain ⟨rfl, rfl⟩ := b4 j1 j2 hj1 hj2 i1 b1' i2 b2' (by rw [Nat.zero_add]; exact c1) (by rw [Nat.zero_add]; exact c2) q1 q2 hq1 hq2 q ho1 ho2
              rw [e1, e2]
        · obtain ⟨i, b, c1, c2, _⟩ := hbx j hj
          exact ⟨i, b, c1, c2⟩
      · cases h
    · cases h
  · cases h

end Mini

/- What lives, packed and laid anew: the ghost. -/
namespace Mini
open Go

open Classical in
/-- whose a cell is, in the numbers of a shape -/
noncomputable def trOw (ow : OwF) (bx : Nat → Nat × Nat) (fl : List (Kind × T)) (F : Found) (sh : Shape) : OwF := fun b o => match ow b o with
  | .prot => .prot
  | .none => .none
  | .box i => if h : ∃ j base, getM F.bm j = some (i, base) ∧ ∃ hj : j < sh.boxes.length, (bx i).1 = b ∧ (bx i).2 + base ≤ o ∧ o < (bx i).2 + base + sh.boxes[j].length then .box h.choose else .none
  | .gr k => if h : ∃ (n : Nat) (k' : Kind) (v : T), fl[n]? = some (k', v) ∧ OwnS k' v k then .gr h.choose else .none

open Classical in
noncomputable def trGv (gv : Nat → Value) (fl : List (Kind × T)) : Nat → Value := fun n =>
  if h : ∃ (q : Nat) (k' : Kind) (v : T), fl[n]? = some (k', v) ∧ OwnS k' v q then gv h.choose else .slice none 0 0

def trBx (bx : Nat → Nat × Nat) (F : Found) : Nat → Nat × Nat := fun j => match getM F.bm j with
  | some (i, base) => ((bx i).1, (bx i).2 + base)
  | none => (0, 0)

noncomputable def trG (G : Gh) (m : Mem) (sh : Shape) (tl : List T) (F : Found) : Gh :=
  ⟨trOw G.ow G.bx (flat m F.bm sh tl) F sh, trBx G.bx F, trGv G.gv (flat m F.bm sh tl)⟩

section
variable {G : Gh} {m : Mem} {sh : Shape} {tl : List T} {F : Found}

theorem trOw_prot {b o : Nat} : (trG G m sh tl F).ow b o = .prot ↔ G.ow b o = .prot := by
  simp only [trG, trOw]
  cases G.ow b o with
  | prot => simp
  | none => simp
  | box i => simp only; split <;> simp
  | gr k => simp only; split <;> simp

theorem trOw_none {b o : Nat} (h : G.ow b o = .none) : (trG G m sh tl F).ow b o = .none := by
  simp only [trG, trOw, h]

theorem trOw_owned {b o : Nat} (h : ((trG G m sh tl F).ow b o).owned) : (G.ow b o).owned := by
  simp only [trG, trOw] at h
  cases hg : G.ow b o with
  | prot => rw [hg] at h; exact h
  | none => rw [hg] at h; exact h
  | box i => trivial
  | gr k => trivial

theorem trOw_gr (hs : Seen m sh tl F) {b o n q : Nat} {k : Kind} {v : T} (hg : G.ow b o = .gr q) (hn : (flat m F.bm sh tl)[n]? = some (k, v)) (ho : OwnS k v q) : (trG G m sh tl F).ow b o = .gr n := by
  simp only [trG, trOw, hg]
  have hex : ∃ (n : Nat) (k' : Kind) (v : T), (flat m F.bm sh tl)[n]? = some (k', v) ∧ OwnS k' v q := ⟨n, k, v, hn, ho⟩
  rw [dif_pos hex]
  obtain ⟨k', v', h1, h2⟩ := hex.choose_spec
  rw [hs.uniq _ _ _ _ _ _ _ h1 hn h2 ho]

theorem trGv_own {n q : Nat} {k : Kind} {v : T} (hn : (flat m F.bm sh tl)[n]? = some (k, v)) (ho : OwnS k v q) : (trG G m sh tl F).gv n = G.gv q := by
  simp only [trG, trGv]
  have hex : ∃ (q : Nat) (k' : Kind) (v : T), (flat m F.bm sh tl)[n]? = some (k', v) ∧ OwnS k' v q := ⟨q, k, v, hn, ho⟩
  rw [dif_pos hex]
  obtain ⟨k', v', h1, h2⟩ := hex.choose_spec
  rw [hn] at h1
  obtain ⟨rfl, rfl⟩ := Prod.mk.inj (Option.some.inj h1)
  have := ho.2.symm.trans h2.2
  injection this with this
  rw [← this]

theorem trGv_nil {n : Nat} {k : Kind} (hn : (flat m F.bm sh tl)[n]? = some (k, .nil)) : (trG G m sh tl F).gv n = .slice none 0 0 := by
  simp only [trG, trGv]
  rw [dif_neg]
  rintro ⟨q, k', v', h1, h2⟩
  rw [hn] at h1
  obtain ⟨rfl, rfl⟩ := Prod.mk.inj (Option.some.inj h1)
  cases h2.2

theorem trOw_boxE {ow : OwF} {bx : Nat → Nat × Nat} {fl : List (Kind × T)} {b o i : Nat} (hg : ow b o = .box i)
    (hex : ∃ j base, getM F.bm j = some (i, base) ∧ ∃ hj : j < sh.boxes.length, (bx i).1 = b ∧ (bx i).2 + base ≤ o ∧ o < (bx i).2 + base + sh.boxes[j].length) :
    ∃ j base, getM F.bm j = some (i, base) ∧ trOw ow bx fl F sh b o = .box j := by
  obtain ⟨base, h1, _⟩ := hex.choose_spec
  refine ⟨hex.choose, base, h1, ?_⟩
  unfold trOw
  rw [hg]
  exact dif_pos hex

theorem trOw_box (hs : Seen m sh tl F) {j i base q : Nat} (hb : getM F.bm j = some (i, base)) (hj : j < sh.boxes.length) (hq : q < sh.boxes[j].length) (hg : G.ow (G.bx i).1 ((G.bx i).2 + (base + q)) = .box i) :
    (trG G m sh tl F).ow ((trG G m sh tl F).bx j).1 (((trG G m sh tl F).bx j).2 + q) = .box j := by
  have e : (trG G m sh tl F).bx j = ((G.bx i).1, (G.bx i).2 + base) := by simp only [trG, trBx, hb]
  rw [e]
  simp only
  rw [Nat.add_assoc]
  obtain ⟨j', base', h1, h2⟩ := trOw_boxE (ow := G.ow) (bx := G.bx) (fl := flat m F.bm sh tl) (F := F) (sh := sh) hg ⟨j, base, hb, hj, rfl, by omega, by omega⟩
  rw [← hs.apart _ _ _ _ _ h1 hb]
  exact h2

theorem trKeeps {w : World} : Keeps w G.ow w (trG G m sh tl F).ow := fun b o ho => ⟨trOw_prot.2 ho, rfl⟩

end

section
variable {E : Env} {B : Base} {G : Gh} {m : Mem} {p : Nat → Prop} {w : World} {tm tl : List T} {a : Act} {sh : Shape} {F : Found}

/-- the entries that are handed on whole, without the right to write -/
def soft1 : Kind × T → Option Nat
  | (.o _ false, .own k) => some k
  | _ => none
def softs (fl : List (Kind × T)) : List Nat := fl.filterMap soft1
def shares (m : Mem) (sh : Shape) (tl : List T) (F : Found) : List Nat := F.dats ++ softs (flat m F.bm sh tl)

theorem soft1_some {x : Kind × T} {k : Nat} (h : soft1 x = some k) : ∃ t, x = (.o t false, .own k) := by
  obtain ⟨kd, v⟩ := x
  cases kd with
  | o t ex =>
    cases ex with
    | false =>
      cases v with
      | own q => obtain rfl := Option.some.inj (show some q = some k from h); exact ⟨t, rfl⟩
      | _ => cases h
    | true => cases h
  | _ => cases h

theorem softs_mem {fl : List (Kind × T)} {k : Nat} : k ∈ softs fl ↔ ∃ (n : Nat) (t : Ty), fl[n]? = some (.o t false, .own k) := by
  unfold softs
  rw [List.mem_filterMap]
  constructor
  · rintro ⟨x, hx, h⟩
    obtain ⟨t, rfl⟩ := soft1_some h
    obtain ⟨n, hn⟩ := List.getElem?_of_mem hx
    exact ⟨n, t, hn⟩
  · rintro ⟨n, t, hn⟩
    exact ⟨_, List.mem_of_getElem? hn, rfl⟩

def cOf : Ow → Nat → Ow
  | .prot, _ => .prot
  | _, n => .gr n

/-- an entry in its new place -/
theorem gr_laid (hs : Seen m sh tl F) (h : RelAll E B G (m.share (shares m sh tl F)) p w tm a) {n : Nat} {t : Ty} {ex : Bool} {v : T} {xs : List (El t)} (hn : (flat m F.bm sh tl)[n]? = some (.o t ex, v)) (hx : rdCell m.gr (.sl t) v = some xs) (hpo : ∀ k ∈ F.owns, p k) :
    GrOK (trG G m sh tl F) w n ⟨t, xs, if ex = true then .excl else .shared, 0⟩ := by
  have hk := trKeeps (G := G) (m := m) (sh := sh) (tl := tl) (F := F) (w := w)
  rcases hs.scan n _ _ hn with rfl | ⟨q, g, rfl, hg, hq, hd, hex⟩
  · obtain rfl := Option.some.inj (show some ([] : List (El t)) = some xs from hx)
    have hrow : ∀ c, GrRow (trG G m sh tl F) w n t [] c := fun c => ⟨none, 0, 0, trGv_nil hn, rfl, Nat.le_refl _, fun h => by omega⟩
    unfold GrOK
    split
    · trivial
    · exact hrow _
    · exact hrow _
  · have ho : OwnS (.o t ex) (.own q) q := ⟨⟨t, ex, rfl⟩, rfl⟩
    obtain ⟨gt, gx, md, ver⟩ := g
    simp only [rdCell, hg] at hx
    obtain ⟨he, rfl⟩ : ∃ he : gt = t, xs = he ▸ gx := by
      split at hx
      · exact absurd rfl hd
      · rename_i he _
        have het : gt = t := by injection he
        subst het
        exact ⟨rfl, (Option.some.inj hx).symm⟩
      · cases hx
    subst he
    have hsh : ∀ c, GrRow G w q gt gx c → (c = .prot ∨ c = .gr q) → GrRow (trG G m sh tl F) w n gt gx (cOf c n) := by
      rintro c ⟨ad, len, cap, e1, e2, e3, e4⟩ hc
      refine ⟨ad, len, cap, (trGv_own hn ho).trans e1, e2, e3, fun hcp => ?_⟩
      obtain ⟨b, o, e5, hrow, hsp⟩ := e4 hcp
      refine ⟨b, o, e5, row_mono (fun x l hl => rep_mono hk _ _ _ hl) (fun o' ho' => ⟨⟨?_, fun hx => ?_⟩, rfl⟩) hrow, fun z hz1 hz2 => ?_⟩
      · rcases hc with rfl | rfl
        · exact trOw_prot.2 ho'.1
        · exact trOw_gr hs ho'.1 hn ho
      · rcases hc with rfl | rfl
        · cases hx
        · exact ho'.2 rfl
      · obtain ⟨s1, s2, s3⟩ := hsp z hz1 hz2
        exact ⟨trOw_gr hs s1 hn ho, s2, s3⟩
    have hsg : lk (m.share (shares m sh tl F)).gr q = some (if q ∈ shares m sh tl F then shareG ⟨gt, gx, md, ver⟩ else ⟨gt, gx, md, ver⟩) := by
      simp only [Mem.share, lk_shareKs, hg, Option.map_some]
    have hok := h.inv.gr q _ (hpo q hq) hsg
    cases ex with
    | true =>
      obtain ⟨hmd, hexs⟩ := hex rfl
      have hmd : md = .excl := hmd
      subst hmd
      have hnot : q ∉ shares m sh tl F := by
        simp only [shares, List.mem_append, softs_mem]
        rintro (hm | ⟨n', t', hm⟩)
        · exact hs.right q hm hexs
        · have := hs.uniq _ _ _ _ _ _ _ hn hm ho ⟨⟨t', false, rfl⟩, rfl⟩
          subst this
          rw [hn] at hm
          have := (Prod.mk.inj (Option.some.inj hm)).1
          injection this with _ this
          cases this
      rw [if_neg hnot] at hok
      exact hsh _ hok (.inr rfl)
    | false =>
      have hin : q ∈ shares m sh tl F := by
        simp only [shares, List.mem_append, softs_mem]
        exact .inr ⟨n, gt, hn⟩
      rw [if_pos hin] at hok
      have hsd : GrRow G w q gt gx .prot := by
        cases md with
        | dead => exact absurd rfl hd
        | shared => exact hok
        | excl => exact hok
      exact hsh _ hsd (.inl rfl)

end
end Mini

/- What lives, packed and laid anew: the slots. -/
namespace Mini
open Go

section
variable {E : Env} {B : Base} {G : Gh} {m m2 : Mem} {p : Nat → Prop} {w : World} {tm tl : List T} {a : Act} {sh : Shape} {F : Found}

theorem getM_lt : ∀ (l : List (Option (Nat × Nat))) (j : Nat) (p : Nat × Nat), getM l j = some p → j < l.length := by
  intro l
  induction l with
  | nil => intro j p h; cases j <;> cases h
  | cons x l ih =>
    intro j p h
    cases j with
    | zero => simp
    | succ j =>
      have := ih j p h
      simpa using this

theorem caps_laid {m1 : Mem} (hbl : F.bm.length = sh.boxes.length) (hb : ∀ j, j < sh.boxes.length → ∃ cs, lk m2.boxes j = some cs) : ∀ (l l' : List (Nat × Nat)) (vs : List Value), Caps F.bm l l' → RelCaps G m1 p l' vs →
    RelCaps (trG G m sh tl F) m2 All l vs := by
  intro l
  induction l with
  | nil =>
    intro l' vs hc hr
    cases l' with
    | nil => cases vs with
      | nil => trivial
      | cons v vs => exact hr.elim
    | cons y l' => exact hc.elim
  | cons x l ih =>
    intro l' vs hc hr
    obtain ⟨j, off⟩ := x
    cases l' with
    | nil => exact hc.elim
    | cons y l' =>
      obtain ⟨i, o⟩ := y
      cases vs with
      | nil => exact hr.elim
      | cons v vs =>
        obtain ⟨⟨h1, h2⟩, hc⟩ := hc
        obtain ⟨⟨_, _, hv⟩, hr⟩ := hr
        refine ⟨⟨trivial, hb j ?_, ?_⟩, ih l' vs hc hr⟩
        · rw [← hbl]
          exact getM_lt _ _ _ h2
        · have e : (trG G m sh tl F).bx j = ((G.bx i).1, (G.bx i).2 + (o - off)) := by simp only [trG, trBx, h2]
          rw [e, hv]; simp only; congr 1; omega

theorem slot_laid (hs : Seen m sh tl F) (h : RelAll E B G (m.share (shares m sh tl F)) p w tm a) (hbl : F.bm.length = sh.boxes.length) (hb : ∀ j, j < sh.boxes.length → ∃ cs, lk m2.boxes j = some cs)
    {n : Nat} {k : Kind} {v u : T} {val : Value} (hn : (flat m F.bm sh tl)[n]? = some (k, v)) (hr : RelT G (m.share (shares m sh tl F)) p w v val) (hso : SlotOK m.gr k v n u m2.gr) :
    Rel1 (trG G m sh tl F) m2 All w u val := by
  have hsc := hs.scan n k v hn
  cases k with
  | u => obtain rfl : u = .unk := hso; trivial
  | a j off =>
    obtain rfl : u = .addr j off := hso
    obtain ⟨i, o, rfl, h1, h2⟩ := hsc
    obtain ⟨_, _, hv⟩ := hr
    have e : (trG G m sh tl F).bx j = ((G.bx i).1, (G.bx i).2 + (o - off)) := by simp only [trG, trBx, h2]
    refine ⟨trivial, hb j (by rw [← hbl]; exact getM_lt _ _ _ h2), ?_⟩
    rw [e, hv]; simp only; congr 1; omega
  | d t =>
    obtain ⟨x, hx, rfl⟩ := hso
    refine repV_mono trKeeps (rd_dat h hr hx fun q hq => ?_)
    cases v with
    | own q' =>
      simp only [ownsOf, List.mem_singleton] at hq
      subst hq
      exact List.mem_append_left _ (hsc q rfl)
    | _ => simp [ownsOf] at hq
  | o t ex =>
    obtain ⟨xs, hx, rfl, hg⟩ := hso
    refine ⟨trivial, _, hg, fun _ => ?_⟩
    rcases hsc with rfl | ⟨q, g, rfl, hgq, _, hd, _⟩
    · rw [trGv_nil hn]; exact hr
    · rw [trGv_own hn ⟨⟨t, ex, rfl⟩, rfl⟩]
      obtain ⟨_, g', hg', hv⟩ := hr
      refine hv ?_
      simp only [Mem.share, lk_shareKs, hgq, Option.map_some, Option.some.injEq] at hg'
      subst hg'
      split
      · obtain ⟨t, xs, md, ver⟩ := g
        cases md <;> simp [shareG] at hd ⊢
      · exact hd
  | c f l =>
    obtain rfl : u = .clo f l := hso
    obtain ⟨l', rfl, hc⟩ := hsc
    obtain ⟨cs, rfl, hcs⟩ := hr
    exact ⟨cs, rfl, caps_laid hbl hb l l' cs.toList hc hcs⟩

end
end Mini

/- What lives, packed and laid anew: the theorem. -/
namespace Mini
open Go

theorem lk_keyed : ∀ (l : List (List T)) (j k : Nat), lk (keyed l j) k = if j ≤ k then l[k - j]? else none := by
  intro l
  induction l with
  | nil => intro j k; simp [keyed, lk]
  | cons cs l ih =>
    intro j k
    simp only [keyed, lk_cons, ih]
    by_cases h : j = k
    · subst h; simp
    · rw [if_neg h]
      by_cases h2 : j ≤ k
      · rw [if_pos (by omega), if_pos h2]
        have : k - j = (k - (j + 1)) + 1 := by omega
        rw [this, List.getElem?_cons_succ]
      · rw [if_neg (by omega), if_neg h2]

section
variable {E : Env} {B : Base} {G : Gh} {m : Mem} {p : Nat → Prop} {w : World} {tm tl : List T} {a : Act} {sh : Shape} {F : Found}

theorem gather_some {y : El sh.ty} (h : gather m sh tl F = some y) : ∃ (y1 : EL (ktss sh.boxes [])) (y2 : EL (kts sh.tmps (ktss sh.boxes []))), pkB m F.bm sh.boxes 0 [] () = some y1 ∧ pks m.gr sh.tmps tl (ktss sh.boxes []) y1 = some y2 ∧ ofP sh.tys y = y2 := by
  unfold gather at h
  split at h
  · rename_i y1 h1
    split at h
    · rename_i y2 h2
      obtain rfl := Option.some.inj h
      exact ⟨y1, y2, h1, h2, ofP_toP _ _⟩
    · cases h
  · cases h

/-- what is known of slots and boxes laid anew -/
theorem lay_ok {y : El sh.ty} (κ : Nat) (g : List (Nat × Gr)) (h : gather m sh tl F = some y) :
    (lay sh y κ g).1.length = sh.tmps.length ∧ (lay sh y κ g).2.1.length = sh.boxes.length ∧
    (∀ q (hq : q < sh.tmps.length), SlotOK m.gr sh.tmps[q] (getT tl q) (κ + q) (getT (lay sh y κ g).1 q) (lay sh y κ g).2.2) ∧
    (∀ j (hj : j < sh.boxes.length) (hj' : j < (lay sh y κ g).2.1.length), BoxLaid m F.bm sh.boxes[j] j (κ + sh.tmps.length + sumL (sh.boxes.take j)) (lay sh y κ g).2.1[j] (lay sh y κ g).2.2) ∧
    (∀ k', (k' < κ ∨ κ + sh.tmps.length + sumL sh.boxes ≤ k') → lk (lay sh y κ g).2.2 k' = lk g k') ∧
    (∀ k', κ ≤ k' → k' < κ + sh.tmps.length + sumL sh.boxes → lk (lay sh y κ g).2.2 k' = lk g k' ∨ ∃ t ex v, (flat m F.bm sh tl)[k' - κ]? = some (.o t ex, v)) := by
  obtain ⟨y1, y2, h1, h2, h3⟩ := gather_some h
  obtain ⟨a1, a2, a3, a4, a5⟩ := uns_ok sh.tmps (ktss sh.boxes []) tl y1 y2 κ g h2
  have h1' : pkB m F.bm sh.boxes 0 [] () = some (uns sh.tmps (ktss sh.boxes []) y2 κ g).2.1 := by rw [a1]; exact h1
  obtain ⟨b1, b2, b3, b4, b5⟩ := unB_ok sh.boxes 0 [] () (uns sh.tmps (ktss sh.boxes []) y2 κ g).2.1 (κ + sh.tmps.length) (uns sh.tmps (ktss sh.boxes []) y2 κ g).2.2 h1'
  have hlay : lay sh y κ g = ((uns sh.tmps (ktss sh.boxes []) y2 κ g).1, (unB sh.boxes [] (uns sh.tmps (ktss sh.boxes []) y2 κ g).2.1 (κ + sh.tmps.length) (uns sh.tmps (ktss sh.boxes []) y2 κ g).2.2).1, (unB sh.boxes [] (uns sh.tmps (ktss sh.boxes []) y2 κ g).2.1 (κ + sh.tmps.length) (uns sh.tmps (ktss sh.boxes []) y2 κ g).2.2).2.2) := by
    unfold lay; rw [h3]
  rw [hlay]
  refine ⟨a2, b2, fun q hq => slotOK_mono (a3 q hq) (b4 _ (.inl (by omega))), fun j hj hj' => ?_, fun k' hk => ?_, fun k' hk1 hk2 => ?_⟩
  · have := b3 j hj hj'
    rw [Nat.zero_add] at this
    exact this
  · simp only
    rw [b4 k' (by omega)]
    exact a4 k' (by omega)
  · simp only
    by_cases hlt : k' < κ + sh.tmps.length
    · rw [b4 k' (.inl hlt)]
      obtain ⟨q, rfl⟩ : ∃ q, k' = κ + q := ⟨k' - κ, by omega⟩
      rcases a5 q (by omega) with e | ⟨t, ex, e⟩
      · exact .inl e
      · right
        refine ⟨t, ex, getT tl q, ?_⟩
        rw [show κ + q - κ = q by omega, flat_tmp (by omega), e]
    · rcases b5 k' (by omega) (by omega) with e | ⟨jj, q, t, ex, hj, hq, e1, e2⟩
      · exact .inl (e.trans (a4 k' (by omega)))
      · right
        refine ⟨t, ex, getT (cellsOf m F.bm jj) q, ?_⟩
        rw [show k' - κ = sh.tmps.length + sumL (sh.boxes.take jj) + q by omega, flat_box hj hq, e2]

end
end Mini

/- What lives, packed and laid anew: the invariant. -/
namespace Mini
open Go

section
variable {E : Env} {B : Base} {G : Gh} {m : Mem} {p : Nat → Prop} {w : World} {tm tl : List T} {a : Act} {sh : Shape} {F : Found}

theorem getB_some {boxes : List (Nat × List T)} {i b n q : Nat} (h : b + n ≤ (getB boxes i).length) (hq : q < n) : ∃ cs, lk boxes i = some cs ∧ getB boxes i = cs := by
  unfold getB at h ⊢
  cases hl : lk boxes i with
  | none => rw [hl] at h; simp at h; omega
  | some cs => exact ⟨cs, rfl, rfl⟩

/-- what lives, laid anew -/
theorem laid_ok {vals : Nat → Value} {y : El sh.ty} (hs : Seen m sh tl F) (hbl : F.bm.length = sh.boxes.length) (h : RelAll E B G (m.share (shares m sh tl F)) p w tm a) (hg : gather m sh tl F = some y)
    (hr : ∀ q, q < sh.tmps.length → RelT G (m.share (shares m sh tl F)) p w (getT tl q) (vals q)) (hpo : ∀ k ∈ F.owns, p k) (hpb : sh.boxes = [] ∨ ∀ k, p k) :
    InvM (trG G m sh tl F) (unpack sh y).m All w ∧ (unpack sh y).tm.length = sh.tmps.length ∧
    (∀ q, q < sh.tmps.length → Rel1 (trG G m sh tl F) (unpack sh y).m All w (getT (unpack sh y).tm q) (vals q)) ∧
    (∀ j (hj : j < sh.boxes.length), ∃ cs, lk (unpack sh y).m.boxes j = some cs ∧ cs.length = sh.boxes[j].length) := by
  obtain ⟨l1, l2, l3, l4, l5, l6⟩ := lay_ok 0 [] hg
  have hbox : ∀ j (hj : j < sh.boxes.length), ∃ cs, lk (unpack sh y).m.boxes j = some cs ∧ BoxLaid m F.bm sh.boxes[j] j (0 + sh.tmps.length + sumL (sh.boxes.take j)) cs (unpack sh y).m.gr := by
    intro j hj
    have hj' : j < (lay sh y 0 []).2.1.length := by rw [l2]; exact hj
    refine ⟨(lay sh y 0 []).2.1[j], ?_, l4 j hj hj'⟩
    show lk (keyed (lay sh y 0 []).2.1 0) j = _
    rw [lk_keyed, if_pos (Nat.zero_le _), Nat.sub_zero, List.getElem?_eq_getElem hj']
  have hb : ∀ j, j < sh.boxes.length → ∃ cs, lk (unpack sh y).m.boxes j = some cs := fun j hj => by
    obtain ⟨cs, h1, _⟩ := hbox j hj
    exact ⟨cs, h1⟩
  refine ⟨⟨fun j cs _ hc => ?_, fun n g _ hgn => ?_, fun b o ho => ?_⟩, l1, fun q hq => ?_, fun j hj => ?_⟩
  · have hj : j < sh.boxes.length := by
      have hc : lk (keyed (lay sh y 0 []).2.1 0) j = some cs := hc
      rw [lk_keyed, if_pos (Nat.zero_le _), Nat.sub_zero] at hc
      rw [← l2]; exact (List.getElem?_eq_some_iff.1 hc).1
    obtain ⟨cs', h1, i, b, hm, hl, hq⟩ := hbox j hj
    rw [hc] at h1
    obtain rfl := Option.some.inj h1
    obtain ⟨i', b', hm', hlen⟩ := hs.box j hj
    rw [hm] at hm'
    obtain ⟨rfl, rfl⟩ := Prod.mk.inj (Option.some.inj hm')
    intro q hqc
    rw [hl] at hqc
    obtain ⟨cs0, hcs0, hget⟩ := getB_some hlen hqc
    have hp : p i := by
      rcases hpb with he | hp
      · rw [he] at hj; simp at hj
      · exact hp i
    rw [hget] at hlen
    obtain ⟨o1, o2, v, o3, o4, o5⟩ := h.inv.box i cs0 hp hcs0 (b + q) (by omega)
    have hcell : getT (cellsOf m F.bm j) q = getT cs0 (b + q) := by
      unfold cellsOf; rw [hm]; simp only [hget, getT_drop]
    have hfl : (flat m F.bm sh tl)[sh.tmps.length + sumL (sh.boxes.take j) + q]? = some (sh.boxes[j][q], getT cs0 (b + q)) := by rw [flat_box hj hqc, hcell]
    have hso := hq q hqc
    rw [hget, getT_drop, Nat.zero_add] at hso
    have hbx : (trG G m sh tl F).bx j = ((G.bx i).1, (G.bx i).2 + b) := by simp only [trG, trBx, hm]
    refine ⟨trOw_box hs hm hj hqc o1, ?_, v, ?_, o4, slot_laid hs h hbl hb hfl (relT_of1 o5) hso⟩
    · rw [hbx]; simp only; rw [Nat.add_assoc]; exact o2
    · rw [hbx]; simp only; rw [Nat.add_assoc]; exact o3
  · by_cases hn : n < 0 + sh.tmps.length + sumL sh.boxes
    · rcases l6 n (Nat.zero_le _) hn with e | ⟨t, ex, v, hfl⟩
      · have hgn : lk (lay sh y 0 []).2.2 n = some g := hgn
        rw [e] at hgn; cases hgn
      · rw [Nat.sub_zero] at hfl
        have : ∃ u, SlotOK m.gr (.o t ex) v n u (unpack sh y).m.gr := by
          rcases flat_inv hfl with ⟨hq, e⟩ | ⟨jj, q, hj, hq, e1, e2⟩
          · obtain ⟨e1, rfl⟩ := Prod.mk.inj e
            have := l3 n hq
            rw [← e1, Nat.zero_add] at this
            exact ⟨_, this⟩
          · obtain ⟨e3, rfl⟩ := Prod.mk.inj e2
            obtain ⟨cs, _, i, b, hm, _, hqq⟩ := hbox jj hj
            have := hqq q hq
            rw [← e3, Nat.zero_add, ← e1] at this
            have hcell : cellsOf m F.bm jj = (getB m.boxes i).drop b := by unfold cellsOf; rw [hm]
            rw [hcell]
            exact ⟨_, this⟩
        obtain ⟨u, xs, hx, _, hl⟩ := this
        have hgn : lk (unpack sh y).m.gr n = some g := hgn
        rw [hl] at hgn
        obtain rfl := Option.some.inj hgn
        exact gr_laid hs h hfl hx hpo
    · have hgn : lk (lay sh y 0 []).2.2 n = some g := hgn
      rw [l5 n (.inr (by omega))] at hgn; cases hgn
  · refine h.inv.lt b o fun hn => ho (trOw_none hn)
  · have := l3 q hq
    rw [Nat.zero_add] at this
    exact slot_laid hs h hbl hb (flat_tmp hq) (hr q hq) this
  · obtain ⟨cs, h1, i, b, _, h2, _⟩ := hbox j hj
    exact ⟨cs, h1, h2⟩

end
end Mini

/- At a cut: what lives, laid anew, says no less. -/
namespace Mini
open Go

theorem noneN_len : ∀ n, (noneN n).length = n := by
  intro n; induction n with
  | zero => rfl
  | succ n ih => simp [noneN, ih]
theorem sameN_len : ∀ n j, (sameN n j).length = n := by
  intro n; induction n with
  | zero => intro j; rfl
  | succ n ih => intro j; simp [sameN, ih]
theorem sameN_get : ∀ (n j : Nat) (l : List (Option (Nat × Nat))) (i : Nat), i < n → getM (sameN n j ++ l) i = some (j + i, 0) := by
  intro n; induction n with
  | zero => intro j l i h; omega
  | succ n ih =>
    intro j l i h
    cases i with
    | zero => rfl
    | succ i =>
      have := ih (j + 1) l i (by omega)
      show getM (sameN n (j + 1) ++ l) i = _
      rw [this, show j + 1 + i = j + (i + 1) by omega]

theorem padN_get : ∀ (n i : Nat), getT (padN n) i = .unk := by
  intro n; induction n with
  | zero => intro i; rfl
  | succ n ih => intro i; cases i with
    | zero => rfl
    | succ i => exact ih i
theorem padN_len : ∀ n, (padN n).length = n := by
  intro n; induction n with
  | zero => rfl
  | succ n ih => simp [padN, ih]

section
variable {E : Env} {B : Base}

theorem pack_some {n0 : Nat} {m : Mem} {sh : Shape} {tm : List T} {y : El sh.ty} (h : pack n0 m sh tm = some y) : ∃ F, scan n0 m sh tm = some F ∧ gather m sh tm F = some y := by
  unfold pack at h
  split at h
  · rename_i F hF; exact ⟨F, hF, h⟩
  · cases h

theorem pre_le {sh : Shape} (h : Pre B sh) : B.n ≤ sh.boxes.length := by
  rcases Nat.eq_zero_or_pos B.n with h0 | h0
  · omega
  · obtain ⟨ks, h1, _⟩ := h (B.n - 1) (by omega)
    have := (List.getElem?_eq_some_iff.1 h1).1
    omega

theorem scan_bm {n0 : Nat} {m : Mem} {sh : Shape} {tm : List T} {F : Found} (hle : n0 ≤ sh.boxes.length) (h : scan n0 m sh tm = some F) :
    Seen m sh tm F ∧ F.bm.length = sh.boxes.length ∧ ∀ j, j < n0 → getM F.bm j = some (j, 0) := by
  obtain ⟨hs, hf⟩ := seen_of h
  refine ⟨hs, ?_, fun j hj => ?_⟩
  · rw [hf.len]; simp only [List.length_append, sameN_len, noneN_len]; omega
  · have := hf.bm j (0 + j, 0) (sameN_get n0 0 _ j hj)
    rwa [Nat.zero_add] at this

theorem frame_tr {G : Gh} {m : Mem} {sh : Shape} {tl : List T} {F : Found} {w : World} (h : Frame B.w B.ow G.ow w) : Frame B.w B.ow (trG G m sh tl F).ow w :=
  ⟨h.os, h.tape, h.output, h.size, h.cell, h.block, fun b o hb ho => h.own b o hb (trOw_owned ho), fun b o ho => trOw_prot.2 (h.prot b o ho), fun b o hb ho => trOw_none (h.non b o hb ho)⟩

theorem packOK : PackOK E B := by
  intro G m w tm a sh y h hn hpre hp
  obtain ⟨F, hF, hg⟩ := pack_some hp
  have hle := pre_le hpre
  obtain ⟨hs, hbl, hbm⟩ := scan_bm hle hF
  obtain ⟨G1, h1, _, _, _⟩ := share_all (shares m sh tm F) h (fun _ _ => trivial)
  have hr : ∀ q, q < sh.tmps.length → RelT G1 (m.share (shares m sh tm F)) All w (getT tm q) (a.tmps.getD q undef) := by
    intro q hq
    have hlen := hs.len
    have := h1.tms.rel q (by omega)
    cases ht : getT tm q with
    | cnd s b u => exact absurd ht (hn q s b u)
    | _ => rw [ht] at this; exact this
  obtain ⟨i1, i2, i3, i4⟩ := laid_ok hs hbl h1 hg hr (fun _ _ => trivial) (.inr fun _ => trivial)
  have hget : ∀ i, getT ((unpack sh y).tm ++ padN (B.N - sh.tmps.length)) i = if i < sh.tmps.length then getT (unpack sh y).tm i else .unk := by
    intro i
    rw [getT_append, i2]
    split
    · rfl
    · exact padN_get _ _
  have hlen : ((unpack sh y).tm ++ padN (B.N - sh.tmps.length)).length = B.N := by
    rw [List.length_append, i2, padN_len]
    have := hs.len; have := h.sz; omega
  refine ⟨trG G1 m sh tm F, ⟨⟨?_, fun i hi => ?_⟩, i1, frame_tr h1.fr, glob_mono trKeeps h1.glob, h1.defers, fun j hj => ?_, hlen⟩, fun t s b u hc => ?_⟩
  · rw [hlen, ← h.sz]; exact h.tms.size
  · rw [hget]
    split
    · rename_i hq; exact relC_ofT (relT_of1 (i3 i hq))
    · trivial
  · obtain ⟨ks, e1, e2⟩ := hpre j hj
    obtain ⟨hjl, e3⟩ := List.getElem?_eq_some_iff.1 e1
    obtain ⟨cs, c1, c2⟩ := i4 j hjl
    obtain ⟨_, b2, _⟩ := h1.bx j hj
    refine ⟨trivial, ?_, cs, c1, by rw [c2, e3, e2]⟩
    rw [← b2]
    simp only [trG, trBx, hbm j hj, Nat.add_zero]
  · rw [hget] at hc
    split at hc
    · rename_i hq
      have := i3 t hq
      rw [hc] at this; exact this
    · cases hc

end
end Mini

/- The results of a function. -/
namespace Mini
open Go

section
variable {E : Env} {B : Base}

/-- what an operation that yields a value yields -/
theorem wp_value {o : Oper} {a : Act} {w : World} {s : Sem Value} {next : Act → World → Prop} (hv : execOp a.eval o = (do pure (.value (← s)))) (h : o.wp E.P a w next (fun _ _ _ => False)) :
    ∃ v w', s.run E.P w = .ok v w' ∧ next (a.put o.dst v) w' := by
  unfold Oper.wp at h
  rw [hv] at h
  rw [Sem.run_bind] at h
  cases hr : s.run E.P w with
  | ok v w' =>
    rw [hr] at h
    exact ⟨v, w', rfl, h⟩
  | halt x w' =>
    rw [hr] at h
    cases x <;> exact h.elim

/-- words that read alone -/
def Reads {α : Type} (P : Program) (s : Sem α) : Prop := ∀ w x w', s.run P w = .ok x w' → w' = w

theorem reads_pure {α : Type} {P : Program} (x : α) : Reads P (pure x : Sem α) := by
  intro w y w' h
  have h : Result.ok x w = .ok y w' := h
  injection h with _ h
  exact h.symm
theorem reads_bind {α β : Type} {P : Program} {s : Sem α} {f : α → Sem β} (h : Reads P s) (hf : ∀ x, Reads P (f x)) : Reads P (s >>= f) := by
  intro w y w' hr
  rw [Sem.run_bind] at hr
  cases hs : s.run P w with
  | ok x w1 =>
    rw [hs] at hr
    have := h w x w1 hs
    subst this
    exact hf x _ y w' hr
  | halt x w1 => rw [hs] at hr; cases hr
theorem reads_program {P : Program} : Reads P program := by
  intro w x w' h
  have h : Result.ok P w = .ok x w' := h
  injection h with _ h
  exact h.symm
theorem reads_halt {α : Type} {P : Program} (x : Halt) : Reads P (.halt x : Sem α) := by
  intro w y w' h
  cases h

theorem reads_load {P : Program} (b o : Nat) : Reads P (load ⟨b, o, none⟩) := by
  intro w v w' h
  simp only [load, Sem.run] at h
  split at h
  · injection h with _ h; exact h.symm
  · split at h
    · injection h with _ h; exact h.symm
    · cases h
theorem reads_underlying {P : Program} (t : TypeId) : Reads P (underlying t) := by
  unfold underlying
  refine reads_bind reads_program fun p => ?_
  split
  · exact reads_pure _
  · exact reads_halt _
theorem reads_sizeOf {P : Program} (t : TypeId) : Reads P (Go.sizeOf t) := by
  unfold Go.sizeOf typeInfo
  refine reads_bind (reads_bind reads_program fun p => ?_) fun _ => reads_pure _
  split
  · exact reads_pure _
  · exact reads_halt _
theorem reads_isAgg {P : Program} (t : TypeId) : Reads P (isAgg t) := by
  unfold isAgg
  refine reads_bind (reads_underlying t) fun d => ?_
  split <;> exact reads_pure _
theorem reads_cells {P : Program} (b o : Nat) : ∀ (n i : Nat) (acc : Array Value), Reads P (loadCellsFrom ⟨b, o, none⟩ i n acc) := by
  intro n
  induction n with
  | zero => intro i acc; exact reads_pure _
  | succ n ih =>
    intro i acc
    unfold loadCellsFrom
    rw [addr_add]
    exact reads_bind (reads_load _ _) fun v => ih _ _
theorem reads_loadVar {P : Program} (t : TypeId) (b o : Nat) : Reads P (loadVar t ⟨b, o, none⟩) := by
  unfold loadVar
  refine reads_bind (reads_isAgg t) fun ag => ?_
  split
  · exact reads_bind (reads_sizeOf t) fun n => reads_bind (reads_cells _ _ _ _ _) fun _ => reads_pure _
  · exact reads_load _ _

/-- a load that leaves all as it was -/
theorem load_run (hE : EnvOK E) {G : Gh} {m : Mem} {w : World} {tm : List T} {a : Act} {t : TypeId} {x : Nat} {ks : List Nat} {v : T} (h : RelAll E B G m All w tm a) (hn : NoC tm) (hx : x < tm.length)
    (hl : loadT E m t (getT tm x) = .val ks v) : ∃ G' val w', RelAll E B G' (m.share ks) All w' tm a ∧ (Instr.loadAt t (a.tmps.getD x undef)).run E.P w = .ok val w' ∧ RelT G' (m.share ks) All w' v val := by
  let o : Oper := { (default : Oper) with dst := some x, op := .load t (.tmp x) }
  have hr : RelT G m All w (getT tm x) (a.eval (.tmp x)) := by
    have := h.tms.rel x hx
    cases hg : getT tm x with
    | cnd s b u => exact absurd hg (hn x s b u)
    | _ => rw [hg] at this; exact this
  have hok := load_ok (κ := 0) hE h (o := o) rfl hr
  rw [hl] at hok
  have hget : ∀ v, (a.put (some x) v).tmps.getD x undef = v := fun v => by
    simp only [Act.put]
    rw [getD_set _ _ _ _ (by rw [← h.tms.size]; exact hx), if_pos rfl]
  have hw := hok v _ All ⟨rfl, rfl, rfl⟩ (fun a' w' => ∃ G', RelAll E B G' (m.share ks) All w' tm a ∧ RelT G' (m.share ks) All w' v (a'.tmps.getD x undef)) (fun _ _ _ => False) (fun v' w' G' h1 h2 => ⟨G', h1, by
    show RelT G' _ All w' v ((a.put (some x) v').tmps.getD x undef)
    rw [hget]; exact h2⟩)
  obtain ⟨val, w', h1, G', h2, h3⟩ := wp_value (o := o) (s := Instr.loadAt t (a.eval (.tmp x))) rfl hw
  refine ⟨G', val, w', h2, h1, ?_⟩
  have h3 : RelT G' (m.share ks) All w' v ((a.put (some x) val).tmps.getD x undef) := h3
  rw [hget] at h3
  exact h3

theorem load_ptr {G : Gh} {m : Mem} {w : World} {t : TypeId} {u v : T} {ks : List Nat} {val : Value} (hr : RelT G m All w u val) (hl : loadT E m t u = .val ks v) : ∃ b o, val = ptr b o := by
  cases u with
  | addr i off => obtain ⟨_, _, e⟩ := hr; exact ⟨_, _, e⟩
  | rptr t y => obtain ⟨b, o, e, _⟩ := hr; exact ⟨b, o, e⟩
  | aptr i off n u ix => obtain ⟨_, _, _, _, e⟩ := hr; exact ⟨_, _, e⟩
  | eptr k ver i off t y =>
    obtain ⟨_, g, hg, hv⟩ := hr
    simp only [loadT, hg] at hl
    split at hl
    · rename_i g' u' hge hty
      obtain rfl := Option.some.inj hge
      split at hl
      · split at hl
        · cases hl
        · rename_i hd
          obtain ⟨b, o, _, _, _, _, _, e, _⟩ := hv hd
          exact ⟨_, _, e⟩
        · cases hl
      · cases hl
    · cases hl
  | _ => simp [loadT] at hl

/-- the same, as the results of a function are read -/
theorem load_res (hE : EnvOK E) {G : Gh} {m : Mem} {w : World} {tm : List T} {a : Act} {t : TypeId} {x : Nat} {ks : List Nat} {v : T} (h : RelAll E B G m All w tm a) (hn : NoC tm)
    (hl : loadT E m t (getT tm x) = .val ks v) : ∃ G' val, RelAll E B G' (m.share ks) All w tm a ∧ (do loadVar t (← asAddr (a.tmps.getD x undef)) : Sem Value).run E.P w = .ok val w ∧ RelT G' (m.share ks) All w v val := by
  have hx : x < tm.length := slot_lt (by intro e; rw [e] at hl; simp [loadT] at hl)
  have hr : RelT G m All w (getT tm x) (a.tmps.getD x undef) := by
    have := h.tms.rel x hx
    cases hg : getT tm x with
    | cnd s b u => exact absurd hg (hn x s b u)
    | _ => rw [hg] at this; exact this
  obtain ⟨b, o, e⟩ := load_ptr (E := E) hr hl
  obtain ⟨G', val, w', h1, h2, h3⟩ := load_run hE h hn hx hl
  rw [e] at h2 ⊢
  unfold Instr.loadAt at h2
  rw [run_bindM (show (Instr.sureAddr (ptr b o)).run E.P w = .ok ⟨b, o, none⟩ w from rfl)] at h2
  have := reads_loadVar _ _ _ _ _ _ h2
  subst this
  refine ⟨G', val, h1, ?_, h3⟩
  rw [run_bindM (show (asAddr (ptr b o)).run E.P w' = .ok ⟨b, o, none⟩ w' from rfl)]
  exact h2

end
end Mini

/- The results of a function, all of them. -/
namespace Mini
open Go

def Base.more (B : Base) : Base := { B with N := B.N + 1 }
def Act.more (a : Act) (v : Value) : Act := { a with tmps := a.tmps.push v }

def resOf (tmps : Array Value) : ResultVar → Sem Value
  | .tmp t => pure (tmps.getD t undef)
  | .cell a t => do loadVar t (← asAddr (tmps.getD a undef))

theorem noC_app {tm us : List T} (h : NoC tm) (h' : NoC us) : NoC (tm ++ us) := fun t s b u hc => by
  rw [getT_append] at hc
  split at hc
  · exact h t s b u hc
  · exact h' _ s b u hc

theorem noC_one {u : T} (h : notC u = true) : NoC [u] := fun t s b q hc => by
  cases t with
  | zero => rw [show getT [u] 0 = u from rfl] at hc; subst hc; cases h
  | succ t => cases hc

section
variable {E : Env} {B : Base}

theorem rel_more {G : Gh} {m : Mem} {p : Nat → Prop} {w : World} {tm : List T} {a : Act} {u : T} {v : Value} (h : RelAll E B G m p w tm a) (hn : NoC tm) (hr : RelT G m p w u v) :
    RelAll E B.more G m p w (tm ++ [u]) (Act.more a v) := by
  refine ⟨⟨by simp [Act.more, h.tms.size], fun i hi => ?_⟩, h.inv, h.fr, h.glob, h.defers, h.bx, by simp [Base.more, h.sz]⟩
  rw [getT_append]
  by_cases hlt : i < tm.length
  · rw [if_pos hlt]
    have := h.tms.rel i hlt
    have e : (Act.more a v).tmps.getD i undef = a.tmps.getD i undef := by
      simp only [Act.more, Array.getD_eq_getD_getElem?]
      rw [Array.getElem?_push_lt (by rw [← h.tms.size]; exact hlt), Array.getElem?_eq_getElem (by rw [← h.tms.size]; exact hlt)]
    rw [e]
    cases hg : getT tm i with
    | cnd s b q => exact absurd hg (hn i s b q)
    | _ => rw [hg] at this; exact this
  · have : i = tm.length := by simp at hi; omega
    subst this
    rw [if_neg hlt, Nat.sub_self]
    have e : (Act.more a v).tmps.getD tm.length undef = v := by
      simp only [Act.more, Array.getD_eq_getD_getElem?, h.tms.size]
      simp
    rw [e]
    exact relC_ofT hr

theorem slot_rel {G : Gh} {m : Mem} {p : Nat → Prop} {w : World} {tm : List T} {a : Act} (h : RelAll E B G m p w tm a) (hn : NoC tm) {t : Nat} (ht : t < tm.length) : RelT G m p w (getT tm t) (a.tmps.getD t undef) := by
  have := h.tms.rel t ht
  cases hg : getT tm t with
  | cnd s b u => exact absurd hg (hn t s b u)
  | _ => rw [hg] at this; exact this

/-- results, with what they are in the end -/
theorem res_list (hE : EnvOK E) {w : World} {tm : List T} {tmps : Array Value} (hsz : tm.length = tmps.size) : ∀ (l : List ResultVar) (B : Base) (G : Gh) (m : Mem) (us : List T) (m' : Mem) (ex : List T) (a : Act), NoC (tm ++ ex) →
    (∀ i, i < tm.length → a.tmps.getD i undef = tmps.getD i undef) → RelAll E B G m All w (tm ++ ex) a → resTs.go E tm l m = some (us, m') →
    ∃ N G' vs a', RelAll E { B with N := N } G' m' All w (tm ++ ex ++ us) a' ∧ NoC (tm ++ ex ++ us) ∧ (l.mapM (resOf tmps)).run E.P w = .ok vs w ∧ us.length = vs.length ∧
      (∀ i, i < tm.length + ex.length → a'.tmps.getD i undef = a.tmps.getD i undef) ∧ ∀ i, i < us.length → a'.tmps.getD (tm.length + ex.length + i) undef = vs.getD i undef := by
  intro l
  induction l with
  | nil =>
    intro B G m us m' ex a hn ha h he
    obtain ⟨rfl, rfl⟩ := Prod.mk.inj (Option.some.inj (show some (([] : List T), m) = some (us, m') from he))
    exact ⟨B.N, G, [], a, by simpa using h, by simpa using hn, rfl, rfl, fun _ _ => rfl, fun i hi => by simp at hi⟩
  | cons r l ih =>
    intro B G m us m' ex a hn ha h he
    have hasz : a.tmps.size = tm.length + ex.length := by rw [← h.tms.size]; simp
    -- one more slot
    have step : ∀ (G1 : Gh) (m1 : Mem) (u : T) (val : Value) (us1 : List T), RelAll E B G1 m1 All w (tm ++ ex) a → RelT G1 m1 All w u val → (resOf tmps r).run E.P w = .ok val w → us = u :: us1 → resTs.go E tm l m1 = some (us1, m') →
        ∃ N G' vs a', RelAll E { B with N := N } G' m' All w (tm ++ ex ++ us) a' ∧ NoC (tm ++ ex ++ us) ∧ ((r :: l).mapM (resOf tmps)).run E.P w = .ok vs w ∧ us.length = vs.length ∧
          (∀ i, i < tm.length + ex.length → a'.tmps.getD i undef = a.tmps.getD i undef) ∧ ∀ i, i < us.length → a'.tmps.getD (tm.length + ex.length + i) undef = vs.getD i undef := by
      rintro G1 m1 u val us1 h1 hr hrun rfl hgo
      have h2 := rel_more h1 hn hr
      have hn2 := noC_app hn (noC_one (relT_notC hr))
      have hold : ∀ i, i < tm.length + ex.length → (Act.more a val).tmps.getD i undef = a.tmps.getD i undef := fun i hi => by
        simp only [Act.more, Array.getD_eq_getD_getElem?]
        rw [Array.getElem?_push_lt (by rw [hasz]; exact hi), Array.getElem?_eq_getElem (by rw [hasz]; exact hi)]
      have hnew : (Act.more a val).tmps.getD (tm.length + ex.length) undef = val := by
        simp only [Act.more, Array.getD_eq_getD_getElem?, ← hasz]; simp
      rw [List.append_assoc] at h2 hn2
      obtain ⟨N, G', vs, a', i1, i2, i3, i4, i5, i6⟩ := ih B.more G1 m1 us1 m' (ex ++ [u]) (Act.more a val) hn2 (fun i hi => by rw [hold i (by omega)]; exact ha i hi) h2 hgo
      refine ⟨N, G', val :: vs, a', by simpa [Base.more] using i1, by simpa using i2, ?_, by simp [i4], fun i hi => ?_, fun i hi => ?_⟩
      · rw [List.mapM_cons, run_bindM hrun, run_bindM i3]; rfl
      · rw [i5 i (by simp; omega)]; exact hold i hi
      · cases i with
        | zero => rw [Nat.add_zero, i5 _ (by simp), hnew]; rfl
        | succ i =>
          have := i6 i (by simpa using hi)
          rw [List.length_append, List.length_singleton] at this
          rw [show tm.length + ex.length + (i + 1) = tm.length + (ex.length + 1) + i by omega, this]; rfl
    cases r with
    | tmp t =>
      simp only [resTs.go] at he
      split at he
      · rename_i r hr
        obtain ⟨us1, m1⟩ := r
        obtain ⟨rfl, rfl⟩ := Prod.mk.inj (Option.some.inj he)
        refine step G m (getT tm t) (tmps.getD t undef) us1 h ?_ rfl rfl hr
        by_cases ht : t < tm.length
        · have := slot_rel h hn (t := t) (Nat.lt_of_lt_of_le ht (by simp))
          rw [getT_append, if_pos ht, ha t ht] at this
          exact this
        · rw [getT_ge tm t (Nat.le_of_not_lt ht)]; trivial
      · cases he
    | cell x t =>
      simp only [resTs.go] at he
      split at he
      · rename_i ks v hl
        split at he
        · rename_i r hr
          obtain ⟨us1, m1⟩ := r
          obtain ⟨rfl, rfl⟩ := Prod.mk.inj (Option.some.inj he)
          have hx : x < tm.length := slot_lt (by intro e; rw [e] at hl; simp [loadT] at hl)
          have hl' : loadT E m t (getT (tm ++ ex) x) = .val ks v := by rw [getT_append, if_pos hx]; exact hl
          obtain ⟨G1, val, j1, j2, j3⟩ := load_res hE h hn hl'
          rw [ha x hx] at j2
          exact step G1 (m.share ks) v val us1 j1 j3 j2 rfl hr
        · cases he
      · cases he

end
end Mini

/- Laying at other keys; boxes behind a call. -/
namespace Mini
open Go

/-- the same slot of two layings -/
def SameS (k : Kind) (u u' : T) (n n' : Nat) : Prop :=
  match k with
  | .u => u = .unk ∧ u' = .unk
  | .a j o => u = .addr j o ∧ u' = .addr j o
  | .d t => ∃ x, u = .dat t x ∧ u' = .dat t x
  | .o _ _ => u = .own n ∧ u' = .own n'
  | .c f l => u = .clo f l ∧ u' = .clo f l

theorem un1_shift (k : Kind) (acc : List Ty) (x : EL (kt1 k acc)) (κ κ' : Nat) (g g' : List (Nat × Gr)) :
    (un1 k acc x κ g).2.1 = (un1 k acc x κ' g').2.1 ∧ SameS k (un1 k acc x κ g).1 (un1 k acc x κ' g').1 κ κ' ∧ (∀ n, n ≠ κ → lk (un1 k acc x κ g).2.2 n = lk g n) ∧ (∀ n, n ≠ κ' → lk (un1 k acc x κ' g').2.2 n = lk g' n) ∧
    (lk g κ = lk g' κ' → lk (un1 k acc x κ g).2.2 κ = lk (un1 k acc x κ' g').2.2 κ') := by
  cases k with
  | u => exact ⟨rfl, ⟨rfl, rfl⟩, fun _ _ => rfl, fun _ _ => rfl, fun h => h⟩
  | a j o => exact ⟨rfl, ⟨rfl, rfl⟩, fun _ _ => rfl, fun _ _ => rfl, fun h => h⟩
  | c f l => exact ⟨rfl, ⟨rfl, rfl⟩, fun _ _ => rfl, fun _ _ => rfl, fun h => h⟩
  | d t => exact ⟨rfl, ⟨_, rfl, rfl⟩, fun _ _ => rfl, fun _ _ => rfl, fun h => h⟩
  | o t ex =>
    refine ⟨rfl, ⟨rfl, rfl⟩, fun n hn => ?_, fun n hn => ?_, fun _ => ?_⟩
    · show lk ((κ, _) :: g) n = _
      rw [lk_cons, if_neg (Ne.symm hn)]
    · show lk ((κ', _) :: g') n = _
      rw [lk_cons, if_neg (Ne.symm hn)]
    · show lk ((κ, _) :: g) κ = lk ((κ', _) :: g') κ'
      rw [lk_cons, if_pos rfl, lk_cons, if_pos rfl]

theorem uns_shift : ∀ (l : List Kind) (acc : List Ty) (x : EL (kts l acc)) (κ κ' : Nat) (g g' : List (Nat × Gr)),
    (uns l acc x κ g).2.1 = (uns l acc x κ' g').2.1 ∧ (uns l acc x κ g).1.length = l.length ∧
    (∀ q (hq : q < l.length), SameS l[q] (getT (uns l acc x κ g).1 q) (getT (uns l acc x κ' g').1 q) (κ + q) (κ' + q)) ∧
    (∀ n, (n < κ ∨ κ + l.length ≤ n) → lk (uns l acc x κ g).2.2 n = lk g n) ∧
    (∀ N, (∀ n, n < N → lk g (κ + n) = lk g' (κ' + n)) → ∀ n, n < N → lk (uns l acc x κ g).2.2 (κ + n) = lk (uns l acc x κ' g').2.2 (κ' + n)) := by
  intro l
  induction l with
  | nil => intro acc x κ κ' g g'; exact ⟨rfl, rfl, fun q hq => absurd hq (Nat.not_lt_zero q), fun _ _ => rfl, fun N h => h⟩
  | cons k l ih =>
    intro acc x κ κ' g g'
    obtain ⟨a1, a2, a3, a3', a4⟩ := un1_shift k (kts l acc) x κ κ' g g'
    have e : (uns (k :: l) acc x κ g) = ((un1 k (kts l acc) x κ g).1 :: (uns l acc (un1 k (kts l acc) x κ g).2.1 (κ + 1) (un1 k (kts l acc) x κ g).2.2).1, (uns l acc (un1 k (kts l acc) x κ g).2.1 (κ + 1) (un1 k (kts l acc) x κ g).2.2).2) := rfl
    have e' : (uns (k :: l) acc x κ' g') = ((un1 k (kts l acc) x κ' g').1 :: (uns l acc (un1 k (kts l acc) x κ' g').2.1 (κ' + 1) (un1 k (kts l acc) x κ' g').2.2).1, (uns l acc (un1 k (kts l acc) x κ' g').2.1 (κ' + 1) (un1 k (kts l acc) x κ' g').2.2).2) := rfl
    rw [e, e', ← a1]
    obtain ⟨b1, b2, b3, b4, b5⟩ := ih acc (un1 k (kts l acc) x κ g).2.1 (κ + 1) (κ' + 1) (un1 k (kts l acc) x κ g).2.2 (un1 k (kts l acc) x κ' g').2.2
    obtain ⟨_, _, _, b4', _⟩ := ih acc (un1 k (kts l acc) x κ g).2.1 (κ' + 1) (κ' + 1) (un1 k (kts l acc) x κ' g').2.2 (un1 k (kts l acc) x κ' g').2.2
    refine ⟨b1, by simp only [List.length_cons, b2], fun q hq => ?_, fun n hn => ?_, fun N h n hn => ?_⟩
    · cases q with
      | zero => exact a2
      | succ q =>
        have := b3 q (by simpa using hq)
        rw [show κ + 1 + q = κ + (q + 1) by omega, show κ' + 1 + q = κ' + (q + 1) by omega] at this
        exact this
    · simp only [List.length_cons] at hn
      simp only
      rw [b4 n (by omega)]
      exact a3 n (by omega)
    · simp only
      cases n with
      | zero =>
        have e1 := b4 κ (.inl (by omega))
        have e2 := b4' κ' (.inl (by omega))
        exact (e1.trans (a4 (h 0 hn))).trans e2.symm
      | succ n =>
        have := b5 (N - 1) (fun n hn => by
          rw [show κ + 1 + n = κ + (n + 1) by omega, show κ' + 1 + n = κ' + (n + 1) by omega, a3 _ (by omega), a3' _ (by omega)]
          exact h (n + 1) (by omega)) n (by omega)
        rw [show κ + 1 + n = κ + (n + 1) by omega, show κ' + 1 + n = κ' + (n + 1) by omega] at this
        exact this

theorem unB_shift : ∀ (l : List (List Kind)) (acc : List Ty) (x : EL (ktss l acc)) (κ κ' : Nat) (g g' : List (Nat × Gr)),
    (unB l acc x κ g).1.length = l.length ∧
    (∀ j (hj : j < l.length) (h1 : j < (unB l acc x κ g).1.length) (h2 : j < (unB l acc x κ' g').1.length), (unB l acc x κ g).1[j].length = l[j].length ∧ ∀ q (hq : q < l[j].length), SameS l[j][q] (getT (unB l acc x κ g).1[j] q) (getT (unB l acc x κ' g').1[j] q) (κ + sumL (l.take j) + q) (κ' + sumL (l.take j) + q)) ∧
    (∀ n, (n < κ ∨ κ + sumL l ≤ n) → lk (unB l acc x κ g).2.2 n = lk g n) ∧
    (∀ N, (∀ n, n < N → lk g (κ + n) = lk g' (κ' + n)) → ∀ n, n < N → lk (unB l acc x κ g).2.2 (κ + n) = lk (unB l acc x κ' g').2.2 (κ' + n)) := by
  intro l
  induction l with
  | nil => intro acc x κ κ' g g'; exact ⟨rfl, fun q hq => absurd hq (Nat.not_lt_zero q), fun _ _ => rfl, fun N h => h⟩
  | cons k l ih =>
    intro acc x κ κ' g g'
    obtain ⟨a1, a2, a3, a4, a5⟩ := uns_shift k (ktss l acc) x κ κ' g g'
    obtain ⟨_, _, _, a4', _⟩ := uns_shift k (ktss l acc) x κ' κ' g' g'
    have e : (unB (k :: l) acc x κ g) = ((uns k (ktss l acc) x κ g).1 :: (unB l acc (uns k (ktss l acc) x κ g).2.1 (κ + k.length) (uns k (ktss l acc) x κ g).2.2).1, (unB l acc (uns k (ktss l acc) x κ g).2.1 (κ + k.length) (uns k (ktss l acc) x κ g).2.2).2) := rfl
    have e' : (unB (k :: l) acc x κ' g') = ((uns k (ktss l acc) x κ' g').1 :: (unB l acc (uns k (ktss l acc) x κ' g').2.1 (κ' + k.length) (uns k (ktss l acc) x κ' g').2.2).1, (unB l acc (uns k (ktss l acc) x κ' g').2.1 (κ' + k.length) (uns k (ktss l acc) x κ' g').2.2).2) := rfl
    simp only [e, e', ← a1]
    obtain ⟨b2, b3, b4, b5⟩ := ih acc (uns k (ktss l acc) x κ g).2.1 (κ + k.length) (κ' + k.length) (uns k (ktss l acc) x κ g).2.2 (uns k (ktss l acc) x κ' g').2.2
    obtain ⟨_, _, b4', _⟩ := ih acc (uns k (ktss l acc) x κ g).2.1 (κ' + k.length) (κ' + k.length) (uns k (ktss l acc) x κ' g').2.2 (uns k (ktss l acc) x κ' g').2.2
    refine ⟨by simp only [List.length_cons, b2], fun j hj h1 h2 => ?_, fun n hn => ?_, fun N h n hn => ?_⟩
    · cases j with
      | zero =>
        refine ⟨a2, fun q hq => ?_⟩
        simp only [List.take_zero, sumL, Nat.add_zero]
        exact a3 q hq
      | succ j =>
        obtain ⟨c1, c2⟩ := b3 j (by simpa using hj) (by simpa using h1) (by simpa using h2)
        refine ⟨c1, fun q hq => ?_⟩
        have := c2 q hq
        rw [show κ + k.length + sumL (l.take j) + q = κ + sumL ((k :: l).take (j + 1)) + q by simp only [List.take_succ_cons, sumL]; omega,
          show κ' + k.length + sumL (l.take j) + q = κ' + sumL ((k :: l).take (j + 1)) + q by simp only [List.take_succ_cons, sumL]; omega] at this
        exact this
    · simp only [sumL] at hn
      rw [b4 n (by omega)]
      exact a4 n (by omega)
    · by_cases hlt : n < k.length
      · rw [b4 _ (.inl (by omega)), b4' _ (.inl (by omega))]
        exact a5 N h n hn
      · have := b5 (N - k.length) (fun n hn => by
          rw [show κ + k.length + n = κ + (k.length + n) by omega, show κ' + k.length + n = κ' + (k.length + n) by omega]
          exact a5 N h (k.length + n) (by omega)) (n - k.length) (by omega)
        rw [show κ + k.length + (n - k.length) = κ + n by omega, show κ' + k.length + (n - k.length) = κ' + n by omega] at this
        exact this

/-- how many slots a shape has -/
def slots (sh : Shape) : Nat := sh.tmps.length + sumL sh.boxes

theorem lay_shift (sh : Shape) (y : El sh.ty) (κ κ' : Nat) (g g' : List (Nat × Gr)) :
    (lay sh y κ g).1.length = sh.tmps.length ∧ (lay sh y κ g).2.1.length = sh.boxes.length ∧
    (∀ q (hq : q < sh.tmps.length), SameS sh.tmps[q] (getT (lay sh y κ g).1 q) (getT (lay sh y κ' g').1 q) (κ + q) (κ' + q)) ∧
    (∀ j (hj : j < sh.boxes.length) (h1 : j < (lay sh y κ g).2.1.length) (h2 : j < (lay sh y κ' g').2.1.length), (lay sh y κ g).2.1[j].length = sh.boxes[j].length ∧
      ∀ q (hq : q < sh.boxes[j].length), SameS sh.boxes[j][q] (getT (lay sh y κ g).2.1[j] q) (getT (lay sh y κ' g').2.1[j] q) (κ + (sh.tmps.length + sumL (sh.boxes.take j) + q)) (κ' + (sh.tmps.length + sumL (sh.boxes.take j) + q))) ∧
    (∀ n, (n < κ ∨ κ + slots sh ≤ n) → lk (lay sh y κ g).2.2 n = lk g n) ∧
    ((∀ n, n < slots sh → lk g (κ + n) = lk g' (κ' + n)) → ∀ n, n < slots sh → lk (lay sh y κ g).2.2 (κ + n) = lk (lay sh y κ' g').2.2 (κ' + n)) := by
  obtain ⟨a1, a2, a3, a4, a5⟩ := uns_shift sh.tmps (ktss sh.boxes []) (ofP sh.tys y) κ κ' g g'
  have e : ∀ κ g, lay sh y κ g = ((uns sh.tmps (ktss sh.boxes []) (ofP sh.tys y) κ g).1, (unB sh.boxes [] (uns sh.tmps (ktss sh.boxes []) (ofP sh.tys y) κ g).2.1 (κ + sh.tmps.length) (uns sh.tmps (ktss sh.boxes []) (ofP sh.tys y) κ g).2.2).1, (unB sh.boxes [] (uns sh.tmps (ktss sh.boxes []) (ofP sh.tys y) κ g).2.1 (κ + sh.tmps.length) (uns sh.tmps (ktss sh.boxes []) (ofP sh.tys y) κ g).2.2).2.2) := fun _ _ => rfl
  obtain ⟨b2, b3, b4, b5⟩ := unB_shift sh.boxes [] (uns sh.tmps (ktss sh.boxes []) (ofP sh.tys y) κ g).2.1 (κ + sh.tmps.length) (κ' + sh.tmps.length) (uns sh.tmps (ktss sh.boxes []) (ofP sh.tys y) κ g).2.2 (uns sh.tmps (ktss sh.boxes []) (ofP sh.tys y) κ' g').2.2
  obtain ⟨_, _, b4', _⟩ := unB_shift sh.boxes [] (uns sh.tmps (ktss sh.boxes []) (ofP sh.tys y) κ g).2.1 (κ' + sh.tmps.length) (κ' + sh.tmps.length) (uns sh.tmps (ktss sh.boxes []) (ofP sh.tys y) κ' g').2.2 (uns sh.tmps (ktss sh.boxes []) (ofP sh.tys y) κ' g').2.2
  simp only [e, ← a1]
  refine ⟨a2, b2, a3, fun j hj h1 h2 => ?_, fun n hn => ?_, fun h n hn => ?_⟩
  · obtain ⟨c1, c2⟩ := b3 j hj h1 h2
    refine ⟨c1, fun q hq => ?_⟩
    have := c2 q hq
    rw [show κ + sh.tmps.length + sumL (sh.boxes.take j) + q = κ + (sh.tmps.length + sumL (sh.boxes.take j) + q) by omega,
      show κ' + sh.tmps.length + sumL (sh.boxes.take j) + q = κ' + (sh.tmps.length + sumL (sh.boxes.take j) + q) by omega] at this
    exact this
  · unfold slots at hn
    rw [b4 n (by omega)]
    exact a4 n (by omega)
  · unfold slots at h hn
    by_cases hlt : n < sh.tmps.length
    · rw [b4 _ (.inl (by omega)), b4' _ (.inl (by omega))]
      exact a5 _ h n hn
    · have := b5 (sumL sh.boxes) (fun n hn => by
        rw [show κ + sh.tmps.length + n = κ + (sh.tmps.length + n) by omega, show κ' + sh.tmps.length + n = κ' + (sh.tmps.length + n) by omega]
        exact a5 _ h (sh.tmps.length + n) (by omega)) (n - sh.tmps.length) (by omega)
      rw [show κ + sh.tmps.length + (n - sh.tmps.length) = κ + n by omega, show κ' + sh.tmps.length + (n - sh.tmps.length) = κ' + n by omega] at this
      exact this

/-! ### the caller's boxes behind a call -/

theorem backTs_len (bm : List (Option (Nat × Nat))) : ∀ l : List T, (backTs bm l).length = l.length := by
  intro l; induction l with
  | nil => rfl
  | cons v l ih => simp [backTs, ih]
theorem backTs_get (bm : List (Option (Nat × Nat))) : ∀ (l : List T) (q : Nat), q < l.length → getT (backTs bm l) q = backT bm (getT l q) := by
  intro l; induction l with
  | nil => intro q hq; simp at hq
  | cons v l ih =>
    intro q hq
    cases q with
    | zero => rfl
    | succ q => exact ih q (by simpa using hq)

theorem lk_setB (boxes : List (Nat × List T)) (k i : Nat) (cs : List T) : lk (setB boxes k cs) i = if i = k then (lk boxes k).map (fun _ => cs) else lk boxes i := by
  unfold setB
  by_cases h : i = k
  · subst h; rw [if_pos rfl, lk_up_self]
  · rw [if_neg h, lk_up_ne _ _ h]

theorem backB_ok (bm : List (Option (Nat × Nat))) (hap : ∀ j1 j2 i b1 b2, getM bm j1 = some (i, b1) → getM bm j2 = some (i, b2) → j1 = j2) : ∀ (l : List (List T)) (j0 : Nat) (boxes : List (Nat × List T)),
    (∀ jj, jj < l.length → ∃ p, getM bm (j0 + jj) = some p) →
    (∀ k, (∀ jj, jj < l.length → ∀ b, getM bm (j0 + jj) ≠ some (k, b)) → lk (backB bm boxes l j0) k = lk boxes k) ∧
    (∀ jj (hj : jj < l.length) i b cs, getM bm (j0 + jj) = some (i, b) → lk boxes i = some cs → lk (backB bm boxes l j0) i = some (setCells cs b (backTs bm l[jj]))) ∧
    (∀ k, (lk (backB bm boxes l j0) k).isSome = (lk boxes k).isSome) := by
  intro l
  induction l with
  | nil => intro j0 boxes _; exact ⟨fun _ _ => rfl, fun jj hj => absurd hj (Nat.not_lt_zero jj), fun _ => rfl⟩
  | cons cs0 l ih =>
    intro j0 boxes hall
    obtain ⟨⟨i0, b0⟩, h0⟩ := hall 0 (by simp)
    rw [Nat.add_zero] at h0
    have e : backB bm boxes (cs0 :: l) j0 = backB bm (setB boxes i0 (setCells (getB boxes i0) b0 (backTs bm cs0))) l (j0 + 1) := by
      simp only [backB, h0]
    rw [e]
    obtain ⟨i1, i2, i3⟩ := ih (j0 + 1) (setB boxes i0 (setCells (getB boxes i0) b0 (backTs bm cs0))) (fun jj hj => by
      have := hall (jj + 1) (by simpa using hj)
      rwa [show j0 + (jj + 1) = j0 + 1 + jj by omega] at this)
    refine ⟨fun k hk => ?_, fun jj hj i b cs hm hc => ?_, fun k => ?_⟩
    · rw [i1 k (fun jj hj b => by
        have := hk (jj + 1) (by simpa using hj) b
        rwa [show j0 + (jj + 1) = j0 + 1 + jj by omega] at this), lk_setB, if_neg]
      rintro rfl
      exact hk 0 (by simp) b0 (by rw [Nat.add_zero]; exact h0)
    · cases jj with
      | zero =>
        rw [Nat.add_zero, h0] at hm
        obtain ⟨rfl, rfl⟩ := Prod.mk.inj (Option.some.inj hm)
        rw [i1 i0 (fun jj hj b' hb' => by
          have := hap _ _ _ _ _ h0 hb'
          omega), lk_setB, if_pos rfl, hc]
        simp only [Option.map_some, List.getElem_cons_zero]
        unfold getB
        rw [hc]
      | succ jj =>
        have hm' : getM bm (j0 + 1 + jj) = some (i, b) := by rwa [show j0 + (jj + 1) = j0 + 1 + jj by omega] at hm
        refine i2 jj (by simpa using hj) i b cs hm' ?_
        rw [lk_setB, if_neg]
        · exact hc
        · rintro rfl
          have := hap _ _ _ _ _ h0 hm'
          omega
    · rw [i3, lk_setB]
      split
      · rename_i he; subst he; cases lk boxes k <;> rfl
      · rfl

theorem lk_killKs {gr : List (Nat × Gr)} {k : Nat} : ∀ (ks : List Nat), lk (killKs gr ks) k = (lk gr k).map fun g => if k ∈ ks then killG g else g := by
  intro ks
  induction ks generalizing gr with
  | nil => cases h : lk gr k <;> simp [killKs, h]
  | cons q ks ih =>
    simp only [killKs]
    rw [ih]
    by_cases hk : k = q
    · subst hk
      rw [lk_up_self]
      cases lk gr k with
      | none => rfl
      | some g => simp only [Option.map_some, List.mem_cons, true_or, if_true]; split <;> rfl
    · rw [lk_up_ne _ _ hk]
      cases lk gr k with
      | none => rfl
      | some g => simp [hk]

end Mini

/- What a function comes to: the contract; the end of a call in the caller's memory. -/
namespace Mini
open Go

def resV : List Value → Value
  | [v] => v
  | l => .tuple l.toArray

def lenB (sh : Shape) (j : Nat) : Nat := (sh.boxes.getD j []).length

/-- what is known behind a call -/
structure Done (E : Env) (w : World) (ow : OwF) (bx : Nat → Nat × Nat) (n : Nat) (len : Nat → Nat) (sh : Shape) (z : El sh.ty) (G : Gh) (vs : List Value) (w' : World) : Prop where
  inv : InvM G (unpack sh z).m All w'
  fr : Frame w ow G.ow w'
  glob : GlobOK E G.ow w'
  vlen : vs.length = sh.tmps.length
  res : ∀ q, q < sh.tmps.length → Rel1 G (unpack sh z).m All w' (getT (unpack sh z).tm q) (vs.getD q undef)
  bx : ∀ j, j < n → G.bx j = bx j ∧ ∃ cs, lk (unpack sh z).m.boxes j = some cs ∧ cs.length = len j

/-- a function that is called with x comes to z -/
def Meets (E : Env) (s : Sig) (x : El s.ent.ty) (z : El s.out.ty) : Prop :=
  ∀ (G : Gh) (w : World) (args : Array Value), args.size = s.ent.tmps.length → InvM G (unpack s.ent x).m All w →
    (∀ q, q < s.ent.tmps.length → Rel1 G (unpack s.ent x).m All w (getT (unpack s.ent x).tm q) (args.getD q undef)) →
    (∀ j, j < s.ent.boxes.length → ∃ cs, lk (unpack s.ent x).m.boxes j = some cs ∧ cs.length = lenB s.ent j) → GlobOK E G.ow w →
    Calls E.P s.fn args w fun e w' => ∃ vs G', e = .returned (resV vs) ∧ Done E w G.ow G.bx s.ent.boxes.length (lenB s.ent) s.out z G' vs w'

open Classical in
/-- the caller's ghost behind a call -/
noncomputable def backG (G1 T' G' : Gh) (F : Found) (κ N : Nat) (size : Nat) : Gh where
  ow := fun b o => match G'.ow b o with
    | .prot => .prot
    | .box j => (match getM F.bm j with
      | some (i, _) => .box i
      | none => .none)
    | .gr q => .gr (κ + q)
    | .none => if b < size ∧ T'.ow b o = .none then G1.ow b o else .none
  bx := G1.bx
  gv := fun k => if κ ≤ k ∧ k < κ + N then G'.gv (k - κ) else G1.gv k

section
variable {E : Env} {B : Base} {G1 : Gh} {m : Mem} {p : Nat → Prop} {w : World} {tm : List T} {a : Act} {sh out : Shape} {tl : List T} {F : Found} {z : El out.ty} {G' : Gh} {vs : List Value} {w' : World} {κ : Nat}

theorem own_seen (hs : Seen m sh tl F) {n k : Nat} {kd : Kind} {v : T} (hn : (flat m F.bm sh tl)[n]? = some (kd, v)) (ho : OwnS kd v k) : k ∈ F.owns := by
  have hsc := hs.scan n kd v hn
  obtain ⟨⟨t, ex, rfl⟩, rfl⟩ := ho
  rcases hsc with hsc | ⟨q, g, h1, _, h3, _⟩
  · cases hsc
  · injection h1 with h1; subst h1; exact h3

theorem tr_gr_none (hs : Seen m sh tl F) {b o k : Nat} (hg : G1.ow b o = .gr k) (hk : k ∉ F.owns) : (trG G1 m sh tl F).ow b o = .none := by
  simp only [trG, trOw, hg]
  rw [dif_neg]
  rintro ⟨n, k', v, h1, h2⟩
  exact hk (own_seen hs h1 h2)

theorem tr_box_none {b o i : Nat} (hg : G1.ow b o = .box i)
    (hk : ∀ j b0 (hj : j < sh.boxes.length), getM F.bm j = some (i, b0) → (G1.bx i).1 = b → (G1.bx i).2 + b0 ≤ o → o < (G1.bx i).2 + b0 + sh.boxes[j].length → False) : (trG G1 m sh tl F).ow b o = .none := by
  simp only [trG, trOw, hg]
  rw [dif_neg]
  rintro ⟨j, b0, h1, hj, h2, h3, h4⟩
  exact hk j b0 hj h1 h2 h3 h4

theorem back_all (hs : Seen m sh tl F) (hbl : F.bm.length = sh.boxes.length) (h : RelAll E B G1 (m.share (shares m sh tl F)) p w tm a)
    (hd : Done E w (trG G1 m sh tl F).ow (trG G1 m sh tl F).bx sh.boxes.length (lenB sh) out z G' vs w') (hsl : out.boxes.length = sh.boxes.length)
    (hsl2 : ∀ j (h1 : j < out.boxes.length) (h2 : j < sh.boxes.length), out.boxes[j].length = sh.boxes[j].length) (hfull : ∀ j (hj : j < sh.boxes.length), 0 < sh.boxes[j].length)
    (hfree : ∀ n, n < slots out → lk m.gr (κ + n) = none) (hdi : (∀ k, p k) ∨ (sh.boxes = [] ∧ ∀ k ∈ out.tmps, ∃ t, k = .d t)) :
    RelAll E B (backG G1 (trG G1 m sh tl F) G' F κ (slots out) w.heap.size) ⟨backB F.bm m.boxes (lay out z κ (killKs (shareKs m.gr F.dats) F.owns)).2.1 0, (lay out z κ (killKs (shareKs m.gr F.dats) F.owns)).2.2⟩ p w' tm a ∧
    ∀ q, q < out.tmps.length → Rel1 (backG G1 (trG G1 m sh tl F) G' F κ (slots out) w.heap.size) ⟨backB F.bm m.boxes (lay out z κ (killKs (shareKs m.gr F.dats) F.owns)).2.1 0, (lay out z κ (killKs (shareKs m.gr F.dats) F.owns)).2.2⟩ p w'
      (backT F.bm (getT (lay out z κ (killKs (shareKs m.gr F.dats) F.owns)).1 q)) (vs.getD q undef) := by
  generalize hT : trG G1 m sh tl F = T' at hd
  obtain ⟨l1, l2, l3, l4, l5, l6⟩ := lay_shift out z κ 0 (killKs (shareKs m.gr F.dats) F.owns) []
  obtain ⟨l1', l2', _, _, l5', _⟩ := lay_shift out z 0 0 [] []
  generalize hr : lay out z κ (killKs (shareKs m.gr F.dats) F.owns) = r at l1 l2 l3 l4 l5 l6 ⊢
  have hu : unpack out z = ⟨(lay out z 0 []).1, ⟨keyed (lay out z 0 []).2.1 0, (lay out z 0 []).2.2⟩⟩ := rfl
  generalize hr0 : lay out z 0 [] = r0 at l3 l4 l6 hu l1' l2' l5'
  -- lookups
  have lkOut : ∀ k, (k < κ ∨ κ + slots out ≤ k) → lk r.2.2 k = ((lk m.gr k).map fun g => if k ∈ F.dats then shareG g else g).map fun g => if k ∈ F.owns then killG g else g := by
    intro k hk
    rw [l5 k hk, lk_killKs, lk_shareKs]
  have lkIn : ∀ n, n < slots out → lk r.2.2 (κ + n) = lk (unpack out z).m.gr n := by
    intro n hn
    have := l6 (fun n hn => by
      rw [lk_killKs, lk_shareKs, hfree n hn]; rfl) n hn
    rw [this, hu, Nat.zero_add]
  have notIn : ∀ k g, lk m.gr k = some g → k < κ ∨ κ + slots out ≤ k := by
    intro k g hg
    rcases Nat.lt_or_ge k κ with hlt | hge
    · exact .inl hlt
    · right
      refine Nat.le_of_not_lt fun hlt => ?_
      have := hfree (k - κ) (by omega)
      rw [show κ + (k - κ) = k by omega, hg] at this; cases this
  have hsoft : ∀ k, k ∈ shares m sh tl F ↔ (k ∈ F.dats ∨ k ∈ softs (flat m F.bm sh tl)) := fun k => by simp [shares]
  have soft_own : ∀ k, k ∈ softs (flat m F.bm sh tl) → k ∈ F.owns := fun k hk => by
    obtain ⟨n, t, hn⟩ := softs_mem.1 hk
    exact own_seen hs hn ⟨⟨t, false, rfl⟩, rfl⟩
  -- boxes
  have hall : ∀ jj, jj < r.2.1.length → ∃ p, getM F.bm (0 + jj) = some p := fun jj hj => by
    obtain ⟨i, b, hb, _⟩ := hs.box jj (by rw [← hsl, ← l2]; exact hj)
    exact ⟨(i, b), by rw [Nat.zero_add]; exact hb⟩
  obtain ⟨bb1, bb2, bb3⟩ := backB_ok F.bm hs.apart r.2.1 0 m.boxes hall
  have target : ∀ j (hj : j < sh.boxes.length) (hj' : j < r.2.1.length) i b, getM F.bm j = some (i, b) → ∃ cs, lk m.boxes i = some cs ∧ b + sh.boxes[j].length ≤ cs.length ∧ r.2.1[j].length = sh.boxes[j].length ∧ lk (backB F.bm m.boxes r.2.1 0) i = some (setCells cs b (backTs F.bm r.2.1[j])) := by
    intro j hj hj' i b hb
    obtain ⟨i', b', hb', hlen⟩ := hs.box j hj
    rw [hb] at hb'
    obtain ⟨rfl, rfl⟩ := Prod.mk.inj (Option.some.inj hb')
    obtain ⟨cs, h1, h2⟩ := getB_some hlen (hfull j hj)
    rw [h2] at hlen
    refine ⟨cs, h1, hlen, ?_, bb2 j hj' i b cs (by rw [Nat.zero_add]; exact hb) h1⟩
    have hjo : j < out.boxes.length := by rw [hsl]; exact hj
    rw [(l4 j hjo hj' (by rw [l2']; exact hjo)).1]
    exact hsl2 j hjo hj
  have isT : ∀ k cs2, lk (backB F.bm m.boxes r.2.1 0) k = some cs2 → ∃ cs, lk m.boxes k = some cs ∧ ((∃ j b, ∃ (hj : j < sh.boxes.length) (hj' : j < r.2.1.length), getM F.bm j = some (k, b) ∧ b + sh.boxes[j].length ≤ cs.length ∧ r.2.1[j].length = sh.boxes[j].length ∧ cs2 = setCells cs b (backTs F.bm r.2.1[j])) ∨ ((∀ j b, getM F.bm j ≠ some (k, b)) ∧ cs2 = cs)) := by
    intro k cs2 hk
    obtain ⟨cs, hcs⟩ : ∃ cs, lk m.boxes k = some cs := by
      have := bb3 k
      rw [hk] at this
      cases hc : lk m.boxes k with
      | none => rw [hc] at this; cases this
      | some cs => exact ⟨cs, rfl⟩
    refine ⟨cs, hcs, ?_⟩
    by_cases hex : ∃ j b, getM F.bm j = some (k, b)
    · obtain ⟨j, b, hb⟩ := hex
      have hj : j < sh.boxes.length := by rw [← hbl]; exact getM_lt _ _ _ hb
      have hj' : j < r.2.1.length := by rw [l2, hsl]; exact hj
      obtain ⟨cs', c1, c2, c3, c4⟩ := target j hj hj' k b hb
      rw [hcs] at c1
      obtain rfl := Option.some.inj c1
      rw [hk] at c4
      exact .inl ⟨j, b, hj, hj', hb, c2, c3, Option.some.inj c4⟩
    · right
      refine ⟨fun j b hb => hex ⟨j, b, hb⟩, ?_⟩
      have := bb1 k (fun jj _ b hb => hex ⟨_, b, hb⟩)
      rw [hk, hcs] at this
      exact Option.some.inj this
  -- owners
  have hlt := h.inv.lt
  have hprot : ∀ b o, G1.ow b o = .prot → T'.ow b o = .prot := fun b o ho => by rw [← hT]; exact trOw_prot.2 ho
  have hnoT : ∀ b o, ¬ (T'.ow b o).owned → b < w.heap.size → cl w' b o = cl w b o ∧ fz w' b o = fz w b o := fun b o ho hb => hd.fr.cell b o hb ho
  have hold : ∀ b o, T'.ow b o = .none → G1.ow b o ≠ .none → cl w' b o = cl w b o ∧ fz w' b o = fz w b o ∧ (backG G1 T' G' F κ (slots out) w.heap.size).ow b o = G1.ow b o := by
    intro b o ho hne
    have hb := hlt b o hne
    obtain ⟨c1, c2⟩ := hnoT b o (by rw [ho]; exact fun h => h) hb
    refine ⟨c1, c2, ?_⟩
    have hn := hd.fr.non b o hb ho
    simp only [backG, hn]
    rw [if_pos ⟨hb, ho⟩]
  have hk' : Keeps w' G'.ow w' (backG G1 T' G' F κ (slots out) w.heap.size).ow := fun b o ho => ⟨by simp only [backG, ho], rfl⟩
  have hk : Keeps w G1.ow w' (backG G1 T' G' F κ (slots out) w.heap.size).ow := fun b o ho => by
    have hp := hprot b o ho
    have hb := hlt b o (by rw [ho]; simp)
    exact ⟨(hk' b o (hd.fr.prot b o hp)).1, (hnoT b o (by rw [hp]; exact fun h => h) hb).1⟩
  -- the memory
  have hle : MemLe G1 (m.share (shares m sh tl F)) p (backG G1 T' G' F κ (slots out) w.heap.size) ⟨backB F.bm m.boxes r.2.1 0, r.2.2⟩ p := by
    refine ⟨fun _ h => h, fun k cs _ hc => ⟨rfl, ?_⟩, fun k g _ hg => ?_⟩
    · have hc : lk m.boxes k = some cs := hc
      obtain ⟨cs2, hcs2⟩ : ∃ cs2, lk (backB F.bm m.boxes r.2.1 0) k = some cs2 := by
        have := bb3 k
        rw [hc] at this
        cases hx : lk (backB F.bm m.boxes r.2.1 0) k with
        | none => rw [hx] at this; cases this
        | some c => exact ⟨c, rfl⟩
      obtain ⟨cs', h1, h2⟩ := isT k cs2 hcs2
      rw [hc] at h1
      obtain rfl := Option.some.inj h1
      refine ⟨cs2, hcs2, ?_⟩
      rcases h2 with ⟨j, b, hj, hj', _, c2, c3, rfl⟩ | ⟨_, rfl⟩
      · exact setCells_len (by rw [backTs_len, c3]; exact c2)
      · rfl
    · simp only [Mem.share, lk_shareKs] at hg
      cases hg0 : lk m.gr k with
      | none => rw [hg0] at hg; cases hg
      | some g0 =>
        rw [hg0] at hg
        obtain rfl := Option.some.inj hg
        have hni := notIn k g0 hg0
        refine ⟨_, by show lk r.2.2 k = _; rw [lkOut k hni, hg0]; rfl, ?_⟩
        by_cases ho : k ∈ F.owns
        · simp only [if_pos ho]
          exact ⟨.dead _ _ rfl, fun hd => absurd rfl hd⟩
        · simp only [if_neg ho]
          have he : (k ∈ shares m sh tl F) = (k ∈ F.dats) := by
            apply propext
            rw [hsoft]
            exact ⟨fun h => h.elim id fun h => absurd (soft_own k h) ho, .inl⟩
          simp only [he]
          refine ⟨grLe_refl _, fun _ => ?_⟩
          simp only [backG]
          rw [if_neg (by omega)]
  -- slots of the call's end
  have back : ∀ (kd : Kind) (u u0 : T) (N : Nat) (v : Value), N < slots out → SameS kd u u0 (κ + N) (0 + N) → Rel1 G' (unpack out z).m All w' u0 v → ((∀ k, p k) ∨ ∃ t, kd = .d t) →
      Rel1 (backG G1 T' G' F κ (slots out) w.heap.size) ⟨backB F.bm m.boxes r.2.1 0, r.2.2⟩ p w' (backT F.bm u) v := by
    intro kd u u0 N v hN hsm hrel hpp
    cases kd with
    | u => obtain ⟨rfl, rfl⟩ := hsm; trivial
    | c f l => obtain ⟨rfl, rfl⟩ := hsm; trivial
    | d t => obtain ⟨x, rfl, rfl⟩ := hsm; exact repV_mono hk' hrel
    | o t ex =>
      obtain ⟨rfl, rfl⟩ := hsm
      have hall : ∀ k, p k := hpp.resolve_right (fun ⟨t', ht⟩ => by cases ht)
      obtain ⟨_, g, hg, hv⟩ := hrel
      rw [Nat.zero_add] at hg hv
      refine ⟨hall _, g, by rw [← hg]; exact lkIn N hN, fun hd => ?_⟩
      rw [hv hd]
      simp only [backG]
      rw [if_pos (by omega)]
      congr 1; omega
    | a j off =>
      obtain ⟨rfl, rfl⟩ := hsm
      have hallp : ∀ k, p k := hpp.resolve_right (fun ⟨t', ht⟩ => by cases ht)
      obtain ⟨_, ⟨cs0, hcs0⟩, hv⟩ := hrel
      have hj : j < sh.boxes.length := by
        rw [hu] at hcs0
        have hcs0 : lk (keyed r0.2.1 0) j = some cs0 := hcs0
        rw [lk_keyed, if_pos (Nat.zero_le _), Nat.sub_zero] at hcs0
        have := (List.getElem?_eq_some_iff.1 hcs0).1
        rw [← hsl, ← l2']; exact this
      obtain ⟨i, b, hb, _⟩ := hs.box j hj
      obtain ⟨cs, c1, c2, c3, c4⟩ := target j hj (by rw [l2, hsl]; exact hj) i b hb
      simp only [backT, hb]
      refine ⟨hallp _, ⟨_, c4⟩, ?_⟩
      rw [hv, (hd.bx j hj).1, ← hT]
      simp only [trG, trBx, hb]
      show ptr (G1.bx i).1 ((G1.bx i).2 + b + off) = ptr (G1.bx i).1 ((G1.bx i).2 + (b + off))
      rw [Nat.add_assoc]
  have hlen0 : ∀ j (hj : j < out.boxes.length), ∃ cs0, ∃ (hj0 : j < r0.2.1.length), cs0 = r0.2.1[j] ∧ lk (unpack out z).m.boxes j = some cs0 := by
    intro j hj
    have hj0 : j < r0.2.1.length := by rw [l2']; exact hj
    refine ⟨_, hj0, rfl, ?_⟩
    rw [hu]
    show lk (keyed r0.2.1 0) j = _
    rw [lk_keyed, if_pos (Nat.zero_le _), Nat.sub_zero, List.getElem?_eq_getElem hj0]
  have hG2bx : ∀ k, (backG G1 T' G' F κ (slots out) w.heap.size).bx k = G1.bx k := fun _ => rfl
  -- the invariant
  have hinv : InvM (backG G1 T' G' F κ (slots out) w.heap.size) ⟨backB F.bm m.boxes r.2.1 0, r.2.2⟩ p w' := by
    refine ⟨fun k cs2 hpk hc => ?_, fun k g hpk hg => ?_, fun b o ho => ?_⟩
    · obtain ⟨cs, hcs, hcase⟩ := isT k cs2 hc
      have hbox := h.inv.box k cs hpk hcs
      have oldc : ∀ q, q < cs.length → (∀ j b0 (hj : j < sh.boxes.length), getM F.bm j = some (k, b0) → ¬ (b0 ≤ q ∧ q < b0 + sh.boxes[j].length)) →
          (backG G1 T' G' F κ (slots out) w.heap.size).ow (G1.bx k).1 ((G1.bx k).2 + q) = .box k ∧ fz w' (G1.bx k).1 ((G1.bx k).2 + q) = false ∧
          ∃ v, cl w' (G1.bx k).1 ((G1.bx k).2 + q) = some v ∧ v.oneCell = true ∧ Rel1 (backG G1 T' G' F κ (slots out) w.heap.size) ⟨backB F.bm m.boxes r.2.1 0, r.2.2⟩ p w' (getT cs q) v := by
        intro q hq hno
        obtain ⟨o1, o2, v, o3, o4, o5⟩ := hbox q hq
        have hn : T'.ow (G1.bx k).1 ((G1.bx k).2 + q) = .none := by
          rw [← hT]
          refine tr_box_none o1 fun j b0 hj hb _ h3 h4 => hno j b0 hj hb ⟨by omega, by omega⟩
        obtain ⟨e1, e2, e3⟩ := hold _ _ hn (by rw [o1]; simp)
        exact ⟨e3.trans o1, e2.trans o2, v, e1.trans o3, o4, rel1_mono hle hk o5⟩
      rcases hcase with ⟨j, b, hj, hj', hb, c2, c3, rfl⟩ | ⟨hnt, rfl⟩
      · have hl : (setCells cs b (backTs F.bm r.2.1[j])).length = cs.length := setCells_len (by rw [backTs_len, c3]; exact c2)
        intro q hq
        rw [hl] at hq
        rw [hG2bx, getT_setCells (by rw [backTs_len, c3]; exact c2), backTs_len, c3]
        by_cases hin : b ≤ q ∧ q < b + sh.boxes[j].length
        · rw [if_pos hin]
          have hjo : j < out.boxes.length := by rw [hsl]; exact hj
          obtain ⟨cs0, hj0, hcs0, hlk0⟩ := hlen0 j hjo
          obtain ⟨s1, s2⟩ := l4 j hjo hj' hj0
          obtain ⟨s1', _⟩ := (lay_shift out z 0 0 [] []).2.2.2.1 j hjo (by rw [hr0]; exact hj0) (by rw [hr0]; exact hj0)
          simp only [hr0] at s1'
          have hq0 : q - b < cs0.length := by rw [hcs0, s1', hsl2 j hjo hj]; omega
          obtain ⟨d1, d2, v, d3, d4, d5⟩ := hd.inv.box j cs0 trivial hlk0 (q - b) hq0
          have hbx0 : G'.bx j = ((G1.bx k).1, (G1.bx k).2 + b) := by
            rw [(hd.bx j hj).1, ← hT]; simp only [trG, trBx, hb]
          rw [hbx0] at d1 d2 d3
          simp only at d1 d2 d3
          rw [show (G1.bx k).2 + b + (q - b) = (G1.bx k).2 + q by omega] at d1 d2 d3
          have hsl3 := hsl2 j hjo hj
          refine ⟨by simp only [backG, d1, hb], d2, v, d3, d4, ?_⟩
          rw [backTs_get _ _ _ (by rw [c3]; omega)]
          have hqk : q - b < out.boxes[j].length := by omega
          have hN : out.tmps.length + sumL (out.boxes.take j) + (q - b) < slots out := by
            have : (flat m F.bm out tl)[out.tmps.length + sumL (out.boxes.take j) + (q - b)]? = _ := flat_box hjo hqk
            have := (List.getElem?_eq_some_iff.1 this).1
            unfold flat at this
            rw [List.length_append, zipK_len, flatB_len] at this
            exact this
          refine back _ _ _ _ v hN (s2 (q - b) hqk) ?_ (.inl (hdi.resolve_right fun hh => by rw [hh.1] at hj; simp at hj))
          rw [hcs0] at d5
          exact d5
        · rw [if_neg hin]
          refine oldc q hq fun j2 b2 hj2 hb2 hh => ?_
          have := hs.apart _ _ _ _ _ hb hb2
          subst this
          rw [hb] at hb2
          obtain ⟨_, rfl⟩ := Prod.mk.inj (Option.some.inj hb2)
          exact hin hh
      · intro q hq
        rw [hG2bx]
        exact oldc q hq fun j b0 _ hb _ => hnt j b0 hb
    · have hg : lk r.2.2 k = some g := hg
      by_cases hin : κ ≤ k ∧ k < κ + slots out
      · obtain ⟨n, rfl⟩ : ∃ n, k = κ + n := ⟨k - κ, by omega⟩
        have hn : n < slots out := by omega
        rw [lkIn n hn] at hg
        have hok := hd.inv.gr n g trivial hg
        obtain ⟨t, xs, md, ver⟩ := g
        have key : ∀ c c', (∀ b o, G'.ow b o = c → (backG G1 T' G' F κ (slots out) w.heap.size).ow b o = c') → (c' = .gr (κ + n) → c = .gr n) → GrRow G' w' n t xs c → GrRow (backG G1 T' G' F κ (slots out) w.heap.size) w' (κ + n) t xs c' := by
          rintro c c' hcc hcg ⟨ad, len, cap, e1, e2, e3, e4⟩
          refine ⟨ad, len, cap, ?_, e2, e3, fun hc => ?_⟩
          · simp only [backG]
            rw [if_pos hin, show κ + n - κ = n by omega]
            exact e1
          · obtain ⟨b, o, e5, e6, e7⟩ := e4 hc
            refine ⟨b, o, e5, row_mono (fun x l hl => rep_mono hk' _ _ _ hl) (fun o' ho' => ⟨⟨hcc _ _ ho'.1, fun hc' => ho'.2 (hcg hc')⟩, rfl⟩) e6, fun q h1 h2 => ?_⟩
            obtain ⟨s1, s2, s3⟩ := e7 q h1 h2
            exact ⟨by simp only [backG, s1], s2, s3⟩
        unfold GrOK at hok ⊢
        cases md with
        | dead => trivial
        | excl => exact key _ _ (fun b o ho => by simp only [backG, ho]) (fun _ => rfl) hok
        | shared => exact key _ _ (fun b o ho => by simp only [backG, ho]) (fun hc => by cases hc) hok
      · rw [lkOut k (by omega)] at hg
        cases hg0 : lk m.gr k with
        | none => rw [hg0] at hg; cases hg
        | some g0 =>
          rw [hg0] at hg
          obtain rfl := Option.some.inj hg
          by_cases ho : k ∈ F.owns
          · simp only [if_pos ho]
            unfold GrOK; simp only [killG]
          · simp only [if_neg ho]
            have he : (k ∈ shares m sh tl F) = (k ∈ F.dats) := by
              apply propext
              rw [hsoft]
              exact ⟨fun h => h.elim id fun h => absurd (soft_own k h) ho, .inl⟩
            have hg1 : lk (m.share (shares m sh tl F)).gr k = some (if k ∈ F.dats then shareG g0 else g0) := by
              simp only [Mem.share, lk_shareKs, hg0, Option.map_some, he]
            refine grOK_mono hk ?_ (fun b o ho' => ?_) (h.inv.gr k _ hpk hg1)
            · simp only [backG]; rw [if_neg hin]
            · have hn : T'.ow b o = .none := by rw [← hT]; exact tr_gr_none hs ho' ho
              obtain ⟨e1, e2, e3⟩ := hold b o hn (by rw [ho']; simp)
              exact ⟨e3.trans ho', e1, e2⟩
    · by_cases hg : G'.ow b o = .none
      · simp only [backG, hg] at ho
        split at ho
        · rename_i hh
          exact Nat.lt_of_lt_of_le hh.1 hd.fr.size
        · exact absurd rfl ho
      · exact hd.inv.lt b o hg
  -- the frame
  have howned : ∀ b o, b < w.heap.size → ((backG G1 T' G' F κ (slots out) w.heap.size).ow b o).owned → (G1.ow b o).owned := by
    intro b o hb ho
    have viaT : (T'.ow b o).owned → (G1.ow b o).owned := fun h => by rw [← hT] at h; exact trOw_owned h
    cases hg : G'.ow b o with
    | none =>
      simp only [backG, hg] at ho
      split at ho
      · exact ho
      · exact ho.elim
    | prot => simp only [backG, hg] at ho; exact ho.elim
    | box j => exact viaT (hd.fr.own b o hb (by rw [hg]; trivial))
    | gr q => exact viaT (hd.fr.own b o hb (by rw [hg]; trivial))
  have hnoown : ∀ b o, ¬ (G1.ow b o).owned → ¬ (T'.ow b o).owned := fun b o ho h => ho (by rw [← hT] at h; exact trOw_owned h)
  have hfr : Frame B.w B.ow (backG G1 T' G' F κ (slots out) w.heap.size).ow w' := by
    have f := h.fr
    refine ⟨hd.fr.os.trans f.os, hd.fr.tape.trans f.tape, hd.fr.output.trans f.output, Nat.le_trans f.size hd.fr.size, fun b o hb ho => ?_, fun b hb ho => ?_, fun b o hb ho => ?_, fun b o ho => ?_, fun b o hb ho => ?_⟩
    · have hb' := Nat.lt_of_lt_of_le hb f.size
      obtain ⟨c1, c2⟩ := hnoT b o (hnoown b o fun h => ho (f.own b o hb h)) hb'
      obtain ⟨c3, c4⟩ := f.cell b o hb ho
      exact ⟨c1.trans c3, c2.trans c4⟩
    · have hb' := Nat.lt_of_lt_of_le hb f.size
      rw [hd.fr.block b hb' (fun o => hnoown b o fun h => ho o (f.own b o hb h))]
      exact f.block b hb ho
    · exact f.own b o hb (howned b o (Nat.lt_of_lt_of_le hb f.size) ho)
    · exact (hk b o (f.prot b o ho)).1
    · have hb' := Nat.lt_of_lt_of_le hb f.size
      have hn1 := f.non b o hb ho
      have hnT : T'.ow b o = .none := by rw [← hT]; exact trOw_none hn1
      have hn' := hd.fr.non b o hb' hnT
      simp only [backG, hn']
      split
      · exact hn1
      · rfl
  refine ⟨⟨relTm_mono hle hk h.tms, hinv, hfr, glob_mono hk h.glob, h.defers, bx_mono hle h.bx, h.sz⟩, fun q hqq => ?_⟩
  have hres := hd.res q hqq
  have hN : q < slots out := by unfold slots; omega
  have hsm := l3 q hqq
  refine back out.tmps[q] _ _ q _ hN hsm ?_ ?_
  · rw [hu] at hres ⊢; exact hres
  · rcases hdi with hq | ⟨_, hq⟩
    · exact .inl hq
    · exact .inr (hq _ (List.getElem_mem _))

end
end Mini

/- Calls: what functions come to, as operations. -/
namespace Mini
open Go

structure InstOK (E : Env) : Prop where
  fn : ∀ f l i s, E.inst f l = some i → E.sig i = some s → s.fn = f
  body : ∀ i s, E.sig i = some s → ∃ fn, E.P.funcs[s.fn]? = some fn ∧ fn.body.isSome = true ∧ (fn.name == "runtime.NumGoroutine") = false

theorem scan1_dats {gr : List (Nat × Gr)} {F F' : Found} {k : Kind} {v : T} (h : scan1 gr F k v = some F') : ∀ q ∈ F'.dats, q ∈ F.dats ∨ v = .own q := by
  have keep : F'.dats = F.dats → ∀ q ∈ F'.dats, q ∈ F.dats ∨ v = .own q := fun he q hq => .inl (by rw [he] at hq; exact hq)
  have findB_d : ∀ {F F' : Found} {j off i o : Nat}, findB F j off i o = some F' → F'.dats = F.dats := by
    intro F F' j off i o h
    unfold findB at h
    split at h
    · split at h
      · split at h
        · obtain rfl := Option.some.inj h; rfl
        · cases h
      · split at h
        · obtain rfl := Option.some.inj h; rfl
        · cases h
    · cases h
  have findBs_d : ∀ (l m : List (Nat × Nat)) {F F' : Found}, findBs F l m = some F' → F'.dats = F.dats := by
    intro l
    induction l with
    | nil => intro m F F' h; cases m with
      | nil => obtain rfl := Option.some.inj (show some F = some F' from h); rfl
      | cons y m => cases h
    | cons x l ih =>
      intro m F F' h
      obtain ⟨j, off⟩ := x
      cases m with
      | nil => cases h
      | cons y m =>
        obtain ⟨i, o⟩ := y
        simp only [findBs] at h
        split at h
        · rename_i F1 h1
          rw [ih m h, findB_d h1]
        · cases h
  cases k with
  | u => exact keep (by obtain rfl := Option.some.inj (show some F = some F' by cases v <;> exact h); rfl)
  | a j off =>
    cases v with
    | addr i o => exact keep (findB_d (show findB F j off i o = some F' from h))
    | _ => cases h
  | d t =>
    cases v with
    | own q =>
      obtain rfl := Option.some.inj h
      intro q' hq'
      simp only [List.mem_cons] at hq'
      rcases hq' with rfl | hq'
      · exact .inr rfl
      · exact .inl hq'
    | _ => exact keep (by obtain rfl := Option.some.inj h; rfl)
  | o t ex =>
    cases v with
    | nil => exact keep (by obtain rfl := Option.some.inj h; rfl)
    | own q =>
      refine keep ?_
      replace h : ownF gr F ex q = some F' := h
      unfold ownF at h
      split at h
      · split at h
        · cases h
        · split at h <;> first | (cases h; done) | (obtain rfl := Option.some.inj h; rfl)
      · cases h
    | _ => cases h
  | c f l =>
    cases v with
    | clo g m =>
      simp only [scan1] at h
      split at h
      · exact keep (findBs_d l m h)
      · cases h
    | _ => cases h

theorem scans_dats {gr : List (Nat × Gr)} : ∀ (l : List Kind) (vs : List T) {F F' : Found}, scans gr F l vs = some F' → ∀ q ∈ F'.dats, q ∈ F.dats ∨ ∃ i, i < l.length ∧ getT vs i = .own q := by
  intro l
  induction l with
  | nil => intro vs F F' h q hq; obtain rfl := Option.some.inj (show some F = some F' from h); exact .inl hq
  | cons k l ih =>
    intro vs F F' h q hq
    cases vs with
    | nil => cases h
    | cons v vs =>
      simp only [scans] at h
      split at h
      · rename_i F1 h1
        rcases ih vs h q hq with hq | ⟨i, hi, e⟩
        · rcases scan1_dats h1 q hq with hq | rfl
          · exact .inl hq
          · exact .inr ⟨0, by simp, rfl⟩
        · exact .inr ⟨i + 1, by simpa using hi, e⟩
      · cases h

theorem sameLens_spec : ∀ {a b : List (List Kind)}, sameLens a b = true → b.length = a.length ∧ ∀ j (h1 : j < b.length) (h2 : j < a.length), b[j].length = a[j].length := by
  intro a
  induction a with
  | nil => intro b h; cases b with
    | nil => exact ⟨rfl, fun j h1 => by simp at h1⟩
    | cons x b => cases h
  | cons x a ih =>
    intro b h
    cases b with
    | nil => cases h
    | cons y b =>
      simp only [sameLens, Bool.and_eq_true] at h
      obtain ⟨i1, i2⟩ := ih h.2
      refine ⟨by simp [i1], fun j h1 h2 => ?_⟩
      cases j with
      | zero => exact (Nat.eq_of_beq_eq_true h.1).symm
      | succ j => exact i2 j (by simpa using h1) (by simpa using h2)

theorem fullB_spec : ∀ {a : List (List Kind)}, fullB a = true → ∀ j (h : j < a.length), 0 < a[j].length := by
  intro a
  induction a with
  | nil => intro _ j h; simp at h
  | cons x a ih =>
    intro h j hj
    simp only [fullB, Bool.and_eq_true] at h
    cases j with
    | zero =>
      cases x with
      | nil => cases h.1
      | cons y x => simp
    | succ j => exact ih h.2 j (by simpa using hj)

theorem addrs_len : ∀ l : List (Nat × Nat), (addrs l).length = l.length := by
  intro l; induction l with
  | nil => rfl
  | cons x l ih => obtain ⟨i, o⟩ := x; simp [addrs, ih]

theorem resT_rel {G : Gh} {m : Mem} {p : Nat → Prop} {w : World} : ∀ (us : List T) (vs : List Value), us.length = vs.length → (∀ q, q < us.length → Rel1 G m p w (getT us q) (vs.getD q undef)) → RelT G m p w (resT us) (resV vs) := by
  intro us vs hl hr
  match us, vs, hl, hr with
  | [], [], _, _ => exact ⟨#[], rfl, rfl, fun i hi => by simp at hi⟩
  | [u], [v], _, hr => exact relT_of1 (hr 0 (by simp))
  | u1 :: u2 :: us, v1 :: v2 :: vs, hl, hr =>
    refine ⟨(v1 :: v2 :: vs).toArray, rfl, by simpa using hl, fun i hi => ?_⟩
    have := hr i hi
    simpa using this

theorem resT_quiet : ∀ (us : List T), us.length = us.length := fun _ => rfl

/-- data alone are laid: no entry -/
theorem uns_data : ∀ (l : List Kind) (acc : List Ty) (x : EL (kts l acc)) (κ : Nat) (g : List (Nat × Gr)), (∀ k ∈ l, ∃ t, k = .d t) → (uns l acc x κ g).2.2 = g := by
  intro l
  induction l with
  | nil => intro acc x κ g _; rfl
  | cons k l ih =>
    intro acc x κ g h
    obtain ⟨t, rfl⟩ := h k (by simp)
    show (uns l acc _ (κ + 1) g).2.2 = g
    exact ih acc _ _ _ (fun k hk => h k (List.mem_cons_of_mem _ hk))

section
variable {E : Env} {B : Base} {κ : Nat} {G : Gh} {m : Mem} {p : Nat → Prop} {w : World} {tm : List T} {a : Act} {o : Oper} {call : CallT}

theorem run_call (hI : InstOK E) {i f : Nat} {s : Sig} {fv : Operand} {args : Array Operand} {tys : Array TypeId} {cs : Array Value} (ho : o.op = .call ⟨.value fv, args, tys⟩) (hfv : a.eval fv = .func (.func f) #[] cs) (hs : E.sig i = some s) (hf : s.fn = f) :
    (execOp a.eval o).run E.P w = .ok (.enter f (args.map a.eval ++ cs)) w := by
  obtain ⟨fn, h1, h2, h3⟩ := hI.body i s hs
  rw [hf] at h1
  unfold execOp
  rw [ho]
  simp only [resolve, hfv, Deferred.ofValue]
  rw [run_bindM run_pure]
  show (invoke (.fn (.func f) cs) (#[] ++ Array.map a.eval args)).run E.P w = _
  simp only [invoke, Array.empty_append]
  unfold callFunc
  rw [run_bindM (show (program).run E.P w = .ok E.P w from rfl)]
  simp only [h1, h3, Bool.false_eq_true, if_false]
  have h4 : fn.body.isNone = false := by
    cases hb : fn.body with
    | none => rw [hb] at h2; cases h2
    | some c => rfl
  simp only [h4, Bool.false_eq_true, if_false]
  rfl

theorem relCaps_get {act : Nat → Prop} : ∀ (l : List (Nat × Nat)) (vs : List Value), RelCaps G m act l vs → l.length = vs.length ∧ ∀ q, q < l.length → Rel1 G m act w (getT (addrs l) q) (vs.getD q undef) := by
  intro l
  induction l with
  | nil => intro vs h; cases vs with
    | nil => exact ⟨rfl, fun q hq => by simp at hq⟩
    | cons v vs => exact h.elim
  | cons x l ih =>
    intro vs h
    obtain ⟨i, off⟩ := x
    cases vs with
    | nil => exact h.elim
    | cons v vs =>
      obtain ⟨h1, h2⟩ := h
      obtain ⟨i1, i2⟩ := ih vs h2
      refine ⟨by simp [i1], fun q hq => ?_⟩
      cases q with
      | zero => exact h1
      | succ q => exact i2 q (by simpa using hq)

theorem calls_ok (hI : InstOK E) (hM : ∀ i s (x : El s.ent.ty) (z : El s.out.ty), E.sig i = some s → call i s.ent.ty s.out.ty x = some z → Meets E s x z) : CallsOK E call := by
  intro B κ G m p w tm a o f caps fv args tys ρ h ho hρ hfv
  unfold callT
  split
  · exact ok_bad
  · rename_i i hi
    split
    · exact ok_bad
    · rename_i s hs
      split
      · exact ok_bad
      · rename_i F hF
        split
        · exact ok_bad
        · rename_i x hx
          have hfn : s.fn = f := hI.fn _ _ _ _ hi hs
          -- the arguments
          have hclo := hρ fv
          rw [hfv] at hclo
          obtain ⟨cs, hev, hcaps⟩ := hclo
          obtain ⟨hcl, hcr⟩ := relCaps_get (w := w) caps cs.toList hcaps
          have hrun := run_call (w := w) hI ho hev hs hfn
          have htl : (ops1 ρ args.toList ++ addrs caps).length = (args.map a.eval ++ cs).size := by
            rw [List.length_append, ops1_len, addrs_len, hcl]; simp
          have hr : ∀ q, q < (ops1 ρ args.toList ++ addrs caps).length → RelT G m p w (getT (ops1 ρ args.toList ++ addrs caps) q) ((args.map a.eval ++ cs).getD q undef) := by
            intro q hq
            rw [getT_append, ops1_len]
            have e0 : (args.map a.eval ++ cs).getD q undef = if q < args.toList.length then (args.map a.eval).getD q undef else cs.getD (q - args.toList.length) undef := by
              simp only [Array.getD_eq_getD_getElem?, Array.length_toList]
              by_cases hlt : q < args.size
              · rw [if_pos hlt, Array.getElem?_append_left (by simpa using hlt)]
              · rw [if_neg hlt, Array.getElem?_append_right (by simpa using Nat.le_of_not_lt hlt)]; simp
            rw [e0]
            by_cases hlt : q < args.toList.length
            · rw [if_pos hlt, if_pos hlt, ops1_get _ _ hlt]
              have e1 : (args.map a.eval).getD q undef = a.eval args.toList[q] := by
                have hq' : q < args.size := by simpa using hlt
                simp [hq']
              rw [e1]
              exact hρ _
            · rw [if_neg hlt, if_neg hlt]
              have hq2 : q - args.toList.length < caps.length := by
                rw [List.length_append, ops1_len, addrs_len] at hq; omega
              have := hcr (q - args.toList.length) hq2
              have e2 : cs.toList.getD (q - args.toList.length) undef = cs.getD (q - args.toList.length) undef := by simp [Array.getD_eq_getD_getElem?]
              rw [e2] at this
              exact relT_of1 this
          split
          · exact ok_bad
          · rename_i hbeq
            have hal : (ops1 ρ args.toList ++ addrs caps).length = s.ent.tmps.length := by
              have : Nat.beq (ops1 ρ args.toList ++ addrs caps).length s.ent.tmps.length = true := by simpa using hbeq
              exact Nat.eq_of_beq_eq_true this
            obtain ⟨hseen, hbl, _⟩ := scan_bm (Nat.zero_le _) hF
            have hsh : (scanW (sameN 0 0 ++ noneN (s.ent.boxes.length - 0)) m s.ent (ops1 ρ args.toList ++ addrs caps)) = some F := hF
            -- the callee's beginning and end
            have main : ∀ z, call i s.ent.ty s.out.ty x = some z → (∀ k ∈ shares m s.ent (ops1 ρ args.toList ++ addrs caps) F, p k) → (∀ k ∈ F.owns, p k) → (s.ent.boxes = [] ∨ ∀ k, p k) →
                ∀ (R : Value → World → Prop), (∀ G1 vs G' w', RelAll E B G1 (m.share (shares m s.ent (ops1 ρ args.toList ++ addrs caps) F)) p w tm a → Done E w (trG G1 m s.ent (ops1 ρ args.toList ++ addrs caps) F).ow (trG G1 m s.ent (ops1 ρ args.toList ++ addrs caps) F).bx s.ent.boxes.length (lenB s.ent) s.out z G' vs w' → R (resV vs) w') →
                ∀ (next : Act → World → Prop) (Q : Exit → Act → World → Prop), (∀ v w', R v w' → next (a.put o.dst v) w') → o.wp E.P a w next Q := by
              intro z hz hpk hpo hpb R hR next Q hn
              obtain ⟨G1, h1, hle, hk, _, _, _⟩ := share_all (shares m s.ent (ops1 ρ args.toList ++ addrs caps) F) h hpk
              obtain ⟨i1, i2, i3, i4⟩ := laid_ok (vals := fun q => (args.map a.eval ++ cs).getD q undef) hseen hbl h1 hx (fun q hq => relT_mono hle hk (hr q (by rw [hal]; exact hq))) hpo hpb
              have := hM i s x z hs hz (trG G1 m s.ent (ops1 ρ args.toList ++ addrs caps) F) w (args.map a.eval ++ cs) (by rw [← htl, hal]) i1 i3 (fun j hj => by
                obtain ⟨cs', c1, c2⟩ := i4 j hj
                exact ⟨cs', c1, by rw [c2]; simp [lenB, List.getD_eq_getElem?_getD, hj]⟩) (glob_mono trKeeps h1.glob)
              unfold Oper.wp
              rw [hrun]
              show Calls E.P f _ w _
              rw [hfn] at this
              refine this.mono fun e w' hh => ?_
              obtain ⟨vs, G', rfl, hd⟩ := hh
              exact hn _ _ (hR G1 vs G' w' h1 hd)
            split
            · rename_i hq
              -- data alone
              simp only [quiet, Bool.and_eq_true, List.isEmpty_iff, List.all_eq_true] at hq
              obtain ⟨⟨⟨q1, q2⟩, q3⟩, q4⟩ := hq
              have q4 : ∀ k ∈ s.out.tmps, ∃ t, k = .d t := fun k hk => by
                have := q4 k hk
                cases k with
                | d t => exact ⟨t, rfl⟩
                | _ => cases this
              have hsoft : softs (flat m F.bm s.ent (ops1 ρ args.toList ++ addrs caps)) = [] := by
                refine List.eq_nil_iff_forall_not_mem.2 fun k hk => ?_
                obtain ⟨n, t, hn⟩ := softs_mem.1 hk
                have := own_seen hseen hn ⟨⟨t, false, rfl⟩, rfl⟩
                rw [q3] at this; simp at this
              have hshares : shares m s.ent (ops1 ρ args.toList ++ addrs caps) F = F.dats := by unfold shares; rw [hsoft, List.append_nil]
              have hdats : ∀ k ∈ F.dats, p k := by
                intro k hk
                unfold scanW at hsh
                split at hsh
                · rename_i F1 h1
                  rw [q1] at hsh
                  simp only [scanB] at hsh
                  split at hsh
                  · obtain rfl := Option.some.inj hsh
                    rcases scans_dats _ _ h1 k hk with hk | ⟨j, hj, e⟩
                    · simp at hk
                    · have := hr j (by rw [hal]; exact hj)
                      rw [e] at this
                      exact this.1
                  · cases hsh
                · cases hsh
              rintro u m' p' ⟨z, hz, rfl, rfl, rfl⟩ next Q hn
              -- a key that nobody has
              obtain ⟨K, hK⟩ : ∃ K, ∀ k, K ≤ k → lk m.gr k = none := by
                have : ∀ l : List (Nat × Gr), ∃ K, ∀ k, K ≤ k → lk l k = none := by
                  intro l
                  induction l with
                  | nil => exact ⟨0, fun _ _ => rfl⟩
                  | cons x l ih =>
                    obtain ⟨q, g⟩ := x
                    obtain ⟨K, hK⟩ := ih
                    exact ⟨max K (q + 1), fun k hk => by rw [lk_cons, if_neg (by omega)]; exact hK k (by omega)⟩
                exact this _
              refine main z hz (by rw [hshares]; exact hdats) (by rw [q3]; intro k hk; simp at hk) (.inl q1) (fun v w' => ∃ G2, RelAll E B G2 (m.share F.dats) p' w' tm a ∧ RelT G2 (m.share F.dats) p' w' (resT (unpack s.out z).tm) v)
                (fun G1 vs G' w' h1 hd => ?_) next Q (fun v w' ⟨G2, g1, g2⟩ => hn v w' G2 g1 g2)
              obtain ⟨b1, b2⟩ := back_all (κ := K) hseen hbl h1 hd (by rw [q1, q2]) (fun j hj => by rw [q2] at hj; simp at hj) (fun j hj => by rw [q1] at hj; simp at hj) (fun n _ => hK _ (by omega)) (.inr ⟨q1, q4⟩)
              have e1 : lay s.out z K (killKs (shareKs m.gr F.dats) F.owns) = ((uns s.out.tmps (ktss s.out.boxes []) (ofP s.out.tys z) K (shareKs m.gr F.dats)).1, [], shareKs m.gr F.dats) := by
                have hb : ∀ (bx : List (List Kind)) (x : EL (ktss bx [])) (κ : Nat) (g : List (Nat × Gr)), bx = [] → (unB bx [] x κ g).1 = [] ∧ (unB bx [] x κ g).2.2 = g := by
                  intro bx x κ g hb; subst hb; exact ⟨rfl, rfl⟩
                rw [q3]
                simp only [killKs]
                unfold lay
                have e2 := hb s.out.boxes (uns s.out.tmps (ktss s.out.boxes []) (ofP s.out.tys z) K (shareKs m.gr F.dats)).2.1 (K + s.out.tmps.length) (uns s.out.tmps (ktss s.out.boxes []) (ofP s.out.tys z) K (shareKs m.gr F.dats)).2.2 q2
                simp only [e2.1, e2.2]
                rw [show (uns s.out.tmps (ktss s.out.boxes []) (ofP s.out.tys z) K (shareKs m.gr F.dats)).2.2 = shareKs m.gr F.dats from uns_data _ _ _ _ _ q4]
              rw [e1] at b1 b2
              have e3 : (⟨backB F.bm m.boxes [] 0, shareKs m.gr F.dats⟩ : Mem) = m.share F.dats := rfl
              simp only [e3] at b1 b2
              refine ⟨_, b1, ?_⟩
              obtain ⟨l1, _, l3, _⟩ := lay_shift s.out z 0 K [] (shareKs m.gr F.dats)
              refine resT_rel _ _ (by rw [hd.vlen]; exact l1) (fun q hq => ?_)
              have hq' : q < s.out.tmps.length := by rw [← l1]; exact hq
              have hres := b2 q hq'
              have hsm := l3 q hq'
              obtain ⟨t, ht⟩ := q4 _ (List.getElem_mem hq')
              rw [ht] at hsm
              obtain ⟨y, e4, e5⟩ := hsm
              have e6 : (lay s.out z K (shareKs m.gr F.dats)).1 = (uns s.out.tmps (ktss s.out.boxes []) (ofP s.out.tys z) K (shareKs m.gr F.dats)).1 := rfl
              rw [e6] at e5
              rw [e5] at hres
              show Rel1 _ _ p' w' (getT (lay s.out z 0 []).1 q) _
              rw [e4]
              exact hres
            · split
              · rename_i hc
                simp only [Bool.and_eq_true] at hc
                obtain ⟨⟨c1, c2⟩, c3⟩ := hc
                obtain ⟨d1, d2⟩ := sameLens_spec c1
                rintro u m' p' ⟨z, hz, rfl, rfl, rfl, hall, hfg, hfb⟩ next Q hn
                have hslots : slots s.out < 1024 := by
                  unfold few at c2
                  unfold slots
                  simpa [Nat.blt_eq] using c2
                refine main z hz (fun k _ => hall k) (fun k _ => hall k) (.inr hall) (fun v w' => ∃ G2, RelAll E B G2 ⟨backB F.bm m.boxes (lay s.out z κ (killKs (shareKs m.gr F.dats) F.owns)).2.1 0, (lay s.out z κ (killKs (shareKs m.gr F.dats) F.owns)).2.2⟩ p' w' tm a ∧
                    RelT G2 ⟨backB F.bm m.boxes (lay s.out z κ (killKs (shareKs m.gr F.dats) F.owns)).2.1 0, (lay s.out z κ (killKs (shareKs m.gr F.dats) F.owns)).2.2⟩ p' w' (resT (backTs F.bm (lay s.out z κ (killKs (shareKs m.gr F.dats) F.owns)).1)) v)
                  (fun G1 vs G' w' h1 hd => ?_) next Q (fun v w' ⟨G2, g1, g2⟩ => hn v w' G2 g1 g2)
                obtain ⟨b1, b2⟩ := back_all (κ := κ) hseen hbl h1 hd d1 d2 (fullB_spec c3) (fun n hn => lk_freeK hfg n (by omega)) (.inl hall)
                refine ⟨_, b1, ?_⟩
                obtain ⟨l1, _⟩ := lay_shift s.out z κ 0 (killKs (shareKs m.gr F.dats) F.owns) []
                refine resT_rel _ _ (by rw [backTs_len, l1, hd.vlen]) (fun q hq => ?_)
                rw [backTs_len] at hq
                rw [backTs_get _ _ _ hq]
                exact b2 q (by rw [← l1]; exact hq)
              · exact ok_bad

end
end Mini
