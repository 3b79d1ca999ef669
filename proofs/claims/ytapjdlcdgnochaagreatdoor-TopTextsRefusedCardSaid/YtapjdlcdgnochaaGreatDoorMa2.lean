/- An evaluator of plain data over the form of a program, and its soundness. -/
import Derived.Test.YtapjdlcdgnochaaGreatDoorMa1
import Derived.Laws.Strings
import Derived.Laws.Strings2
import Derived.Laws.Concat
import Derived.Laws.StructEq
import Derived.Laws.BytesString
set_option linter.unusedSectionVars false
set_option linter.unusedSimpArgs false
set_option linter.unusedVariables false

/- Types of the program against the data's; reading cells. -/
namespace Mini
open Go

/-- the cells of a new variable -/
def zcells : Ty → List Value
  | .int k => [.int k 0]
  | .bool => [.bool false]
  | .str => [.string ⟨⟨[]⟩⟩]
  | .err => [.nilIface]
  | .sl _ => [.slice none 0 0]
  | .unit => []
  | .pair a b => zcells a ++ zcells b
  | .arr n t => repV n (zcells t)
where repV : Nat → List Value → List Value
  | 0, _ => []
  | n + 1, l => l ++ repV n l

def zeroRest (one : List Value → Option (List Value)) : Nat → List Value → Option (List Value)
  | 0, l => some l
  | n + 1, l => match one l with
    | some l => zeroRest one n l
    | none => none
/-- whether cells begin with those of a new variable; the rest -/
def zeroB : Ty → List Value → Option (List Value)
  | .int k, .int k' 0 :: l => if k' = k then some l else none
  | .bool, .bool false :: l => some l
  | .str, .string s :: l => if s.data.toList.isEmpty then some l else none
  | .err, .nilIface :: l => some l
  | .sl _, .slice none 0 0 :: l => some l
  | .unit, l => some l
  | .pair a b, l => match zeroB a l with
    | some l => zeroB b l
    | none => none
  | .arr n t, l => zeroRest (zeroB t) n l
  | _, _ => none

def infoB (P : Program) (t : Ty) (tid : Nat) : Bool :=
  match P.info? tid with
  | some i => i.size == t.size && Nat.ble i.bytes 16384 &&
    (match i.zero with
    | some z => (match zeroB t z.cells.toList with
      | some [] => true
      | _ => false) && (match z with
      | .agg _ => t.isAgg
      | _ => !t.isAgg)
    | none => false)
  | none => false

mutual
/-- whether a type of the program is a type of data -/
def fitB (P : Program) : Ty → Nat → Bool
  | .int k, tid => infoB P (.int k) tid && (match P.underlying tid with
    | some (.int k') => decide (k' = k)
    | _ => false)
  | .bool, tid => infoB P .bool tid && (match P.underlying tid with
    | some .bool => true
    | _ => false)
  | .str, tid => infoB P .str tid && (match P.underlying tid with
    | some .string => true
    | _ => false)
  | .err, tid => infoB P .err tid && (match P.underlying tid with
    | some (.interface _) => true
    | _ => false)
  | .sl t, tid => infoB P (.sl t) tid && (match P.underlying tid with
    | some (.slice e) => fitB P t e
    | _ => false)
  | .unit, tid => infoB P .unit tid && (match P.underlying tid with
    | some (.struct fs) => fs.toList.isEmpty
    | _ => false)
  | .pair a b, tid => infoB P (.pair a b) tid && (match P.underlying tid with
    | some (.struct fs) => (match fs.toList with
      | f :: l => f.offset == 0 && fitB P a f.type && fitF P b l a.size
      | [] => false)
    | _ => false)
  | .arr n t, tid => infoB P (.arr n t) tid && (match P.underlying tid with
    | some (.array m e) => m == n && fitB P t e
    | _ => false)
def fitF (P : Program) : Ty → List Field → Nat → Bool
  | .unit, [], _ => true
  | .pair a b, f :: l, off => f.offset == off && fitB P a f.type && fitF P b l (off + a.size)
  | _, _, _ => false
end

/-- a type of one cell that is no type of data -/
def oneB (P : Program) (tid : Nat) : Bool :=
  match P.info? tid with
  | some i => i.size == 1 && (match P.underlying tid with
    | some (.struct _) => false
    | some (.array _ _) => false
    | some _ => true
    | none => false)
  | none => false

def Ty.depth : Ty → Nat
  | .pair a b => max (a.depth + 1) b.depth
  | .arr _ t => t.depth + 1
  | _ => 0
mutual
/-- whether the model compares values of a type part by part -/
def eqTB (P : Program) : Ty → Nat → Bool
  | .pair a b, tid => !P.stoodInHeld tid && (match P.underlying tid with
    | some (.struct fs) => (match fs.toList with
      | f :: l => f.name != "_" && f.offset == 0 && fitB P a f.type && eqTB P a f.type && eqTF P b l a.size
      | [] => false)
    | _ => false)
  | .unit, _ => false
  | .arr _ _, _ => false
  | .sl _, _ => false
  | .err, _ => false
  | .int k, tid => fitB P (.int k) tid
  | .bool, tid => fitB P .bool tid
  | .str, tid => fitB P .str tid
def eqTF (P : Program) : Ty → List Field → Nat → Bool
  | .unit, [], _ => true
  | .pair a b, f :: l, off => f.name != "_" && f.offset == off && fitB P a f.type && eqTB P a f.type && eqTF P b l (off + a.size)
  | _, _, _ => false
end

structure EnvOK (E : Env) : Prop where
  eqs : ∀ tid t, E.eqs tid = true → E.ty tid = some t → eqTB E.P t tid = true ∧ E.P.eqGuardType E.P.depth tid = false ∧ t.depth ≤ 9999
  ty : ∀ tid t, E.ty tid = some t → fitB E.P t tid = true
  one : ∀ tid, E.one tid = true → oneB E.P tid = true
  mixed : E.P.follows .mixedOrders = true

theorem zeroB_spec : ∀ (t : Ty) (l r : List Value), zeroB t l = some r → l = zcells t ++ r := by
  intro t
  induction t with
  | int k =>
    intro l r h
    unfold zeroB at h
    split at h <;> try (cases h)
    all_goals (first | (rename_i he _; simp_all [zcells]; done) | simp_all [zcells])
  | bool => intro l r h; unfold zeroB at h; split at h <;> simp_all [zcells]
  | str =>
    intro l r h; unfold zeroB at h; split at h <;> try (simp_all [zcells]; done)
    split at h <;> try (simp_all; done)
    rename_i hs
    obtain rfl := Option.some.inj h
    rename_i s _ _
    obtain ⟨⟨d⟩⟩ := s
    simp only [List.isEmpty_iff] at hs
    subst hs
    rfl
  | err => intro l r h; unfold zeroB at h; split at h <;> simp_all [zcells]
  | sl t _ => intro l r h; unfold zeroB at h; split at h <;> simp_all [zcells]
  | unit => intro l r h; simp only [zeroB, Option.some.injEq] at h; simp [zcells, h]
  | pair a b iha ihb =>
    intro l r h
    simp only [zeroB] at h
    split at h
    · rename_i l' hl
      rw [iha _ _ hl, ihb _ _ h, zcells, List.append_assoc]
    · cases h
  | arr n t ih =>
    intro l r h
    simp only [zeroB] at h
    show l = zcells.repV n (zcells t) ++ r
    induction n generalizing l with
    | zero => simp only [zeroRest, Option.some.injEq] at h; simp [zcells.repV, h]
    | succ n ihn =>
      simp only [zeroRest] at h
      split at h
      · rename_i l' hl
        rw [ih _ _ hl, ihn _ h, zcells.repV, List.append_assoc]
      · cases h

/-- what the program's table says of a type -/
theorem info_of {P : Program} {t : Ty} {tid : Nat} (h : infoB P t tid = true) : ∃ i z, P.info? tid = some i ∧ i.size = t.size ∧ i.bytes ≤ 16384 ∧ i.zero = some z ∧
    (if t.isAgg = true then z = .agg (zcells t).toArray else zcells t = [z]) := by
  unfold infoB at h
  split at h <;> try (cases h; done)
  rename_i i hi
  simp only [Bool.and_eq_true, beq_iff_eq, Nat.ble_eq] at h
  obtain ⟨⟨h1, h2⟩, h3⟩ := h
  split at h3 <;> try (cases h3; done)
  rename_i z hz
  simp only [Bool.and_eq_true] at h3
  obtain ⟨h3, h4⟩ := h3
  split at h3 <;> try (cases h3; done)
  rename_i hzb
  have hc := zeroB_spec _ _ _ hzb
  rw [List.append_nil] at hc
  refine ⟨i, z, hi, h1, h2, hz, ?_⟩
  split at h4
  · rename_i cs
    rw [if_pos h4]
    simp only [Value.cells] at hc
    rw [← hc]
  · rename_i hna
    simp only [Bool.not_eq_true'] at h4
    rw [if_neg (by rw [h4]; simp)]
    have : z.cells = #[z] := by
      cases z <;> first | rfl | exact absurd rfl (hna _)
    rw [← hc, this]

theorem fit_info {P : Program} {t : Ty} {tid : Nat} (h : fitB P t tid = true) : infoB P t tid = true := by
  cases t <;> (unfold fitB at h; simp only [Bool.and_eq_true] at h; exact h.1)

theorem fit_agg {P : Program} {t : Ty} {tid : Nat} (h : fitB P t tid = true) : ∃ d, P.underlying tid = some d ∧
    (match d with
    | .struct _ => t.isAgg = true
    | .array _ _ => t.isAgg = true
    | _ => t.isAgg = false) := by
  cases t <;> (unfold fitB at h; simp only [Bool.and_eq_true] at h; obtain ⟨_, h⟩ := h) <;>
    (split at h <;> first | (cases h; done) | (rename_i hu; exact ⟨_, hu, rfl⟩) | (rename_i hu; rw [hu]; exact ⟨_, rfl, rfl⟩))

/-! ### runs of the model's small words -/

section
variable {P : Program} {w : World}
theorem run_underlying {tid : Nat} {d : TypeDesc} (h : P.underlying tid = some d) : (underlying tid).run P w = .ok d w := by
  simp [underlying, program, bind, Sem.bind, Sem.run, h, pure]
theorem run_typeInfo {tid : Nat} {i : TypeInfo} (h : P.info? tid = some i) : (typeInfo tid).run P w = .ok i w := by
  simp [typeInfo, program, bind, Sem.bind, Sem.run, h, pure]
theorem run_sizeOf {tid : Nat} {i : TypeInfo} (h : P.info? tid = some i) : (Go.sizeOf tid).run P w = .ok i.size w := by
  unfold Go.sizeOf
  rw [run_bindM (run_typeInfo h)]; rfl
theorem run_zero {tid : Nat} {i : TypeInfo} {z : Value} (h : P.info? tid = some i) (hz : i.zero = some z) : (zeroValue tid).run P w = .ok z w := by
  unfold zeroValue
  rw [run_bindM (run_typeInfo h), hz]; rfl
theorem run_isAgg {tid : Nat} {t : Ty} (h : fitB P t tid = true) : (isAgg tid).run P w = .ok t.isAgg w := by
  obtain ⟨d, hd, hm⟩ := fit_agg h
  unfold isAgg
  rw [run_bindM (run_underlying hd)]
  cases d <;> (simp only at hm; rw [hm]; rfl)

theorem run_load {b o : Nat} {v : Value} (h : cl w b o = some v) : (load ⟨b, o, none⟩).run P w = .ok v w := by
  unfold cl at h
  simp [load, Sem.run, h]

theorem loadCells_go {b o : Nat} {l : List Value} : ∀ (n i : Nat) (acc : Array Value), i + n = l.length → (∀ j, j < l.length → cl w b (o + j) = l[j]?) →
    (loadCellsFrom ⟨b, o, none⟩ i n acc).run P w = .ok (acc ++ (l.drop i).toArray) w := by
  intro n
  induction n with
  | zero =>
    intro i acc h _
    rw [List.drop_of_length_le (by omega)]
    simp [loadCellsFrom, pure, Sem.run]
  | succ n ih =>
    intro i acc h hc
    have hi : i < l.length := by omega
    unfold loadCellsFrom
    rw [addr_add, run_bindM (run_load (by rw [hc i hi, List.getElem?_eq_getElem hi])), ih (i + 1) _ (by omega) hc]
    congr 1
    rw [List.drop_eq_getElem_cons hi]
    simp

theorem run_loadCells {b o n : Nat} {l : List Value} (hn : l.length = n) (hc : ∀ j, j < n → cl w b (o + j) = l[j]?) : (loadCells ⟨b, o, none⟩ n).run P w = .ok l.toArray w := by
  unfold loadCells
  rw [loadCells_go (l := l) n 0 #[] (by omega) (by rw [hn]; exact hc)]
  simp

/-- a value of cells -/
def joinV (t : Ty) (l : List Value) : Value := if t.isAgg = true then .agg l.toArray else l.headD undef

theorem run_loadVar {tid b o : Nat} {t : Ty} {l : List Value} (h : fitB P t tid = true) (hn : l.length = t.size) (hc : ∀ j, j < t.size → cl w b (o + j) = l[j]?) :
    (loadVar tid ⟨b, o, none⟩).run P w = .ok (joinV t l) w := by
  unfold loadVar
  rw [run_bindM (run_isAgg h)]
  obtain ⟨i, z, hi, hs, _⟩ := info_of (fit_info h)
  unfold joinV
  by_cases ha : t.isAgg = true
  · rw [if_pos ha, if_pos ha, run_bindM (run_sizeOf hi), hs, run_bindM (run_loadCells hn hc)]; rfl
  · rw [if_neg ha, if_neg ha]
    have h1 : t.size = 1 := by cases t <;> first | rfl | exact absurd rfl ha
    have := hc 0 (by omega)
    rw [h1] at hn
    match l, hn with
    | [v], _ =>
      simp only [Nat.add_zero, List.getElem?_cons_zero] at this
      rw [run_load this]; rfl

theorem repV_join {ow : OwF} {t : Ty} {x : El t} {l : List Value} (h : Rep w ow t x l) : RepV w ow t x (joinV t l) := by
  unfold RepV joinV
  by_cases ha : t.isAgg = true
  · rw [if_pos ha, if_pos ha]; exact ⟨_, rfl, by simpa using h⟩
  · rw [if_neg ha, if_neg ha]
    have hl := rep_len _ _ _ h
    have h1 : t.size = 1 := by cases t <;> first | rfl | exact absurd rfl ha
    rw [h1] at hl
    match l, hl, h with
    | [v], _, h => exact h

/-- the cells of a value that is data -/
theorem repV_cells {ow : OwF} {t : Ty} {x : El t} {v : Value} (h : RepV w ow t x v) : Rep w ow t x v.cells.toList := by
  unfold RepV at h
  split at h
  · obtain ⟨cs, rfl, h⟩ := h; exact h
  · have h1 := rep_one _ _ _ h v (by simp)
    have : v.cells = #[v] := by cases v <;> first | rfl | simp [Value.oneCell] at h1
    rw [this]; exact h

theorem repV_one {ow : OwF} {t : Ty} {x : El t} {v : Value} (ha : t.isAgg = false) (h : RepV w ow t x v) : Rep w ow t x [v] ∧ v.oneCell = true := by
  unfold RepV at h
  rw [if_neg (by rw [ha]; simp)] at h
  exact ⟨h, rep_one _ _ _ h v (by simp)⟩

theorem run_storeVar {tid b o : Nat} {t : Ty} {v : Value} (h : fitB P t tid = true) (hn : v.cells.size = t.size)
    (hc : ∀ j (hj : j < v.cells.toList.length), (∃ u, cl w b (o + j) = some u) ∧ fz w b (o + j) = false ∧ v.cells.toList[j].oneCell = true) :
    ∃ w', (storeVar tid ⟨b, o, none⟩ v).run P w = .ok () w' ∧ Wrote w w' b o v.cells.toList := by
  obtain ⟨i, z, hi, hs, _⟩ := info_of (fit_info h)
  obtain ⟨w', hr, hw⟩ := storeCells_run (P := P) (b := b) (o := o) v.cells.toList 0 w (by simpa using hc)
  refine ⟨w', ?_, by simpa using hw⟩
  unfold storeVar
  rw [run_bindM (run_sizeOf hi), hs, if_neg (by simp [hn])]
  exact hr

end
end Mini

/- Data as cells: parts, fields, what a row of slots reads as. -/
namespace Mini
open Go

section
variable {w : World} {ow : OwF}

theorem rep_zero : ∀ (t : Ty), Rep w ow t (zero t) (zcells t) := by
  intro t
  induction t with
  | int k => rfl
  | bool => rfl
  | str => rfl
  | err => exact ⟨_, rfl, .inl ⟨rfl, rfl⟩⟩
  | sl t _ => exact ⟨none, 0, 0, rfl, rfl, Nat.le_refl _, fun h => absurd rfl h⟩
  | unit => rfl
  | pair a b iha ihb => exact ⟨_, _, rfl, iha, ihb⟩
  | arr n t ih =>
    refine ⟨by simp [zero], ?_⟩
    show RepN _ (List.replicate n (zero t)) (zcells.repV n (zcells t))
    induction n with
    | zero => rfl
    | succ n ihn => exact ⟨_, _, rfl, ih, ihn⟩

theorem expN_len {α : Type} {one : α → List T} {d : α} {sz : Nat} (h1 : ∀ x, (one x).length = sz) : ∀ (n : Nat) (xs : List α), (expN one d n xs).length = n * sz := by
  intro n
  induction n with
  | zero => intro xs; simp [expN]
  | succ n ih => intro xs; rw [expN, List.length_append, h1, ih, Nat.succ_mul]; omega
theorem expl_len : ∀ (t : Ty) (x : El t), (expl t x).length = t.size := by
  intro t
  induction t with
  | pair a b iha ihb => intro x; simp [expl, Ty.size, iha, ihb]
  | arr n t ih => intro x; simp only [expl, Ty.size]; exact expN_len ih n x
  | _ => intro x; rfl

theorem rel_expN {G : Gh} {m : Mem} {p : Nat → Prop} {α : Type} {one : α → List T} {d : α} {sz : Nat} {rone : α → List Value → Prop} (h1 : ∀ x, (one x).length = sz)
    (h2 : ∀ x l, rone x l → l.length = sz ∧ ∀ j (h : j < l.length), Rel1 G m p w (getT (one x) j) l[j]) :
    ∀ (n : Nat) (xs : List α) (l : List Value), xs.length = n → RepN rone xs l → ∀ j (h : j < l.length), Rel1 G m p w (getT (expN one d n xs) j) l[j] := by
  intro n
  induction n with
  | zero =>
    intro xs l hn hr j hj
    have := List.length_eq_zero_iff.1 hn; subst this
    simp only [RepN] at hr; subst hr; simp at hj
  | succ n ih =>
    intro xs l hn hr j hj
    cases xs with
    | nil => simp at hn
    | cons x xs =>
      obtain ⟨l1, l2, rfl, hx, hr⟩ := hr
      obtain ⟨hl, h3⟩ := h2 x l1 hx
      simp only [expN, List.headD_cons, List.tail_cons, getT_append, h1]
      by_cases hlt : j < sz
      · rw [if_pos hlt, List.getElem_append_left (by omega)]
        exact h3 j (by omega)
      · rw [if_neg hlt, List.getElem_append_right (by omega)]
        have := ih xs l2 (by simpa using hn) hr (j - sz) (by rw [List.length_append] at hj; omega)
        simpa [hl] using this

/-- the cells of data, one by one -/
theorem expl_rel {G : Gh} {m : Mem} {p : Nat → Prop} (hG : G.ow = ow) : ∀ (t : Ty) (x : El t) (l : List Value), Rep w ow t x l → ∀ j (h : j < l.length), Rel1 G m p w (getT (expl t x) j) l[j] := by
  subst hG
  intro t
  induction t with
  | int k => intro x l h j hj; obtain rfl := h; simp at hj; subst hj; exact rfl
  | bool => intro x l h j hj; obtain rfl := h; simp at hj; subst hj; exact rfl
  | str => intro x l h j hj; obtain rfl := h; simp at hj; subst hj; exact rfl
  | err => intro x l h j hj; have h' := h; obtain ⟨v, rfl, _⟩ := h; simp at hj; subst hj; exact h'
  | sl t _ => intro x l h j hj; have h' := h; obtain ⟨a, len, cap, rfl, _⟩ := h; simp at hj; subst hj; exact h'
  | unit => intro x l h j hj; simp only [Rep] at h; subst h; simp at hj
  | pair a b iha ihb =>
    intro x l h j hj
    obtain ⟨l1, l2, rfl, h1, h2⟩ := h
    have hl := rep_len _ _ _ h1
    simp only [expl, getT_append, expl_len]
    by_cases hlt : j < a.size
    · rw [if_pos hlt, List.getElem_append_left (by omega)]
      exact iha x.1 l1 h1 j (by omega)
    · rw [if_neg hlt, List.getElem_append_right (by omega)]
      have := ihb x.2 l2 h2 (j - a.size) (by rw [List.length_append] at hj; omega)
      simpa [hl] using this
  | arr n t ih =>
    intro x l h j hj
    exact rel_expN (expl_len t) (fun x l h => ⟨rep_len _ _ _ h, ih x l h⟩) n x l h.1 h.2 j hj

theorem repT_len (n : Nat) (l : List T) : (repT n l).length = n * l.length := by
  induction n with
  | zero => simp [repT]
  | succ n ih => rw [repT, List.length_append, ih, Nat.succ_mul]; omega
theorem expl0_len : ∀ (t : Ty), (expl0 t).length = t.size := by
  intro t
  induction t with
  | pair a b iha ihb => simp [expl0, Ty.size, iha, ihb]
  | arr n t ih => simp only [expl0, Ty.size, repT_len, ih]
  | _ => rfl
theorem zcells_len (t : Ty) : (zcells t).length = t.size := rep_len (w := default) (ow := fun _ _ => .none) _ _ _ (rep_zero t)

theorem expl0_rel {G : Gh} {m : Mem} {p : Nat → Prop} : ∀ (t : Ty) (j : Nat) (h : j < (zcells t).length), Rel1 G m p w (getT (expl0 t) j) (zcells t)[j] := by
  intro t
  induction t with
  | int k => intro j hj; simp [zcells] at hj; subst hj; exact rfl
  | bool => intro j hj; simp [zcells] at hj; subst hj; exact rfl
  | str => intro j hj; simp [zcells] at hj; subst hj; exact rfl
  | err => intro j hj; simp [zcells] at hj; subst hj; exact ⟨_, rfl, .inl ⟨rfl, rfl⟩⟩
  | sl t _ => intro j hj; simp [zcells] at hj; subst hj; exact rfl
  | unit => intro j hj; simp [zcells] at hj
  | pair a b iha ihb =>
    intro j hj
    simp only [expl0, zcells, getT_append, expl0_len]
    by_cases hlt : j < a.size
    · rw [if_pos hlt, List.getElem_append_left (by rw [zcells_len]; exact hlt)]
      exact iha j _
    · rw [if_neg hlt, List.getElem_append_right (by rw [zcells_len]; omega)]
      have := ihb (j - a.size) (by simp only [zcells, List.length_append, zcells_len] at hj; rw [zcells_len]; omega)
      simpa [zcells_len] using this
  | arr n t ih =>
    show ∀ j (h : j < (zcells.repV n (zcells t)).length), Rel1 G m p w (getT (repT n (expl0 t)) j) (zcells.repV n (zcells t))[j]
    induction n with
    | zero => intro j hj; simp [zcells.repV] at hj
    | succ n ihn =>
      intro j hj
      simp only [repT, zcells.repV, getT_append, expl0_len]
      by_cases hlt : j < t.size
      · rw [if_pos hlt, List.getElem_append_left (by rw [zcells_len]; exact hlt)]
        exact ih j _
      · rw [if_neg hlt, List.getElem_append_right (by rw [zcells_len]; omega)]
        have := ihn (j - t.size) (by simp only [zcells.repV, List.length_append, zcells_len] at hj; omega)
        simpa [zcells_len] using this

theorem some_pair {α β : Type} {a c : α} {b d : β} (h : some (a, b) = some (c, d)) : a = c ∧ b = d := by cases h; exact ⟨rfl, rfl⟩

/-! ### a slot as data -/

theorem castE_rep {a b : Ty} (h : a = b) {x : El a} {l : List Value} (hr : Rep w ow a x l) : Rep w ow b (castE h x) l := by subst h; exact hr
theorem castE_repV {a b : Ty} (h : a = b) {x : El a} {v : Value} (hr : RepV w ow a x v) : RepV w ow b (castE h x) v := by subst h; exact hr

theorem castE_eq {a b : Ty} (h : a = b) (x : El a) (h' : a = b) : castE h x = castE h' x := rfl

/-- a slot that reads as data is data, once it is no slice that the call may still write -/
theorem rd_rep {G : Gh} {m : Mem} {p : Nat → Prop} {t : Ty} {u : T} {v : Value} {x : El t} (hG : ∀ k g, p k → lk m.gr k = some g → GrOK G w k g)
    (hr : Rel1 G m p w u v) (hx : rdCell m.gr t u = some x) (hs : ∀ k g, u = .own k → lk m.gr k = some g → g.md ≠ .excl) : RepV w G.ow t x v := by
  cases u with
  | dat t' y =>
    simp only [rdCell] at hx
    split at hx
    · rename_i h _
      obtain rfl := Option.some.inj hx
      exact castE_repV h hr
    · cases hx
  | nil =>
    simp only [rdCell] at hx
    split at hx
    · obtain rfl := Option.some.inj hx
      have hv : v = .slice none 0 0 := hr
      subst hv
      exact ⟨none, 0, 0, rfl, rfl, Nat.le_refl _, fun h => absurd rfl h⟩
    · cases hx
  | own k =>
    simp only [rdCell] at hx
    cases hg : lk m.gr k with
    | none => rw [hg] at hx; cases hx
    | some g =>
      rw [hg] at hx
      simp only at hx
      obtain ⟨hp, g', hg', hv⟩ := hr
      rw [hg] at hg'; obtain rfl := Option.some.inj hg'
      have hok := hG k g hp hg
      have hns := hs k g rfl hg
      by_cases hd : g.md = .dead
      · rw [hd] at hx; cases hx
      split at hx
      · exact absurd (by assumption) hd
      · rename_i h _ _
        obtain rfl := Option.some.inj hx
        unfold GrOK at hok
        split at hok
        · rename_i he; exact absurd he hd
        · rename_i he; exact absurd he hns
        · rw [hv hd]
          obtain ⟨a, len, cap, h1, h2, h3, h5⟩ := hok
          refine castE_repV h ?_
          rw [h1]
          show Rep w G.ow (.sl g.t) g.xs [.slice a len cap]
          refine ⟨a, len, cap, rfl, h2, h3, fun hne => ?_⟩
          have hcp : 0 < cap := by
            rcases Nat.eq_zero_or_pos cap with hz | hz
            · have : g.xs.length = 0 := by omega
              exact absurd (List.length_eq_zero_iff.1 this) hne
            · exact hz
          obtain ⟨b, o, rfl, hrow, _⟩ := h5 hcp
          exact ⟨b, o, rfl, row_mono (fun _ _ h => h) (fun o h => ⟨h.1, rfl⟩) hrow⟩
      · cases hx
  | _ => simp [rdCell] at hx

theorem asmN_len {α : Type} {one : List T → Option (α × List T)} {sz : Nat} (h1 : ∀ l x r, one l = some (x, r) → l.length = sz + r.length) :
    ∀ (n : Nat) (l : List T) (xs : List α) (r : List T), asmN one n l = some (xs, r) → l.length = n * sz + r.length ∧ xs.length = n := by
  intro n
  induction n with
  | zero => intro l xs r h; obtain ⟨rfl, rfl⟩ := some_pair h; simp
  | succ n ih =>
    intro l xs r h
    simp only [asmN] at h
    split at h
    · rename_i x l' ho
      split at h
      · rename_i xs' r' ha
        obtain ⟨rfl, rfl⟩ := some_pair h
        obtain ⟨h2, h3⟩ := ih _ _ _ ha
        rw [h1 _ _ _ ho, h2, Nat.succ_mul]
        exact ⟨by omega, by simp [h3]⟩
      · cases h
    · cases h

theorem asm_scalar {gr : List (Nat × Gr)} {t : Ty} {l : List T} {x : El t} {r : List T} (ha : t.isAgg = false) (h : asm gr t l = some (x, r)) :
    ∃ c, l = c :: r ∧ rdCell gr t c = some x := by
  cases t <;> first | (simp [Ty.isAgg] at ha; done) | skip
  all_goals
    cases l with
    | nil => simp [asm, asm1] at h
    | cons c l =>
      simp only [asm, asm1] at h
      split at h
      · rename_i y hy
        obtain ⟨rfl, rfl⟩ := some_pair h
        exact ⟨c, rfl, hy⟩
      · cases h

theorem asm_len {gr : List (Nat × Gr)} : ∀ (t : Ty) (l : List T) (x : El t) (r : List T), asm gr t l = some (x, r) → l.length = t.size + r.length ∧ r = l.drop t.size := by
  intro t
  induction t with
  | unit => intro l x r h; obtain ⟨_, rfl⟩ := some_pair h; simp [Ty.size]
  | pair a b iha ihb =>
    intro l x r h
    simp only [asm] at h
    split at h
    · rename_i y l1 h1
      split at h
      · rename_i z l2 h2
        obtain ⟨_, rfl⟩ := some_pair h
        obtain ⟨e1, e2⟩ := iha _ _ _ h1
        obtain ⟨e3, e4⟩ := ihb _ _ _ h2
        refine ⟨by simp only [Ty.size]; omega, ?_⟩
        rw [e4, e2, List.drop_drop]; rfl
      · cases h
    · cases h
  | arr n t ih =>
    intro l x r h
    simp only [asm] at h
    have hl := asmN_len (sz := t.size) (fun l x r h => (ih l x r h).1) n l x r h
    refine ⟨hl.1, ?_⟩
    clear hl
    show r = l.drop (n * t.size)
    induction n generalizing l with
    | zero => obtain ⟨_, rfl⟩ := some_pair h; simp
    | succ n ihn =>
      simp only [asmN] at h
      split at h
      · rename_i y l' ho
        split at h
        · rename_i xs' r' ha
          obtain ⟨_, rfl⟩ := some_pair h
          rw [ihn l' xs' ha, (ih _ _ _ ho).2, List.drop_drop, Nat.succ_mul, Nat.add_comm]
        · cases h
      · cases h
  | int k => intro l x r h; obtain ⟨c, rfl, _⟩ := asm_scalar rfl h; simp [Ty.size]; omega
  | bool => intro l x r h; obtain ⟨c, rfl, _⟩ := asm_scalar rfl h; simp [Ty.size]; omega
  | str => intro l x r h; obtain ⟨c, rfl, _⟩ := asm_scalar rfl h; simp [Ty.size]; omega
  | err => intro l x r h; obtain ⟨c, rfl, _⟩ := asm_scalar rfl h; simp [Ty.size]; omega
  | sl t _ => intro l x r h; obtain ⟨c, rfl, _⟩ := asm_scalar rfl h; simp [Ty.size]; omega

/-- cells that read as data are data -/
theorem asm_rep {G : Gh} {m : Mem} {p : Nat → Prop} (hG : ∀ k g, p k → lk m.gr k = some g → GrOK G w k g) : ∀ (t : Ty) (l : List T) (x : El t) (r : List T) (vs : List Value), asm m.gr t l = some (x, r) →
    vs.length = t.size → (∀ j (h : j < vs.length), Rel1 G m p w (getT l j) vs[j]) → (∀ j, j < t.size → ∀ k g, getT l j = .own k → lk m.gr k = some g → g.md ≠ .excl) → Rep w G.ow t x vs := by
  intro t
  have hsc : ∀ (t : Ty), t.isAgg = false → ∀ (l : List T) (x : El t) (r : List T) (vs : List Value), asm m.gr t l = some (x, r) →
      vs.length = t.size → (∀ j (h : j < vs.length), Rel1 G m p w (getT l j) vs[j]) → (∀ j, j < t.size → ∀ k g, getT l j = .own k → lk m.gr k = some g → g.md ≠ .excl) → Rep w G.ow t x vs := by
    intro t ha l x r vs h hl hr hs
    obtain ⟨c, rfl, hx⟩ := asm_scalar ha h
    have h1 : t.size = 1 := by cases t <;> first | rfl | simp [Ty.isAgg] at ha
    rw [h1] at hl
    match vs, hl with
    | [v], _ =>
      have := rd_rep hG (hr 0 (by simp)) hx (fun k g he hg => hs 0 (by omega) k g he hg)
      exact (repV_one ha this).1
  induction t with
  | int k => exact hsc _ rfl
  | bool => exact hsc _ rfl
  | str => exact hsc _ rfl
  | err => exact hsc _ rfl
  | sl t _ => exact hsc _ rfl
  | unit => intro l x r vs _ hl _ _; exact List.length_eq_zero_iff.1 hl
  | pair a b iha ihb =>
    intro l x r vs h hl hr hs
    simp only [asm] at h
    split at h
    · rename_i y l1 h1
      split at h
      · rename_i z l2 h2
        obtain ⟨rfl, _⟩ := some_pair h
        obtain ⟨e1, e2⟩ := asm_len _ _ _ _ h1
        simp only [Ty.size] at hl hs
        refine ⟨vs.take a.size, vs.drop a.size, (List.take_append_drop _ _).symm, ?_, ?_⟩
        · refine iha l y l1 _ h1 (by rw [List.length_take]; omega) (fun j hj => ?_) (fun j hj => hs j (by omega))
          rw [List.length_take] at hj
          rw [List.getElem_take]; exact hr j (by omega)
        · refine ihb l1 z l2 _ h2 (by rw [List.length_drop]; omega) (fun j hj => ?_) (fun j hj k g he => hs (a.size + j) (by omega) k g (by rw [← getT_drop, ← e2]; exact he))
          rw [List.length_drop] at hj
          rw [List.getElem_drop, e2, getT_drop]; exact hr _ (by omega)
      · cases h
    · cases h
  | arr n t ih =>
    intro l x r vs h hl hr hs
    simp only [asm] at h
    have hn := (asmN_len (sz := t.size) (fun l x r h => (asm_len t l x r h).1) n l x r h).2
    refine ⟨hn, ?_⟩
    simp only [Ty.size] at hl hs
    clear hn
    induction n generalizing l vs r with
    | zero =>
      obtain ⟨rfl, _⟩ := some_pair h
      exact List.length_eq_zero_iff.1 (by omega)
    | succ n ihn =>
      simp only [asmN] at h
      split at h
      · rename_i y l1 h1
        split at h
        · rename_i z l2 h2
          obtain ⟨rfl, _⟩ := some_pair h
          obtain ⟨e1, e2⟩ := asm_len _ _ _ _ h1
          rw [Nat.succ_mul] at hl hs
          refine ⟨vs.take t.size, vs.drop t.size, (List.take_append_drop _ _).symm, ?_, ?_⟩
          · refine ih l y l1 _ h1 (by rw [List.length_take]; omega) (fun j hj => ?_) (fun j hj => hs j (by omega))
            rw [List.length_take] at hj
            rw [List.getElem_take]; exact hr j (by omega)
          · refine ihn l1 z _ _ h2 (by rw [List.length_drop]; omega) (fun j hj => ?_) (fun j hj k g he => hs (t.size + j) (by omega) k g (by rw [← getT_drop, ← e2]; exact he))
            rw [List.length_drop] at hj
            rw [List.getElem_drop, e2, getT_drop]; exact hr _ (by omega)
        · cases h
      · cases h

end
end Mini

/- Fields and parts of data. -/
namespace Mini
open Go

section
variable {w : World} {ow : OwF}

theorem fieldVal_spec : ∀ (t : Ty) (x : El t) (f : Nat) (u : Ty) (y : El u), fieldVal t x f = some ⟨u, y⟩ →
    ∃ off, fieldTy t f = some (off, u) ∧ off + u.size ≤ t.size ∧ ∀ l, Rep w ow t x l → Rep w ow u y ((l.drop off).take u.size) := by
  intro t
  induction t with
  | pair a b iha ihb =>
    intro x f u y h
    cases f with
    | zero =>
      simp only [fieldVal, Option.some.injEq] at h
      obtain ⟨rfl, h⟩ := Sigma.mk.inj h
      obtain rfl := eq_of_heq h
      refine ⟨0, rfl, by simp [Ty.size], fun l hl => ?_⟩
      obtain ⟨l1, l2, rfl, h1, h2⟩ := hl
      have := rep_len _ _ _ h1
      rw [List.drop_zero, ← this, List.take_left]; exact h1
    | succ f =>
      simp only [fieldVal] at h
      obtain ⟨off, h1, h2, h3⟩ := ihb x.2 f u y h
      refine ⟨a.size + off, by simp only [fieldTy, h1], by simp only [Ty.size]; omega, fun l hl => ?_⟩
      obtain ⟨l1, l2, rfl, e1, e2⟩ := hl
      have hl1 := rep_len _ _ _ e1
      rw [← List.drop_drop, ← hl1, List.drop_left]; exact h3 _ e2
  | _ => intro x f u y h; simp [fieldVal] at h

theorem sub0_spec {t : Ty} {x : El t} {off : Nat} {u : Ty} {y : El u} (h : sub0 t x off u = some y) :
    off + u.size ≤ t.size ∧ ∀ l, Rep w ow t x l → Rep w ow u y ((l.drop off).take u.size) := by
  unfold sub0 at h
  split at h
  · rename_i he _
    obtain rfl := Option.some.inj h
    subst he
    refine ⟨by simp, fun l hl => ?_⟩
    rw [List.drop_zero, ← rep_len _ _ _ hl, List.take_length]; exact hl
  · cases h

theorem subVal_spec : ∀ (t : Ty) (x : El t) (off : Nat) (u : Ty) (y : El u), subVal t x off u = some y →
    off + u.size ≤ t.size ∧ ∀ l, Rep w ow t x l → Rep w ow u y ((l.drop off).take u.size) := by
  intro t
  induction t with
  | pair a b iha ihb =>
    intro x off u y h
    simp only [subVal] at h
    split at h
    · rename_i z hz
      obtain rfl := Option.some.inj h
      exact sub0_spec hz
    · split at h
      · rename_i hlt
        obtain ⟨h1, h2⟩ := iha x.1 _ u y h
        refine ⟨by simp only [Ty.size]; omega, fun l hl => ?_⟩
        obtain ⟨l1, l2, rfl, e1, e2⟩ := hl
        have hl1 := rep_len _ _ _ e1
        have := h2 l1 e1
        rwa [List.drop_append_of_le_length (by omega), List.take_append_of_le_length (by rw [List.length_drop]; omega)]
      · rename_i hlt
        obtain ⟨h1, h2⟩ := ihb x.2 _ u y h
        refine ⟨by simp only [Ty.size]; omega, fun l hl => ?_⟩
        obtain ⟨l1, l2, rfl, e1, e2⟩ := hl
        have hl1 := rep_len _ _ _ e1
        have := h2 l2 e2
        rw [List.drop_append, List.drop_of_length_le (by omega), List.nil_append, hl1]
        exact this
  | _ => intro x off u y h; simp only [subVal] at h; exact sub0_spec h

theorem splice_left {l1 l2 r : List Value} {off n : Nat} (h : off + r.length ≤ l1.length) (hn : n = off + r.length) : (l1 ++ l2).take off ++ r ++ (l1 ++ l2).drop n = (l1.take off ++ r ++ l1.drop n) ++ l2 := by
  subst hn
  rw [List.take_append_of_le_length (by omega), List.drop_append_of_le_length (by omega)]; simp
theorem splice_right {l1 l2 r : List Value} {off n : Nat} (h : l1.length ≤ off) (hn : n = off + r.length) : (l1 ++ l2).take off ++ r ++ (l1 ++ l2).drop n = l1 ++ (l2.take (off - l1.length) ++ r ++ l2.drop (n - l1.length)) := by
  subst hn
  rw [List.take_append, List.take_of_length_le h, List.drop_append, List.drop_of_length_le (by omega)]; simp

theorem set0_spec {t : Ty} {off : Nat} {u : Ty} {y : El u} {z : El t} (h : set0 t off u y = some z) :
    off + u.size ≤ t.size ∧ ∀ (x : El t) l r, Rep w ow t x l → Rep w ow u y r → Rep w ow t z (l.take off ++ r ++ l.drop (off + u.size)) := by
  unfold set0 at h
  split at h
  · rename_i he _
    obtain rfl := Option.some.inj h
    subst he
    refine ⟨by simp, fun x l r hl hr => ?_⟩
    rw [Nat.zero_add, ← rep_len _ _ _ hl, List.drop_length, List.take_zero, List.nil_append, List.append_nil]
    exact hr
  · cases h

theorem setSub_spec : ∀ (t : Ty) (x : El t) (off : Nat) (u : Ty) (y : El u) (z : El t), setSub t x off u y = some z →
    off + u.size ≤ t.size ∧ ∀ l r, Rep w ow t x l → Rep w ow u y r → Rep w ow t z (l.take off ++ r ++ l.drop (off + u.size)) := by
  intro t
  induction t with
  | pair a b iha ihb =>
    intro x off u y z h
    simp only [setSub] at h
    split at h
    · rename_i z1 hz
      obtain rfl := Option.some.inj h
      exact ⟨(set0_spec (w := w) (ow := ow) hz).1, fun l r hl hr => (set0_spec hz).2 x l r hl hr⟩
    · split at h
      · rename_i hlt
        split at h
        · rename_i z1 hz
          obtain rfl := Option.some.inj h
          obtain ⟨h1, h2⟩ := iha x.1 _ u y z1 hz
          refine ⟨by simp only [Ty.size]; omega, fun l r hl hr => ?_⟩
          obtain ⟨l1, l2, rfl, e1, e2⟩ := hl
          have hl1 := rep_len _ _ _ e1
          have hr1 := rep_len _ _ _ hr
          rw [splice_left (by omega) (by omega)]
          exact ⟨_, _, rfl, h2 l1 r e1 hr, e2⟩
        · cases h
      · rename_i hlt
        split at h
        · rename_i z1 hz
          obtain rfl := Option.some.inj h
          obtain ⟨h1, h2⟩ := ihb x.2 _ u y z1 hz
          refine ⟨by simp only [Ty.size]; omega, fun l r hl hr => ?_⟩
          obtain ⟨l1, l2, rfl, e1, e2⟩ := hl
          have hl1 := rep_len _ _ _ e1
          have hr1 := rep_len _ _ _ hr
          rw [splice_right (by omega) (by omega), hl1, show off + u.size - a.size = off - a.size + u.size by omega]
          exact ⟨_, _, rfl, e1, h2 l2 r e2 hr⟩
        · cases h
  | _ => intro x off u y z h; simp only [setSub] at h; exact ⟨(set0_spec (w := w) (ow := ow) h).1, fun l r hl hr => (set0_spec h).2 x l r hl hr⟩

theorem setField_spec : ∀ (t : Ty) (x : El t) (f : Nat) (u : Ty) (y : El u) (z : El t), setField t x f u y = some z →
    ∃ off, fieldTy t f = some (off, u) ∧ off + u.size ≤ t.size ∧ ∀ l r, Rep w ow t x l → Rep w ow u y r → Rep w ow t z (l.take off ++ r ++ l.drop (off + u.size)) := by
  intro t
  induction t with
  | pair a b iha ihb =>
    intro x f u y z h
    cases f with
    | zero =>
      simp only [setField] at h
      split at h
      · rename_i he _
        obtain rfl := Option.some.inj h
        subst he
        refine ⟨0, rfl, by simp [Ty.size], fun l r hl hr => ?_⟩
        obtain ⟨l1, l2, rfl, e1, e2⟩ := hl
        have hl1 := rep_len _ _ _ e1
        rw [Nat.zero_add, ← hl1, List.drop_left]
        exact ⟨_, _, by simp, hr, e2⟩
      · cases h
    | succ f =>
      simp only [setField] at h
      split at h
      · rename_i z1 hz
        obtain rfl := Option.some.inj h
        obtain ⟨off, h1, h2, h3⟩ := ihb x.2 f u y z1 hz
        refine ⟨a.size + off, by simp only [fieldTy, h1], by simp only [Ty.size]; omega, fun l r hl hr => ?_⟩
        obtain ⟨l1, l2, rfl, e1, e2⟩ := hl
        have hl1 := rep_len _ _ _ e1
        have hr1 := rep_len _ _ _ hr
        rw [splice_right (by omega) (by omega), hl1, show a.size + off - a.size = off by omega, show a.size + off + u.size - a.size = off + u.size by omega]
        exact ⟨_, _, rfl, e1, h3 l2 r e2 hr⟩
      · cases h
  | _ => intro x f u y z h; simp [setField] at h

end

/-- a struct's field in the program's table -/
theorem fitF_field {P : Program} : ∀ (t : Ty) (fs : List Field) (base f off : Nat) (u : Ty), fitF P t fs base = true → fieldTy t f = some (off, u) →
    ∃ fd, fs[f]? = some fd ∧ fd.offset = base + off ∧ fitB P u fd.type = true := by
  intro t
  induction t with
  | pair a b iha ihb =>
    intro fs base f off u h hf
    cases fs with
    | nil => simp [fitF] at h
    | cons g fs =>
      simp only [fitF, Bool.and_eq_true, beq_iff_eq] at h
      obtain ⟨⟨h1, h2⟩, h3⟩ := h
      cases f with
      | zero =>
        simp only [fieldTy, Option.some.injEq, Prod.mk.injEq] at hf
        obtain ⟨rfl, rfl⟩ := hf
        exact ⟨g, rfl, by omega, h2⟩
      | succ f =>
        simp only [fieldTy] at hf
        split at hf
        · rename_i o u' hf'
          simp only [Option.some.injEq, Prod.mk.injEq] at hf
          obtain ⟨rfl, rfl⟩ := hf
          obtain ⟨fd, e1, e2, e3⟩ := ihb fs _ f o u' h3 hf'
          exact ⟨fd, by simpa using e1, by omega, e3⟩
        · cases hf
  | _ => intro fs base f off u _ hf; simp [fieldTy] at hf

theorem fit_field {P : Program} {t : Ty} {tid f off : Nat} {u : Ty} (h : fitB P t tid = true) (hf : fieldTy t f = some (off, u)) :
    ∃ fs fd, P.underlying tid = some (.struct fs) ∧ fs[f]? = some fd ∧ fd.offset = off ∧ fitB P u fd.type = true := by
  cases t with
  | pair a b =>
    unfold fitB at h
    simp only [Bool.and_eq_true] at h
    obtain ⟨_, h⟩ := h
    split at h
    · rename_i fs hu
      split at h
      · rename_i g l hl
        simp only [Bool.and_eq_true, beq_iff_eq] at h
        have hF : fitF P (.pair a b) fs.toList 0 = true := by
          rw [hl]; simp only [fitF, Bool.and_eq_true, beq_iff_eq]
          exact ⟨⟨h.1.1, h.1.2⟩, by simpa using h.2⟩
        obtain ⟨fd, e1, e2, e3⟩ := fitF_field _ _ 0 f off u hF hf
        exact ⟨fs, fd, hu, by simpa using e1, by omega, e3⟩
      · cases h
    · cases h
  | _ => simp [fieldTy] at hf

theorem fit_size {P : Program} {t : Ty} {tid : Nat} (h : fitB P t tid = true) : ∃ i, P.info? tid = some i ∧ i.size = t.size := by
  obtain ⟨i, _, h1, h2, _⟩ := info_of (fit_info h)
  exact ⟨i, h1, h2⟩
theorem fit_slice {P : Program} {t : Ty} {tid : Nat} (h : fitB P (.sl t) tid = true) : ∃ e, P.underlying tid = some (.slice e) ∧ fitB P t e = true := by
  unfold fitB at h
  simp only [Bool.and_eq_true] at h
  obtain ⟨_, h⟩ := h
  split at h
  · rename_i e hu; exact ⟨e, hu, h⟩
  · cases h
theorem fit_arr {P : Program} {t : Ty} {n tid : Nat} (h : fitB P (.arr n t) tid = true) : ∃ e, P.underlying tid = some (.array n e) ∧ fitB P t e = true := by
  unfold fitB at h
  simp only [Bool.and_eq_true] at h
  obtain ⟨_, h⟩ := h
  split at h
  · rename_i m e hu
    simp only [Bool.and_eq_true, beq_iff_eq] at h
    obtain ⟨rfl, h⟩ := h
    exact ⟨e, hu, h⟩
  · cases h
theorem fit_int {P : Program} {k : IntKind} {tid : Nat} (h : fitB P (.int k) tid = true) : P.underlying tid = some (.int k) := by
  unfold fitB at h
  simp only [Bool.and_eq_true] at h
  obtain ⟨_, h⟩ := h
  split at h
  · rename_i k' hu; rw [hu, of_decide_eq_true h]
  · cases h
theorem fit_str {P : Program} {tid : Nat} (h : fitB P .str tid = true) : P.underlying tid = some .string := by
  unfold fitB at h
  simp only [Bool.and_eq_true] at h
  obtain ⟨_, h⟩ := h
  split at h
  · rename_i hu; exact hu
  · cases h

end Mini

/- The soundness of operations that leave memory as it is. -/
namespace Mini
open Go

/-- what an outcome lays, and the memory behind it -/
def Out (r : OpRes) (κ : Nat) (m : Mem) (p : Nat → Prop) (u : T) (m' : Mem) (p' : Nat → Prop) : Prop :=
  match r with
  | .val ks v => u = v ∧ m' = m.share ks ∧ p' = p
  | .vpart ks _ x f => ∃ y, x = some y ∧ u = f y ∧ m' = m.share ks ∧ p' = p
  | .newB ks cs => u = .addr κ 0 ∧ NewKey (m.share ks) m' p p' κ ∧ lk m'.boxes κ = some cs ∧ lk m'.gr κ = lk (m.share ks).gr κ ∧ (lk m'.gr κ = none ∨ p κ)
  | .newG ks g => u = .own κ ∧ NewKey (m.share ks) m' p p' κ ∧ lk m'.gr κ = some g ∧ lk m'.boxes κ = none
  | .gpart ks _ x f => ∃ y, x = some y ∧ u = .own κ ∧ NewKey (m.share ks) m' p p' κ ∧ lk m'.gr κ = some (f y) ∧ lk m'.boxes κ = none
  | .ok v m1 => u = v ∧ m' = m1 ∧ p' = p
  | .anew k _ x f => ∃ y, x = some y ∧ u = .own κ ∧ p' = p ∧ p κ ∧ lk m.gr κ = none ∧ lk m.boxes κ = none ∧ m' = ⟨m.boxes, (κ, f y) :: up m.gr k killG⟩
  | .alt c r s => if c = true then Out r κ m p u m' p' else Out s κ m p u m' p'
  | .part _ x f => ∃ y, x = some y ∧ u = (f y).1 ∧ m' = (f y).2 ∧ p' = p ∧ (∀ k, p k) ∧ freeK κ m.gr = true ∧ freeK κ m.boxes = true
  | .bad => False

/-- an operation does what its outcome says -/
def OpOK (E : Env) (B : Base) (κ : Nat) (G : Gh) (m : Mem) (p : Nat → Prop) (w : World) (tm : List T) (a : Act) (o : Oper) (r : OpRes) : Prop :=
  ∀ u m' p', Out r κ m p u m' p' → ∀ (next : Act → World → Prop) (Q : Exit → Act → World → Prop),
    (∀ v w' G', RelAll E B G' m' p' w' tm a → RelT G' m' p' w' u v → next (a.put o.dst v) w') → o.wp E.P a w next Q

def Runs (E : Env) (a : Act) (o : Oper) (w : World) (v : Value) (w' : World) : Prop := (execOp a.eval o).run E.P w = .ok (.value v) w'

theorem wp_runs {E : Env} {a : Act} {o : Oper} {w w' : World} {v : Value} {next : Act → World → Prop} {Q : Exit → Act → World → Prop}
    (h : Runs E a o w v w') (hn : next (a.put o.dst v) w') : o.wp E.P a w next Q := by
  unfold Oper.wp; rw [h]; exact hn

theorem runs_v {E : Env} {a : Act} {o : Oper} {w w' : World} {v : Value} {s : Sem Value} (he : execOp a.eval o = (do pure (.value (← s)))) (h : s.run E.P w = .ok v w') : Runs E a o w v w' := by
  unfold Runs; rw [he, run_bindM h]; rfl

section
variable {E : Env} {B : Base} {κ : Nat} {G : Gh} {m : Mem} {p : Nat → Prop} {w : World} {tm : List T} {a : Act} {o : Oper}

theorem ok_bad : OpOK E B κ G m p w tm a o .bad := fun _ _ _ h => h.elim

theorem ok_alt {c : Bool} {r s : OpRes} (hr : c = true → OpOK E B κ G m p w tm a o r) (hs : c = false → OpOK E B κ G m p w tm a o s) : OpOK E B κ G m p w tm a o (.alt c r s) := by
  intro u m' p' h
  cases c with
  | true => exact hr rfl u m' p' h
  | false => exact hs rfl u m' p' h

theorem ok_val {ks : List Nat} {u : T} (h : RelAll E B G m p w tm a) (hks : ∀ k ∈ ks, p k)
    (H : ∀ G', RelAll E B G' (m.share ks) p w tm a → MemLe G m p G' (m.share ks) p → Keeps w G.ow w G'.ow → ∃ v w', Quiet w w' ∧ Runs E a o w v w' ∧ RelT G' (m.share ks) p w u v) :
    OpOK E B κ G m p w tm a o (.val ks u) := by
  rintro u' m' p' ⟨rfl, rfl, rfl⟩ next Q hn
  obtain ⟨G', h', hle, hk, _, _, _⟩ := share_all ks h hks
  obtain ⟨v, w', hq, hr, hrel⟩ := H G' h' hle hk
  exact wp_runs hr (hn v w' G' (quiet_rel h' hq) (relT_mono (MemLe.refl _ _ _) (hq.keeps _) hrel))

theorem ok_vpart {ks : List Nat} {τ : Ty} {x : Option (El τ)} {f : El τ → T} (h : RelAll E B G m p w tm a) (hks : ∀ k ∈ ks, p k)
    (H : ∀ y, x = some y → ∀ G', RelAll E B G' (m.share ks) p w tm a → MemLe G m p G' (m.share ks) p → Keeps w G.ow w G'.ow → ∃ v w', Quiet w w' ∧ Runs E a o w v w' ∧ RelT G' (m.share ks) p w (f y) v) :
    OpOK E B κ G m p w tm a o (.vpart ks τ x f) := by
  rintro u' m' p' ⟨y, hy, rfl, rfl, rfl⟩ next Q hn
  obtain ⟨G', h', hle, hk, _, _, _⟩ := share_all ks h hks
  obtain ⟨v, w', hq, hr, hrel⟩ := H y hy G' h' hle hk
  exact wp_runs hr (hn v w' G' (quiet_rel h' hq) (relT_mono (MemLe.refl _ _ _) (hq.keeps _) hrel))

/-- the same where nothing is shared -/
theorem ok_val0 {u : T} (h : RelAll E B G m p w tm a) {v : Value} (hr : Runs E a o w v w) (hrel : RelT G m p w u v) : OpOK E B κ G m p w tm a o (.val [] u) :=
  ok_val h (fun _ hk => by simp at hk) fun G' h' hle hk => ⟨v, w, Quiet.refl w, hr, relT_mono hle hk hrel⟩
theorem ok_vpart0 {τ : Ty} {x : Option (El τ)} {f : El τ → T} (h : RelAll E B G m p w tm a) (H : ∀ y, x = some y → ∃ v, Runs E a o w v w ∧ RelT G m p w (f y) v) :
    OpOK E B κ G m p w tm a o (.vpart [] τ x f) :=
  ok_vpart h (fun _ hk => by simp at hk) fun y hy G' h' hle hk => by
    obtain ⟨v, hr, hrel⟩ := H y hy
    exact ⟨v, w, Quiet.refl w, hr, relT_mono hle hk hrel⟩

/-! ### operands -/

theorem relT_const (v : Value) : RelT G m p w (constT v) v := by
  unfold constT
  split <;> first | trivial | exact relT_of1 rfl | skip
  exact relT_of1 (show RepV w G.ow .err _ _ from ⟨_, rfl, .inl ⟨rfl, rfl⟩⟩)

/-- an operand, as the guards that hold let it be seen -/
theorem opdC_rel (h : RelAll E B G m p w tm a) {ch : List (Nat × Bool)} (hch : ∀ s b, (s, b) ∈ ch → a.tmps[s]? = some (.bool b)) (x : Operand) :
    RelT G m p w (opdC E tm ch x) (a.eval x) := by
  unfold opdC
  cases x with
  | tmp t =>
    simp only [opd, Act.eval]
    by_cases ht : t < tm.length
    · have hr := h.tms.rel t ht
      cases hg : getT tm t with
      | cnd s b u =>
        rw [hg] at hr
        simp only [unc]
        split
        · rename_i he
          exact hr.1 (hch s b (by simpa using he))
        · exact trivial
      | _ => rw [hg] at hr; exact hr
    · rw [getT_ge tm t (Nat.le_of_not_lt ht)]; exact trivial
  | const v =>
    simp only [opd, Act.eval]
    have := relT_const (G := G) (m := m) (p := p) (w := w) v
    have hn : ∀ s b u, constT v ≠ .cnd s b u := by
      intro s b u hh; unfold constT at hh; split at hh <;> cases hh
    generalize constT v = c at this hn ⊢
    cases c <;> first | exact this | exact absurd rfl (hn _ _ _)
  | global g =>
    simp only [opd, Act.eval]
    split
    · rename_i t x hx
      exact relT_of1 (show Rel1 G m p w (.rptr t x) _ from ⟨g, 0, rfl, (h.glob g t x hx).1⟩)
    · exact trivial
  | func f =>
    simp only [opd, Act.eval]
    exact relT_of1 (show Rel1 G m p w (.clo f []) _ from ⟨#[], rfl, trivial⟩)

/-! ### the shapes of values -/

theorem rel_int {k : IntKind} {n : Int} {v : Value} (h : RelT G m p w (.dat (.int k) n) v) : v = .int k n := by
  have : Rep w G.ow (.int k) n [v] := h
  simpa [Rep] using this
theorem rel_bool {b : Bool} {v : Value} (h : RelT G m p w (.dat .bool b) v) : v = .bool b := by
  have : Rep w G.ow .bool b [v] := h
  simpa [Rep] using this
theorem rel_str {s : List UInt8} {v : Value} (h : RelT G m p w (.dat .str s) v) : v = .string ⟨⟨s⟩⟩ := by
  have : Rep w G.ow .str s [v] := h
  simpa [Rep] using this
theorem rel_sl {t : Ty} {xs : List (El t)} {v : Value} (h : RelT G m p w (.dat (.sl t) xs) v) : ∃ ad len cap, v = .slice ad len cap ∧ len = xs.length ∧ len ≤ cap ∧
    (xs ≠ [] → ∃ b o, ad = some ⟨b, o, none⟩ ∧ Row w (fun b o => G.ow b o = .prot) (fun x l => Rep w G.ow t x l) t.size b o xs) := by
  have : Rep w G.ow (.sl t) xs [v] := h
  obtain ⟨ad, len, cap, h1, h2⟩ := this
  exact ⟨ad, len, cap, by simpa using h1, h2⟩
theorem dat_int {k : IntKind} {n : Int} : RelT G m p w (.dat (.int k) n) (.int k n) := relT_of1 (show Rep w G.ow (.int k) n _ from rfl)
theorem dat_bool {b : Bool} : RelT G m p w (.dat .bool b) (.bool b) := relT_of1 (show Rep w G.ow .bool b _ from rfl)
theorem dat_str {s : List UInt8} : RelT G m p w (.dat .str s) (.string ⟨⟨s⟩⟩) := relT_of1 (show Rep w G.ow .str s _ from rfl)
theorem dat_rep {t : Ty} {x : El t} {v : Value} (h : RepV w G.ow t x v) : RelT G m p w (.dat t x) v := relT_of1 h

/-! ### binary operations -/

theorem run_binop {op : BinOp} {t t' : TypeId} {x y : Operand} {v : Value} (ho : o.op = .binOp op t x y t')
    (hg : (eqGuard op t x y (a.eval x) (a.eval y)).run E.P w = .ok () w) (hr : (binOp op t (a.eval x) (a.eval y)).run E.P w = .ok v w) : Runs E a o w v w := by
  refine runs_v (s := do eqGuard op t x y (a.eval x) (a.eval y); binOp op t (a.eval x) (a.eval y)) (by unfold execOp; rw [ho]) ?_
  rw [run_bindM hg]; exact hr

theorem beq_list (x y : List UInt8) : ((⟨⟨x⟩⟩ : ByteArray).toList == (⟨⟨y⟩⟩ : ByteArray).toList) = eqS x y := by
  rw [ByteArray.toList_eq, ByteArray.toList_eq]
  unfold eqS
  by_cases h : x = y <;> simp [h]

theorem binT_int {op : BinOp} {k k' : IntKind} {n n' : Int} {t t' : TypeId} {x y : Operand} (h : RelAll E B G m p w tm a) (ho : o.op = .binOp op t x y t')
    (hx : a.eval x = .int k n) (hy : a.eval y = .int k' n') : OpOK E B κ G m p w tm a o (binT E t op (isLit y) (.dat (.int k) n) (.dat (.int k') n')) := by
  have hg : (eqGuard op t x y (a.eval x) (a.eval y)).run E.P w = .ok () w := by
    rw [hx, hy]; cases op <;> rfl
  have main : ∀ {v : Value} {u : T}, (binOp op t (.int k n) (.int k' n')).run E.P w = .ok v w → RelT G m p w u v → OpOK E B κ G m p w tm a o (.val [] u) :=
    fun hr hrel => ok_val0 h (run_binop ho hg (by rw [hx, hy]; exact hr)) hrel
  have part : ∀ {τ : Ty} {z : Option (El τ)} {f : El τ → T}, (∀ q, z = some q → ∃ v, (binOp op t (.int k n) (.int k' n')).run E.P w = .ok v w ∧ RelT G m p w (f q) v) → OpOK E B κ G m p w tm a o (.vpart [] τ z f) :=
    fun H => ok_vpart0 h fun q hq => by
      obtain ⟨v, hr, hrel⟩ := H q hq
      exact ⟨v, run_binop ho hg (by rw [hx, hy]; exact hr), hrel⟩
  unfold binT
  cases op with
  | shl =>
    refine part fun q hq => ⟨.int k q, ?_, dat_int⟩
    unfold shlI at hq
    split at hq
    · cases hq
    · rename_i h0; obtain rfl := Option.some.inj hq
      simp [binOp, Op.shift, h0, pure, Sem.run]
  | shr =>
    refine part fun q hq => ⟨.int k q, ?_, dat_int⟩
    unfold shrI at hq
    split at hq
    · cases hq
    · rename_i h0; obtain rfl := Option.some.inj hq
      simp [binOp, Op.shift, h0, pure, Sem.run]
  | quo =>
    simp only
    split
    · rename_i hk; subst hk
      refine part fun q hq => ⟨.int k q, ?_, dat_int⟩
      unfold quoI at hq
      split at hq
      · cases hq
      · rename_i h0; obtain rfl := Option.some.inj hq
        simp [binOp, Op.intDiv, h0, pure, Sem.run]
    · exact ok_bad
  | rem =>
    simp only
    split
    · rename_i hk; subst hk
      refine part fun q hq => ⟨.int k q, ?_, dat_int⟩
      unfold remI at hq
      split at hq
      · cases hq
      · rename_i h0; obtain rfl := Option.some.inj hq
        simp [binOp, Op.intDiv, h0, pure, Sem.run]
    · exact ok_bad
  | and | or | xor =>
    simp only
    split
    · rename_i hk; subst hk
      first
      | exact main (v := .int k (andI k n n')) (by simp [binOp, Op.intBits, pure, Sem.run, andI]) dat_int
      | exact main (v := .int k (orI k n n')) (by simp [binOp, Op.intBits, pure, Sem.run, orI]) dat_int
      | exact main (v := .int k (xorI k n n')) (by simp [binOp, Op.intBits, pure, Sem.run, xorI]) dat_int
    · exact ok_bad
  | add | sub | mul =>
    simp only
    split
    · rename_i hk; subst hk
      exact main (v := .int k _) (by simp [binOp, Op.intArith, pure, Sem.run]) dat_int
    · exact ok_bad
  | eql | neq | lss | leq | gtr | geq =>
    simp only
    split
    · rename_i hk; subst hk
      refine main (v := .bool _) (by simp only [binOp, Op.intCmp, if_neg, not_true, ne_eq, if_false, pure, Sem.run]; rfl) ?_
      first
      | exact dat_bool
      | (have hb : ∀ (b c : Bool), b = c → RelT G m p w (.dat .bool b) (.bool c) := by
          intro b c e; subst e; exact dat_bool
         refine hb _ _ ?_
         simp [beq_eq_decide])
    · exact ok_bad
  | andNot =>
    simp only
    split
    · exact ok_bad
    · exact ok_bad

end
end Mini

/- Comparisons of strings, bools, errors and structs. -/
namespace Mini
open Go

section
variable {P : Program} {w : World} {ow : OwF}

theorem joinV_scalar {t : Ty} {v : Value} (ha : t.isAgg = false) : joinV t [v] = v := by unfold joinV; rw [if_neg (by rw [ha]; simp)]; rfl

theorem run_part {tid off : Nat} {t : Ty} {l : List Value} (h : fitB P t tid = true) (hl : off + t.size ≤ l.length) :
    (part tid l.toArray off).run P w = .ok (joinV t ((l.drop off).take t.size)) w := by
  unfold part
  rw [run_bindM (run_isAgg h)]
  obtain ⟨i, hi, hs⟩ := fit_size h
  unfold joinV
  by_cases ha : t.isAgg = true
  · rw [if_pos ha, if_pos ha, run_bindM (run_sizeOf hi), hs]
    show Result.ok _ w = _
    congr 1
    simp only [List.extract_toArray]
    congr 1
    rw [List.extract_eq_take_drop, show off + t.size - off = t.size by omega]
  · rw [if_neg ha, if_neg ha]
    have h1 : t.size = 1 := by cases t <;> first | rfl | exact absurd rfl ha
    have hlt : off < l.length := by omega
    rw [show l.toArray[off]? = some l[off] by simp [hlt], h1]
    rw [List.drop_eq_getElem_cons hlt]
    rfl

theorem eqI_beq (x y : Int) : (x == y) = eqI x y := by
  unfold eqI
  by_cases h : x = y <;> simp [h]

theorem eq_run : ∀ (t : Ty), (∀ (tid d : Nat) (x y : El t) (l l' : List Value) (r : Bool), eqTB P t tid = true → t.depth ≤ d → Rep w ow t x l → Rep w ow t y l' → eqEl t x y = some r →
      (Op.equalIn (d + 1) tid (joinV t l) (joinV t l')).run P w = .ok r w) ∧
    (∀ (fs : List Field) (off d : Nat) (x y : El t) (pre pre' l l' : List Value) (r : Bool), eqTF P t fs off = true → t.depth ≤ d + 1 → pre.length = off → pre'.length = off → Rep w ow t x l → Rep w ow t y l' → eqEl t x y = some r →
      (Op.eqFields (d + 1) (pre ++ l).toArray (pre' ++ l').toArray fs).run P w = .ok r w) := by
  intro t
  induction t with
  | int k =>
    refine ⟨fun tid d x y l l' r hb _ hx hy hr => ?_, fun fs off d x y pre pre' l l' r hb => by cases fs <;> simp [eqTF] at hb⟩
    obtain rfl := hx; obtain rfl := hy
    unfold eqTB at hb
    simp only [eqEl, Option.some.injEq] at hr; subst hr
    rw [joinV_scalar rfl, joinV_scalar rfl]
    exact (run_equalIn_int w d tid k k (show Int from x) (show Int from y) (fit_int hb)).trans (congrArg (fun b => Result.ok b w) (eqI_beq x y))
  | bool =>
    refine ⟨fun tid d x y l l' r hb _ hx hy hr => ?_, fun fs off d x y pre pre' l l' r hb => by cases fs <;> simp [eqTF] at hb⟩
    obtain rfl := hx; obtain rfl := hy
    unfold eqTB at hb
    simp only [eqEl, Option.some.injEq] at hr; subst hr
    have hu : P.underlying tid = some .bool := by
      unfold fitB at hb
      simp only [Bool.and_eq_true] at hb
      obtain ⟨_, h⟩ := hb
      split at h
      · rename_i hu; exact hu
      · cases h
    rw [joinV_scalar rfl, joinV_scalar rfl]
    exact run_equalIn_bool' w d tid (show Bool from x) (show Bool from y) hu
  | str =>
    refine ⟨fun tid d x y l l' r hb _ hx hy hr => ?_, fun fs off d x y pre pre' l l' r hb => by cases fs <;> simp [eqTF] at hb⟩
    obtain rfl := hx; obtain rfl := hy
    unfold eqTB at hb
    simp only [eqEl, Option.some.injEq] at hr; subst hr
    rw [joinV_scalar rfl, joinV_scalar rfl]
    exact (run_equalIn_string w d tid ⟨⟨show List UInt8 from x⟩⟩ ⟨⟨show List UInt8 from y⟩⟩ (fit_str hb)).trans (congrArg (fun b => Result.ok b w) (beq_list x y))
  | err => exact ⟨fun tid d x y l l' r hb => by simp [eqTB] at hb, fun fs off d x y pre pre' l l' r hb => by cases fs <;> simp [eqTF] at hb⟩
  | sl t _ => exact ⟨fun tid d x y l l' r hb => by simp [eqTB] at hb, fun fs off d x y pre pre' l l' r hb => by cases fs <;> simp [eqTF] at hb⟩
  | arr n t _ => exact ⟨fun tid d x y l l' r hb => by simp [eqTB] at hb, fun fs off d x y pre pre' l l' r hb => by cases fs <;> simp [eqTF] at hb⟩
  | unit =>
    refine ⟨fun tid d x y l l' r hb => by simp [eqTB] at hb, fun fs off d x y pre pre' l l' r hb _ _ _ hx hy hr => ?_⟩
    simp only [eqEl, Option.some.injEq] at hr; subst hr
    cases fs with
    | nil => rfl
    | cons f fs => simp [eqTF] at hb
  | pair a b iha ihb =>
    have hstep : ∀ (fs : List Field) (off d : Nat) (x y : El (.pair a b)) (pre pre' l l' : List Value) (r : Bool), eqTF P (.pair a b) fs off = true → (Ty.pair a b).depth ≤ d + 1 → pre.length = off → pre'.length = off → Rep w ow (.pair a b) x l → Rep w ow (.pair a b) y l' → eqEl (.pair a b) x y = some r →
        (Op.eqFields (d + 1) (pre ++ l).toArray (pre' ++ l').toArray fs).run P w = .ok r w := by
      intro fs off d x y pre pre' l l' r hb hd hp hp' hx hy hr
      cases fs with
      | nil => simp [eqTF] at hb
      | cons f fs =>
        simp only [eqTF, Bool.and_eq_true, beq_iff_eq, bne_iff_ne] at hb
        obtain ⟨⟨⟨⟨h1, h2⟩, h3⟩, h4⟩, h5⟩ := hb
        obtain ⟨l1, l2, rfl, e1, e2⟩ := hx
        obtain ⟨l1', l2', rfl, e1', e2'⟩ := hy
        have n1 := rep_len _ _ _ e1
        have n1' := rep_len _ _ _ e1'
        simp only [Ty.depth] at hd
        simp only [eqEl] at hr
        cases ha : eqEl a x.1 y.1 with
        | none => rw [ha] at hr; cases hr
        | some q =>
          cases hbb : eqEl b x.2 y.2 with
          | none => rw [ha, hbb] at hr; cases hr
          | some q' =>
            rw [ha, hbb] at hr
            obtain rfl := Option.some.inj hr
            have hA := iha.1 f.type d x.1 y.1 l1 l1' q h4 (by omega) e1 e1' ha
            have hB := ihb.2 fs (off + a.size) d x.2 y.2 (pre ++ l1) (pre' ++ l1') l2 l2' q' h5 (by omega) (by rw [List.length_append]; omega) (by rw [List.length_append]; omega) e2 e2' hbb
            have p1 : (part f.type (pre ++ (l1 ++ l2)).toArray f.offset).run P w = .ok (joinV a l1) w := by
              rw [run_part h3 (by simp only [List.length_append]; omega)]
              congr 2
              rw [h2, ← hp, List.drop_left, ← n1, List.take_left]
            have p2 : (part f.type (pre' ++ (l1' ++ l2')).toArray f.offset).run P w = .ok (joinV a l1') w := by
              rw [run_part h3 (by simp only [List.length_append]; omega)]
              congr 2
              rw [h2, ← hp', List.drop_left, ← n1', List.take_left]
            unfold Op.eqFields
            rw [if_pos h1, run_bindM p1, run_bindM p2, run_bindM hA]
            cases q with
            | false => rfl
            | true =>
              simp only [Bool.not_true, Bool.false_eq_true, if_false, Bool.true_and]
              rw [List.append_assoc, List.append_assoc] at hB
              exact hB
    refine ⟨fun tid d x y l l' r hb hd hx hy hr => ?_, hstep⟩
    unfold eqTB at hb
    simp only [Bool.and_eq_true, Bool.not_eq_true'] at hb
    obtain ⟨hst, hb⟩ := hb
    split at hb
    · rename_i fs hu
      split at hb
      · rename_i f fl hl
        have hF : eqTF P (.pair a b) fs.toList 0 = true := by
          rw [hl]
          simp only [Bool.and_eq_true, beq_iff_eq, bne_iff_ne] at hb
          simp only [eqTF, Bool.and_eq_true, beq_iff_eq, bne_iff_ne]
          exact ⟨hb.1, by simpa using hb.2⟩
        have hfo : P.fieldsOf tid = fs := by unfold Program.fieldsOf; rw [hu]
        have hj : ∀ l : List Value, joinV (.pair a b) l = .agg l.toArray := fun l => rfl
        rw [hj, hj, run_equalIn_struct w d tid _ _ (by rw [hfo]; exact hu) hst, hfo]
        cases d with
        | zero => simp only [Ty.depth] at hd; omega
        | succ d =>
          have := hstep fs.toList 0 d x y [] [] l l' r hF hd rfl rfl hx hy hr
          simpa using this
      · cases hb
    · cases hb

end

section
variable {E : Env} {B : Base} {κ : Nat} {G : Gh} {m : Mem} {p : Nat → Prop} {w : World} {tm : List T} {a : Act} {o : Oper}

theorem repV_agg {t : Ty} {x : El t} {v : Value} {ow : OwF} (ha : t.isAgg = true) (h : RepV w ow t x v) : ∃ l, v = joinV t l ∧ Rep w ow t x l := by
  unfold RepV at h
  rw [if_pos ha] at h
  obtain ⟨cs, rfl, h⟩ := h
  exact ⟨cs.toList, by unfold joinV; rw [if_pos ha], h⟩

theorem binT_str {op : BinOp} {vx vy : List UInt8} {t t' : TypeId} {x y : Operand} (h : RelAll E B G m p w tm a) (ho : o.op = .binOp op t x y t')
    (ex : a.eval x = .string ⟨⟨vx⟩⟩) (ey : a.eval y = .string ⟨⟨vy⟩⟩) : OpOK E B κ G m p w tm a o (binT E t op (isLit y) (.dat .str vx) (.dat .str vy)) := by
  have hg : (eqGuard op t x y (a.eval x) (a.eval y)).run E.P w = .ok () w := by
    rw [ex, ey]; cases op <;> rfl
  have main : ∀ {b : Bool}, (binOp op t (.string ⟨⟨vx⟩⟩) (.string ⟨⟨vy⟩⟩)).run E.P w = .ok (.bool b) w → OpOK E B κ G m p w tm a o (.val [] (.dat .bool b)) :=
    fun hr => ok_val0 h (run_binop ho hg (by rw [ex, ey]; exact hr)) dat_bool
  unfold binT
  cases op with
  | add =>
    refine ok_vpart0 h fun z hz => ⟨.string ⟨⟨z⟩⟩, run_binop ho hg ?_, dat_str⟩
    unfold catL at hz
    split at hz
    · rename_i hlt
      obtain rfl := Option.some.inj hz
      rw [ex, ey, binOp_string_add]
      unfold LIM at hlt
      have := run_string_add_sum (P := E.P) (w := w) ⟨⟨vx⟩⟩ ⟨⟨vy⟩⟩ (by
        show List.length vx + List.length vy ≤ 9223372036854775807
        have : List.length (α := UInt8) vx + List.length (α := UInt8) vy < 4294967296 := hlt
        omega)
      rw [this]
      congr 2
    · cases hz
  | eql => exact main (by rw [binOp_string_eql, beq_list]; rfl)
  | neq => exact main (by rw [binOp_string_neq, beq_list]; rfl)
  | lss => exact main (by rw [binOp_string_lss, ByteArray.toList_eq, ByteArray.toList_eq]; rfl)
  | leq => exact main (by simp only [binOp, Op.stringOp]; rw [beq_list, ByteArray.toList_eq, ByteArray.toList_eq]; rfl)
  | gtr => exact main (by simp only [binOp, Op.stringOp]; rw [beq_list, ByteArray.toList_eq, ByteArray.toList_eq]; rfl)
  | geq => exact main (by simp only [binOp, Op.stringOp]; rw [ByteArray.toList_eq, ByteArray.toList_eq]; rfl)
  | _ => exact ok_bad

theorem binT_bool (hE : EnvOK E) {op : BinOp} {vx vy : Bool} {t t' : TypeId} {x y : Operand} (h : RelAll E B G m p w tm a) (ho : o.op = .binOp op t x y t')
    (ex : a.eval x = .bool vx) (ey : a.eval y = .bool vy) : OpOK E B κ G m p w tm a o (binT E t op (isLit y) (.dat .bool vx) (.dat .bool vy)) := by
  unfold binT
  simp only
  split
  · rename_i hty
    have hf := hE.ty _ _ hty
    have hu : E.P.underlying t = some .bool := by
      unfold fitB at hf
      simp only [Bool.and_eq_true] at hf
      obtain ⟨_, h⟩ := hf
      split at h
      · rename_i hu; exact hu
      · cases h
    refine ok_val0 h (run_binop ho (by rw [ex, ey]; rfl) ?_) dat_bool
    rw [ex, ey]
    simp only [binOp, Op.equal, Op.maxDepth]
    rw [run_bindM (run_equalIn_bool' w _ t _ _ hu)]; rfl
  · rename_i hty
    have hf := hE.ty _ _ hty
    have hu : E.P.underlying t = some .bool := by
      unfold fitB at hf
      simp only [Bool.and_eq_true] at hf
      obtain ⟨_, h⟩ := hf
      split at h
      · rename_i hu; exact hu
      · cases h
    refine ok_val0 h (run_binop ho (by rw [ex, ey]; rfl) ?_) dat_bool
    rw [ex, ey]
    simp only [binOp, Op.equal, Op.maxDepth]
    rw [run_bindM (run_equalIn_bool' w _ t _ _ hu)]; rfl
  · exact ok_bad

theorem binT_err (hE : EnvOK E) {op : BinOp} {vx vy : Bool} {t t' : TypeId} {x y : Operand} (h : RelAll E B G m p w tm a) (ho : o.op = .binOp op t x y t')
    (hx' : Rep w G.ow .err vx [a.eval x]) (hy' : Rep w G.ow .err vy [a.eval y]) : OpOK E B κ G m p w tm a o (binT E t op (isLit y) (.dat .err vx) (.dat .err vy)) := by
  show OpOK E B κ G m p w tm a o (binT.errT E t op (isLit y) vx vy)
  have hu : E.ty t = some .err → ∃ ms, E.P.underlying t = some (.interface ms) := by
    intro hty
    have hf := hE.ty _ _ hty
    unfold fitB at hf
    simp only [Bool.and_eq_true] at hf
    obtain ⟨_, h⟩ := hf
    split at h
    · rename_i ms hu; exact ⟨ms, hu⟩
    · cases h
  have hyn : vy = true → a.eval y = .nilIface := by
    intro hv
    obtain ⟨v, e1, e2⟩ := hy'
    simp only [List.cons.injEq, and_true] at e1
    rcases e2 with ⟨_, e2⟩ | ⟨e2, _⟩
    · rw [e1, e2]
    · rw [e2] at hv; cases hv
  have hg : isLit y = true → vy = true → (eqGuard op t x y (a.eval x) (a.eval y)).run E.P w = .ok () w := by
    intro hl hv
    rw [hyn hv]
    obtain ⟨v, e1, e2⟩ := hx'
    simp only [List.cons.injEq, and_true] at e1
    rw [e1]
    cases y with
    | const c =>
      rcases e2 with ⟨_, rfl⟩ | ⟨_, t, u, rfl⟩
      · cases op <;> first | rfl | simp [eqGuard, pure, Sem.run]
      · cases op <;> rfl
    | _ => cases hl
  have hq : ∀ ms, E.P.underlying t = some (.interface ms) → vy = true → (Op.equal t (a.eval x) (a.eval y)).run E.P w = .ok vx w := by
    intro ms hms hv
    rw [hyn hv]
    obtain ⟨v, e1, e2⟩ := hx'
    simp only [List.cons.injEq, and_true] at e1
    rw [e1]
    unfold Op.equal Op.maxDepth Op.equalIn
    rw [run_bindM (run_underlying hms)]
    rcases e2 with ⟨e, rfl⟩ | ⟨e, t, u, rfl⟩ <;> (rw [e]; rfl)
  have hbin : ∀ o : BinOp, o = .eql ∨ o = .neq → binOp o t (a.eval x) (a.eval y) = (match o with
      | .eql => do pure (.bool (← Op.equal t (a.eval x) (a.eval y)))
      | _ => do pure (.bool (!(← Op.equal t (a.eval x) (a.eval y))))) ∨ vy = false := by
    intro o ho
    by_cases hv : vy = true
    · left
      rw [hyn hv]
      obtain ⟨v, e1, e2⟩ := hx'
      simp only [List.cons.injEq, and_true] at e1
      rw [e1]
      rcases ho with rfl | rfl <;> (rcases e2 with ⟨_, rfl⟩ | ⟨_, t, u, rfl⟩ <;> rfl)
    · right; simpa using hv
  unfold binT.errT
  split
  · rename_i hty hl
    have hv : (true : Bool) = true := rfl
    obtain ⟨ms, hms⟩ := hu hty
    refine ok_val0 h (run_binop (v := .bool vx) ho (hg hl hv) ?_) dat_bool
    rcases hbin .eql (.inl rfl) with e | e
    · rw [e]
      show (Op.equal t _ _ >>= _).run E.P w = _
      rw [run_bindM (hq ms hms hv)]; rfl
    · cases e
  · rename_i hty hl
    have hv : (true : Bool) = true := rfl
    obtain ⟨ms, hms⟩ := hu hty
    refine ok_val0 h (run_binop (v := .bool (nt vx)) ho (hg hl hv) ?_) dat_bool
    rcases hbin .neq (.inr rfl) with e | e
    · rw [e]
      show (Op.equal t _ _ >>= _).run E.P w = _
      rw [run_bindM (hq ms hms hv)]; rfl
    · cases e
  · exact ok_bad

theorem eq?_eq {a b : Ty} {z : PLift (a = b)} (_ : Ty.eq? a b = some z) : a = b := z.down

theorem binT_ok (hE : EnvOK E) {op : BinOp} {t t' : TypeId} {x y : Operand} {u u' : T} (h : RelAll E B G m p w tm a) (ho : o.op = .binOp op t x y t')
    (hx : RelT G m p w u (a.eval x)) (hy : RelT G m p w u' (a.eval y)) : OpOK E B κ G m p w tm a o (binT E t op (isLit y) u u') := by
  cases u with
  | dat tx vx =>
    cases u' with
    | dat ty vy =>
      cases tx with
      | int k =>
        cases ty with
        | int k' => exact binT_int h ho (rel_int hx) (rel_int hy)
        | _ => exact ok_bad
      | str =>
        cases ty with
        | str =>
          exact binT_str h ho (rel_str hx) (rel_str hy)
        | _ => exact ok_bad
      | bool =>
        cases ty with
        | bool =>
          exact binT_bool hE h ho (rel_bool hx) (rel_bool hy)
        | _ => exact ok_bad
      | err =>
        cases ty with
        | err =>
          exact binT_err hE h ho hx hy
        | _ => exact ok_bad
      | pair ta tb =>
        show OpOK E B κ G m p w tm a o (binT E t op (isLit y) (.dat (.pair ta tb) vx) (.dat ty vy))
        unfold binT
        simp only
        split
        · rename_i he u _ hty
          subst he
          have hrun : ∀ r, u = .pair ta tb → eqEl (.pair ta tb) vx (castE rfl vy) = some r → E.eqs t = true →
              (Op.equalIn 10000 t (a.eval x) (a.eval y)).run E.P w = .ok r w ∧ (eqGuard op t x y (a.eval x) (a.eval y)).run E.P w = .ok () w ∧ ∃ xs ys, a.eval x = .agg xs ∧ a.eval y = .agg ys := by
            intro r hu hr hq
            subst hu
            obtain ⟨h1, h2, h3⟩ := hE.eqs t _ hq hty
            obtain ⟨l, el, hl⟩ := repV_agg (t := .pair ta tb) rfl (show RepV w G.ow (.pair ta tb) vx (a.eval x) from hx)
            obtain ⟨l', el', hl'⟩ := repV_agg (t := .pair ta tb) rfl (show RepV w G.ow (.pair ta tb) vy (a.eval y) from hy)
            rw [el, el']
            exact ⟨(eq_run _).1 t 9999 vx vy l l' r h1 h3 hl hl' hr, run_eqGuard_agg w op t x y _ _ h2, _, _, rfl, rfl⟩
          split
          · rename_i r hu2 hr hq
            obtain ⟨h1, h2, xs, ys, h3, h4⟩ := hrun r (eq?_eq hu2) hr hq
            refine ok_val0 h (run_binop (v := .bool r) ho h2 ?_) dat_bool
            rw [h3, h4] at h1 ⊢
            rw [run_eql_struct, h1]; rfl
          · rename_i r hu2 hr hq
            obtain ⟨h1, h2, xs, ys, h3, h4⟩ := hrun r (eq?_eq hu2) hr hq
            refine ok_val0 h (run_binop (v := .bool (nt r)) ho h2 ?_) dat_bool
            rw [h3, h4] at h1 ⊢
            rw [run_neq_struct, h1]; rfl
          · exact ok_bad
        · exact ok_bad
      | _ => exact ok_bad
    | _ => cases tx <;> exact ok_bad
  | _ => exact ok_bad

end
end Mini

/- The soundness of the other operations that only look. -/
namespace Mini
open Go

theorem some_dat {t : Ty} {x : El t} {u : Ty} {y : El u} (h : (⟨t, x⟩ : Σ t : Ty, El t) = ⟨u, y⟩) : T.dat t x = T.dat u y := by cases h; rfl

section
variable {E : Env} {B : Base} {κ : Nat} {G : Gh} {m : Mem} {p : Nat → Prop} {w : World} {tm : List T} {a : Act} {o : Oper}

theorem move_ok {x : Operand} {u : T} (h : RelAll E B G m p w tm a) (ho : o.op = .move x ∨ o.op = .assign x) (hx : RelT G m p w u (a.eval x)) :
    OpOK E B κ G m p w tm a o (.val [] u) := by
  refine ok_val0 h ?_ hx
  unfold Runs execOp
  rcases ho with e | e <;> (rw [e]; rfl)

theorem unop_ok {op : UnOp} {t : TypeId} {x : Operand} {u : T} (h : RelAll E B G m p w tm a) (ho : o.op = .unOp op t x) (hx : RelT G m p w u (a.eval x)) :
    OpOK E B κ G m p w tm a o (unT op u) := by
  have he : ∀ s : Sem Value, Op.unary op (a.eval x) = s → execOp a.eval o = (do pure (.value (← s))) := by
    intro s hs; unfold execOp; rw [ho]; simp only; rw [hs]
  cases u with
  | dat t v =>
    cases t with
    | bool =>
      cases op <;> first | exact ok_bad | skip
      have e := rel_bool hx
      exact ok_val0 h (runs_v (he _ (by rw [e])) (v := .bool (nt v)) rfl) dat_bool
    | int k =>
      cases op <;> first | exact ok_bad | skip
      have e := rel_int hx
      exact ok_val0 h (runs_v (he _ (by rw [e])) (v := .int k (negI k v)) rfl) dat_int
    | _ => cases op <;> exact ok_bad
  | _ => cases op <;> exact ok_bad

theorem nilCheck_ok {x : Operand} {u : T} (h : RelAll E B G m p w tm a) (ho : o.op = .nilCheck x) (hx : RelT G m p w u (a.eval x)) :
    OpOK E B κ G m p w tm a o (nilT u) := by
  cases u with
  | addr i o' =>
    obtain ⟨_, _, e⟩ := id hx
    refine ok_val0 h ?_ hx
    unfold Runs execOp
    rw [ho]; simp only; rw [e]; rfl
  | rptr t v =>
    obtain ⟨b, o', e, _⟩ := id hx
    refine ok_val0 h ?_ hx
    unfold Runs execOp
    rw [ho]; simp only; rw [e]; rfl
  | _ => exact ok_bad

theorem extract_ok {x : Operand} {i : Nat} {u : T} (h : RelAll E B G m p w tm a) (ho : o.op = .extract x i) (hx : RelT G m p w u (a.eval x)) :
    OpOK E B κ G m p w tm a o (extractT u i) := by
  cases u with
  | tup l =>
    obtain ⟨vs, e, hl, hr⟩ := hx
    unfold extractT
    simp only
    split
    · rename_i hi
      refine ok_val0 h (runs_v (s := Instr.extract (a.eval x) i) (by unfold execOp; rw [ho]) (v := vs.getD i undef) ?_) (relT_of1 (hr i hi))
      rw [e]
      have : vs[i]? = some (vs.getD i undef) := by
        rw [Array.getD_eq_getD_getElem?, Array.getElem?_eq_getElem (by omega)]; rfl
      unfold Instr.extract
      simp only [this]; rfl
    · exact ok_bad
  | _ => exact ok_bad

theorem relCaps_of : ∀ (us : List T) (vs : List Value) (l : List (Nat × Nat)), us.length = vs.length → (∀ i (hi : i < vs.length), RelT G m p w (getT us i) vs[i]) → cloCaps us = some l → RelCaps G m p l vs := by
  intro us
  induction us with
  | nil =>
    intro vs l hl _ hc
    simp only [cloCaps, Option.some.injEq] at hc; subst hc
    have := List.length_eq_zero_iff.1 hl.symm; subst this; trivial
  | cons u us ih =>
    intro vs l hl hr hc
    cases vs with
    | nil => simp at hl
    | cons v vs =>
      cases u with
      | addr i o =>
        simp only [cloCaps] at hc
        split at hc
        · rename_i l' hc'
          obtain rfl := Option.some.inj hc
          have h0 := hr 0 (by simp)
          exact ⟨h0, ih vs l' (by simpa using hl) (fun i hi => by have := hr (i + 1) (by simpa using hi); simpa [getT] using this) hc'⟩
        · cases hc
      | _ => simp [cloCaps] at hc

theorem makeFunc_ok {f : FuncId} {first caps : Array Operand} {us : List T} (h : RelAll E B G m p w tm a) (ho : o.op = .makeFunc (.func f) first caps) (hf : first.isEmpty = true)
    (hl : us.length = caps.size) (hx : ∀ i (hi : i < caps.size), RelT G m p w (getT us i) (a.eval caps[i])) :
    OpOK E B κ G m p w tm a o (funT f us) := by
  unfold funT
  split
  · rename_i l hc
    have hf' : first = #[] := by simpa using hf
    subst hf'
    refine ok_val0 h (v := .func (.func f) #[] (caps.map a.eval)) ?_ (relT_of1 ⟨_, rfl, ?_⟩)
    · refine runs_v (s := Instr.makeFunc (.func f) (#[].map a.eval) (caps.map a.eval)) (by unfold execOp; rw [ho]) ?_
      simp [Instr.makeFunc, run_pure]
    · refine relCaps_of (w := w) us _ l (by simp [hl]) (fun i hi => ?_) hc
      simp only [Array.toList_map, List.length_map, Array.length_toList] at hi
      simpa using hx i hi
  · exact ok_bad

theorem field_ok (hE : EnvOK E) {t : TypeId} {x : Operand} {f : Nat} {u : T} (h : RelAll E B G m p w tm a) (ho : o.op = .field t x f) (hx : RelT G m p w u (a.eval x)) :
    OpOK E B κ G m p w tm a o (fieldT E t u f) := by
  cases u with
  | dat t' v =>
    unfold fieldT
    split
    · rename_i hue hty
      cases hue
      split
      · rename_i y he hf
        obtain rfl := eq?_eq he
        obtain ⟨u, y⟩ := y
        obtain ⟨off, h1, h2, h3⟩ := fieldVal_spec (w := w) (ow := G.ow) t' v f u y hf
        obtain ⟨fs, fd, e1, e2, e3, e4⟩ := fit_field (hE.ty _ _ hty) h1
        have ha : t'.isAgg = true := by cases t' <;> first | rfl | simp [fieldTy] at h1
        obtain ⟨l, el, hl⟩ := repV_agg ha hx
        have hlen := rep_len _ _ _ hl
        have hrep := h3 l hl
        refine ok_val0 h (runs_v (s := Instr.field t (a.eval x) f) (by unfold execOp; rw [ho]) (v := joinV u ((l.drop off).take u.size)) ?_) (dat_rep (repV_join hrep))
        rw [el]
        unfold Instr.field
        rw [run_bindM (run_underlying e1)]
        simp only [e2]
        have hj : joinV t' l = .agg l.toArray := by unfold joinV; rw [if_pos ha]
        rw [hj, run_bindM (show (asAgg (.agg l.toArray)).run E.P w = .ok l.toArray w from rfl), e3]
        exact run_part e4 (by omega)
      · exact ok_bad
    · exact ok_bad
  | _ => exact ok_bad

theorem run_fieldPlace {fd : Field} {u : Ty} {b o' : Nat} (h : fitB E.P u fd.type = true) (hn : u.size ≠ 0) : (fieldPlace ⟨b, o', none⟩ fd).run E.P w = .ok ⟨b, o' + fd.offset, none⟩ w := by
  obtain ⟨i, h1, h2⟩ := fit_size h
  unfold fieldPlace
  rw [run_bindM (run_sizeOf h1), if_neg (by omega), addr_add]; rfl

theorem fieldAddr_ok (hE : EnvOK E) {t : TypeId} {x : Operand} {f : Nat} {u : T} (h : RelAll E B G m p w tm a) (ho : o.op = .fieldAddr t x f) (hx : RelT G m p w u (a.eval x)) :
    OpOK E B κ G m p w tm a o (fieldAddrT E m t u f) := by
  unfold fieldAddrT
  split
  · rename_i ts hty
    split
    · rename_i off uf hf
      split
      · exact ok_bad
      · rename_i hsz
        obtain ⟨fs, fd, e1, e2, e3, e4⟩ := fit_field (hE.ty _ _ hty) hf
        have run : ∀ b o', a.eval x = ptr b o' → Runs E a o w (ptr b (o' + off)) w := by
          intro b o' e
          refine runs_v (s := Instr.fieldAt t (a.eval x) f) (by unfold execOp; rw [ho]) ?_
          rw [e]
          unfold Instr.fieldAt
          rw [run_bindM (run_underlying e1)]
          simp only [e2]
          rw [run_bindM (show (Instr.sureAddr (ptr b o')).run E.P w = .ok ⟨b, o', none⟩ w from rfl), run_bindM (run_fieldPlace e4 hsz), e3]; rfl
        cases u with
        | addr i o' =>
          obtain ⟨ha, ⟨cs, hc⟩, e⟩ := hx
          simp only [hc]
          split
          · exact ok_val0 h (run _ _ e) ⟨ha, ⟨cs, hc⟩, by rw [Nat.add_assoc]⟩
          · exact ok_bad
        | rptr t' v =>
          obtain ⟨b, o', e, l, hl, hc⟩ := hx
          simp only
          split
          · rename_i he
            obtain rfl := eq?_eq he
            split
            · rename_i y hfv
              obtain ⟨u, y⟩ := y
              obtain ⟨off', h1, h2, h3⟩ := fieldVal_spec (w := w) (ow := G.ow) t' v f u y hfv
              rw [hf] at h1
              simp only [Option.some.injEq, Prod.mk.injEq] at h1
              obtain ⟨rfl, rfl⟩ := h1
              refine ok_val0 h (run _ _ e) ⟨b, o' + off, rfl, _, h3 l hl, fun j hj => ?_⟩
              obtain ⟨c1, c2⟩ := hc (off + j) (by dsimp only at hj; omega)
              rw [Nat.add_assoc]
              refine ⟨c1, ?_⟩
              rw [c2, List.getElem?_take, if_pos hj, List.getElem?_drop]
            · exact ok_bad
          · exact ok_bad
        | eptr k ver i o' t' v =>
          obtain ⟨ha, g, hg, hv⟩ := hx
          simp only
          split
          · rename_i hal
            have hd : g.md ≠ .dead := by
              unfold alive at hal
              rw [hg] at hal
              simpa using hal
            obtain ⟨b, o0, len, cap, h1, h2, h3, h4, h5⟩ := hv hd
            exact ok_val0 h (run _ _ h4) ⟨ha, g, hg, fun _ => ⟨b, o0, len, cap, h1, h2, h3, by rw [← Nat.add_assoc], h5⟩⟩
          · exact ok_bad
        | _ => exact ok_bad
    · exact ok_bad
  · exact ok_bad

end
end Mini

/- Indexes, lengths, loads, slices: the soundness of what only looks. -/
namespace Mini
open Go

theorem within_spec {i : Int} {n : Nat} (h : within i n = true) : 0 ≤ i ∧ i < (n : Int) := of_decide_eq_true h

theorem rd_some {α : Type} {xs : List α} {i : Int} {y : α} (h : rd xs i = some y) : 0 ≤ i ∧ ∃ hi : i.toNat < xs.length, xs[i.toNat] = y := by
  unfold rd at h
  split at h
  · rename_i h0
    obtain ⟨h1, h2⟩ := List.getElem?_eq_some_iff.1 h
    exact ⟨h0, h1, h2⟩
  · cases h

section
variable {E : Env} {B : Base} {κ : Nat} {G : Gh} {m : Mem} {p : Nat → Prop} {w : World} {tm : List T} {a : Act} {o : Oper}

theorem run_indexAt_slice {t e : TypeId} {k : IntKind} {i : Int} {b o' len cap sz : Nat} {inf : TypeInfo} (hu : E.P.underlying t = some (.slice e)) (hi : E.P.info? e = some inf) (hs : inf.size = sz)
    (h0 : 0 ≤ i) (h1 : i.toNat < len) : (Instr.indexAt t (.slice (some ⟨b, o', none⟩) len cap) (.int k i)).run E.P w = .ok (ptr b (o' + i.toNat * sz)) w := by
  unfold Instr.indexAt
  rw [run_bindM (show (asIntOf (.int k i)).run E.P w = .ok (k, i) w from rfl)]
  simp only
  rw [run_bindM (run_underlying hu)]
  simp only
  rw [run_bindM (run_pure)]
  simp only
  rw [run_bindM (run_underlying hu)]
  simp only
  rw [if_pos ⟨h0, by omega⟩, run_bindM (run_sizeOf hi), hs, addr_add]; rfl

theorem run_indexAt_array {t e : TypeId} {k : IntKind} {i : Int} {b o' n sz : Nat} {inf : TypeInfo} (hu : E.P.underlying t = some (.array n e)) (hi : E.P.info? e = some inf) (hs : inf.size = sz)
    (h0 : 0 ≤ i) (h1 : i.toNat < n) : (Instr.indexAt t (ptr b o') (.int k i)).run E.P w = .ok (ptr b (o' + i.toNat * sz)) w := by
  unfold Instr.indexAt
  rw [run_bindM (show (asIntOf (.int k i)).run E.P w = .ok (k, i) w from rfl)]
  simp only
  rw [run_bindM (run_underlying hu)]
  simp only
  rw [run_bindM (show (Instr.sureAddr (ptr b o')).run E.P w = .ok ⟨b, o', none⟩ w from rfl)]
  rw [run_bindM (run_pure)]
  simp only
  rw [run_bindM (run_underlying hu)]
  simp only
  rw [if_pos ⟨h0, by omega⟩, run_bindM (run_sizeOf hi), hs, addr_add]; rfl

theorem runs_indexAddr {t : TypeId} {x i : Operand} {v : Value} {w' : World} (ho : o.op = .indexAddr t x i) (h : (Instr.indexAt t (a.eval x) (a.eval i)).run E.P w = .ok v w') : Runs E a o w v w' :=
  runs_v (by unfold execOp; rw [ho]) h

/-- a row of an own slice that lives -/
theorem gr_row {k : Nat} {g : Gr} (h : RelAll E B G m p w tm a) (hp : p k) (hg : lk m.gr k = some g) (hd : g.md ≠ .dead) :
    ∃ ad len cap, G.gv k = .slice ad len cap ∧ len = g.xs.length ∧ len ≤ cap ∧
      (0 < cap → ∃ b o, ad = some ⟨b, o, none⟩ ∧ Row w (fun _ _ => True) (fun x l => Rep w G.ow g.t x l) g.t.size b o g.xs) := by
  have hok := h.inv.gr k g hp hg
  have key : ∀ c, GrRow G w k g.t g.xs c → ∃ ad len cap, G.gv k = .slice ad len cap ∧ len = g.xs.length ∧ len ≤ cap ∧
      (0 < cap → ∃ b o, ad = some ⟨b, o, none⟩ ∧ Row w (fun _ _ => True) (fun x l => Rep w G.ow g.t x l) g.t.size b o g.xs) := by
    rintro c ⟨ad, len, cap, h1, h2, h3, h5⟩
    refine ⟨ad, len, cap, h1, h2, h3, fun hcp => ?_⟩
    obtain ⟨b, o, e, hr, _⟩ := h5 hcp
    exact ⟨b, o, e, row_mono (fun _ _ h => h) (fun _ _ => ⟨trivial, rfl⟩) hr⟩
  unfold GrOK at hok
  split at hok
  · rename_i hs; exact absurd hs hd
  · exact key _ hok
  · exact key _ hok

theorem indexAddr_ok (hE : EnvOK E) {t : TypeId} {x i : Operand} {u v : T} {lit : Bool} (h : RelAll E B G m p w tm a) (ho : o.op = .indexAddr t x i) (hx : RelT G m p w u (a.eval x)) (hi : RelT G m p w v (a.eval i)) :
    OpOK E B κ G m p w tm a o (indexAddrT E m t u v lit) := by
  cases v with
  | dat tv iv =>
    cases tv with
    | int k =>
      have ei := rel_int hi
      cases u with
      | dat tx xs =>
        cases tx with
        | sl t1 =>
          unfold indexAddrT
          split
          · rename_i hu1 hu2 hty
            cases hu1; cases hu2
            split
            · rename_i he
              obtain rfl := eq?_eq he
              obtain ⟨e, e1, e2⟩ := fit_slice (hE.ty _ _ hty)
              obtain ⟨inf, e3, e4⟩ := fit_size e2
              obtain ⟨ad, len, cap, ev, hlen, hcap, hrow⟩ := rel_sl hx
              refine ok_vpart0 h fun y hy => ?_
              obtain ⟨h0, h1, h2⟩ := rd_some hy
              obtain ⟨b, o', rfl, hr⟩ := hrow (by rintro rfl; simp at h1)
              refine ⟨_, runs_indexAddr ho (by rw [ev, ei]; exact run_indexAt_slice e1 e3 e4 h0 (by omega)), b, o' + Int.toNat iv * t1.size, rfl, ?_⟩
              obtain ⟨l, hl, hc⟩ := hr _ h1
              rw [h2] at hl
              exact ⟨l, hl, hc⟩
            · exact ok_bad
          all_goals (first | exact ok_bad | (rename_i q1 q2 _; first | (cases q1; done) | (cases q2; done) | (exfalso; simp at q2; done) | (exfalso; simp at q1; done)))
        | _ => unfold indexAddrT; split <;> first | exact ok_bad | (rename_i q1 q2 _; first | (cases q1; done) | (cases q2; done) | (exfalso; simp at q2; done) | (exfalso; simp at q1; done))
      | own q =>
        obtain ⟨hp, g, hg, hv⟩ := hx
        unfold indexAddrT
        split
        case h_2 =>
          rename_i hu1 hu2 hty
          cases hu1; cases hu2
          rw [hg]
          simp only
          split
          · exact ok_bad
          · rename_i he hd
            have he' := eq?_eq he
            subst he'
            have hd : g.md ≠ .dead := hd
            obtain ⟨e, e1, e2⟩ := fit_slice (hE.ty _ _ hty)
            obtain ⟨inf, e3, e4⟩ := fit_size e2
            obtain ⟨ad, len, cap, ev, hlen, hcap, hrow⟩ := gr_row h hp hg hd
            refine ok_vpart0 h fun y hy => ?_
            obtain ⟨h0, h1, h2⟩ := rd_some hy
            · obtain ⟨b, o', rfl, hr⟩ := hrow (by omega)
              refine ⟨_, runs_indexAddr ho (by rw [hv hd, ev, ei]; exact run_indexAt_slice e1 e3 e4 h0 (by omega)), hp, g, hg, fun _ => ⟨b, o', len, cap, ev, h0, h1, by rw [Nat.add_zero], Nat.le_refl _, fun _ => ⟨rfl, ?_⟩⟩⟩
              rw [List.getElem?_eq_getElem h1, h2]; rfl
          · exact ok_bad
        all_goals (first | exact ok_bad | (rename_i q1 q2 _; first | (cases q1; done) | (cases q2; done) | (exfalso; simp at q2; done) | (exfalso; simp at q1; done)))
      | rptr tx xs =>
        cases tx with
        | arr n t1 =>
          unfold indexAddrT
          split
          case h_3 =>
            rename_i hu1 hu2 hty
            cases hu1; cases hu2
            split
            · rename_i he
              have he' := eq?_eq he
              injection he' with he1 he2
              subst he1; subst he2
              obtain ⟨e, e1, e2⟩ := fit_arr (hE.ty _ _ hty)
              obtain ⟨inf, e3, e4⟩ := fit_size e2
              obtain ⟨b, o', ev, l, ⟨hn, hl⟩, hc⟩ := hx
              refine ok_vpart0 h fun y hy => ?_
              obtain ⟨h0, h1, h2⟩ := rd_some hy
              refine ⟨_, runs_indexAddr ho (by rw [ev, ei]; exact run_indexAt_array e1 e3 e4 h0 (by omega)), b, o' + Int.toNat iv * t1.size, rfl, ?_⟩
              have key : ∀ (xs : List (El t1)) (l : List Value) (q : Nat) (hq : q < xs.length), RepN (fun x l => Rep w G.ow t1 x l) xs l → Rep w G.ow t1 xs[q] ((l.drop (q * t1.size)).take t1.size) := by
                intro xs
                induction xs with
                | nil => intro l q hq; simp at hq
                | cons x xs ih =>
                  intro l q hq hr
                  obtain ⟨l1, l2, rfl, r1, r2⟩ := hr
                  have hl1 := rep_len _ _ _ r1
                  cases q with
                  | zero => rw [Nat.zero_mul, List.drop_zero, ← hl1, List.take_left]; exact r1
                  | succ q =>
                    have := ih l2 q (by simpa using hq) r2
                    rw [Nat.succ_mul, Nat.add_comm (q * t1.size), ← List.drop_drop, ← hl1, List.drop_left, hl1]
                    exact this
              have hlen := repN_len (sz := t1.size) (fun x l h => rep_len t1 x l h) _ _ hl
              refine ⟨_, h2 ▸ key xs l _ h1 hl, fun j hj => ?_⟩
              have hb : (Int.toNat iv + 1) * t1.size ≤ n * t1.size := Nat.mul_le_mul_right _ (by omega)
              rw [Nat.succ_mul] at hb
              obtain ⟨c1, c2⟩ := hc (Int.toNat iv * t1.size + j) (by simp only [Ty.size]; omega)
              rw [Nat.add_assoc]
              exact ⟨c1, by rw [c2, List.getElem?_take, if_pos hj, List.getElem?_drop]⟩
            · exact ok_bad
          all_goals (first | exact ok_bad | (rename_i q1 q2 _; first | (cases q1; done) | (cases q2; done) | (exfalso; simp at q2; done) | (exfalso; simp at q1; done)))
        | _ => unfold indexAddrT; split <;> first | exact ok_bad | (rename_i q1 q2 _; first | (cases q1; done) | (cases q2; done) | (exfalso; simp at q2; done) | (exfalso; simp at q1; done))
      | addr q off =>
        obtain ⟨hp, ⟨cs, hc⟩, ev⟩ := hx
        unfold indexAddrT
        split
        case h_4 =>
          rename_i hu1 hu2 hty
          cases hu1; cases hu2
          rw [hc]
          simp only
          obtain ⟨e, e1, e2⟩ := fit_arr (hE.ty _ _ hty)
          obtain ⟨inf, e3, e4⟩ := fit_size e2
          split
          · rename_i n u hlen
            split
            · split
              · rename_i hw
                have hw := within_spec hw
                refine ok_val0 h (runs_indexAddr ho (by rw [ev, ei]; exact run_indexAt_array e1 e3 e4 hw.1 (by omega))) ⟨hp, ⟨cs, hc⟩, by rw [Nat.add_assoc]⟩
              · exact ok_bad
            · refine ok_vpart0 h fun y hy => ?_
              split at hy
              · rename_i hw
                have hw := within_spec hw
                exact ⟨_, runs_indexAddr ho (by rw [ev, ei]; exact run_indexAt_array e1 e3 e4 hw.1 (by omega)), hp, ⟨cs, hc, hlen⟩, hw.1, hw.2, rfl⟩
              · cases hy
          · exact ok_bad
        all_goals (first | exact ok_bad | (rename_i q1 q2 _; first | (cases q1; done) | (cases q2; done) | (exfalso; simp at q2; done) | (exfalso; simp at q1; done)))
      | _ => unfold indexAddrT; split <;> first | exact ok_bad | (rename_i q1 q2 _; first | (cases q1; done) | (cases q2; done) | (exfalso; simp at q2; done) | (exfalso; simp at q1; done))
    | _ => unfold indexAddrT; split <;> first | exact ok_bad | (rename_i q1 q2 _; first | (cases q1; done) | (cases q2; done) | (exfalso; simp at q2; done) | (exfalso; simp at q1; done))
  | _ => unfold indexAddrT; split <;> first | exact ok_bad | (rename_i q1 q2 _; first | (cases q1; done) | (cases q2; done) | (exfalso; simp at q2; done) | (exfalso; simp at q1; done))

end
end Mini

/- Indexes into values, lengths, slices of strings and data. -/
namespace Mini
open Go

theorem subL_some {α : Type} {xs ys : List α} {lo hi : Int} (h : subL xs lo hi = some ys) : 0 ≤ lo ∧ lo ≤ hi ∧ hi ≤ (xs.length : Int) ∧ ys = (xs.take hi.toNat).drop lo.toNat := by
  unfold subL at h
  split at h
  · rename_i hc; exact ⟨hc.1, hc.2.1, hc.2.2, (Option.some.inj h).symm⟩
  · cases h

theorem extract_str (s : List UInt8) (l h : Nat) : (⟨⟨s⟩⟩ : ByteArray).extract l h = ⟨⟨(s.take h).drop l⟩⟩ := by
  have := ByteArray.extract_mk s l h
  rw [List.drop_take]; exact this

section
variable {E : Env} {B : Base} {κ : Nat} {G : Gh} {m : Mem} {p : Nat → Prop} {w : World} {tm : List T} {a : Act} {o : Oper}

theorem repN_get {α : Type} {one : α → List Value → Prop} {sz : Nat} (hsz : ∀ x l, one x l → l.length = sz) : ∀ (xs : List α) (l : List Value) (q : Nat) (hq : q < xs.length), RepN one xs l → one xs[q] ((l.drop (q * sz)).take sz) := by
  intro xs
  induction xs with
  | nil => intro l q hq; simp at hq
  | cons x xs ih =>
    intro l q hq hr
    obtain ⟨l1, l2, rfl, r1, r2⟩ := hr
    have hl1 := hsz _ _ r1
    cases q with
    | zero => rw [Nat.zero_mul, List.drop_zero, ← hl1, List.take_left]; exact r1
    | succ q =>
      have := ih l2 q (by simpa using hq) r2
      rw [Nat.succ_mul, Nat.add_comm (q * sz), ← List.drop_drop, ← hl1, List.drop_left, hl1]
      exact this

theorem index_str_ok {t : TypeId} {x i : Operand} {s : List UInt8} {k : IntKind} {n : Int} (hE : EnvOK E) (hty : E.ty t = some .str) (h : RelAll E B G m p w tm a) (ho : o.op = .index t x i)
    (hx : a.eval x = .string ⟨⟨s⟩⟩) (hi : a.eval i = .int k n) : OpOK E B κ G m p w tm a o (partT (.int .u8) (rdb s n)) := by
  refine ok_vpart0 h fun y hy => ?_
  unfold rdb at hy
  cases hr : rd s n with
  | none => rw [hr] at hy; cases hy
  | some b =>
    rw [hr] at hy
    obtain rfl := Option.some.inj hy
    obtain ⟨h0, h1, h2⟩ := rd_some hr
    refine ⟨.int .u8 (b.toNat : Int), runs_v (s := Instr.index t (a.eval x) (a.eval i)) (by unfold execOp; rw [ho]) ?_, dat_int⟩
    have hsz : ((⟨⟨s⟩⟩ : ByteArray).size : Int) = s.length := rfl
    rw [hx, hi, run_index_string w t _ k n (fit_str (hE.ty _ _ hty)), dif_pos ⟨h0, by rw [hsz]; omega⟩]
    have : (⟨⟨s⟩⟩ : ByteArray)[n.toNat]'(by have : (⟨⟨s⟩⟩ : ByteArray).size = s.length := rfl; omega) = b := by rw [← h2]; rfl
    rw [this]

theorem index_arr_ok {t : TypeId} {x i : Operand} {n : Nat} {u : Ty} {xs : List (El u)} {k : IntKind} {q : Int} (hE : EnvOK E) (hty : E.ty t = some (.arr n u)) (h : RelAll E B G m p w tm a) (ho : o.op = .index t x i)
    (hx : RelT G m p w (.dat (.arr n u) xs) (a.eval x)) (hi : a.eval i = .int k q) : OpOK E B κ G m p w tm a o (.vpart [] u (rd xs q) (.dat u)) := by
  refine ok_vpart0 h fun y hy => ?_
  obtain ⟨h0, h1, h2⟩ := rd_some hy
  obtain ⟨l, el, hn, hl⟩ := repV_agg (t := .arr n u) rfl (show RepV w G.ow (.arr n u) xs (a.eval x) from hx)
  obtain ⟨e, e1, e2⟩ := fit_arr (hE.ty _ _ hty)
  obtain ⟨inf, e3, e4⟩ := fit_size e2
  have hrep := repN_get (sz := u.size) (fun x l h => rep_len u x l h) xs l _ h1 hl
  have hlen := repN_len (sz := u.size) (fun x l h => rep_len u x l h) _ _ hl
  rw [h2] at hrep
  refine ⟨joinV u ((l.drop (q.toNat * u.size)).take u.size), runs_v (s := Instr.index t (a.eval x) (a.eval i)) (by unfold execOp; rw [ho]) ?_, dat_rep (repV_join hrep)⟩
  rw [el, hi]
  have hj : joinV (.arr n u) l = .agg l.toArray := rfl
  rw [hj]
  unfold Instr.index
  rw [run_bindM (show (asIntOf (.int k q)).run E.P w = .ok (k, q) w from rfl)]
  simp only
  rw [run_bindM (run_underlying e1)]
  simp only
  have hn' : xs.length = n := hn
  rw [if_pos ⟨h0, by omega⟩, run_bindM (run_sizeOf e3), e4]
  have hb : (q.toNat + 1) * u.size ≤ n * u.size := Nat.mul_le_mul_right _ (by omega)
  rw [Nat.succ_mul] at hb
  exact run_part e2 (by rw [hlen, hn']; exact hb)

theorem index_ok (hE : EnvOK E) {t : TypeId} {x i : Operand} {u v : T} (h : RelAll E B G m p w tm a) (ho : o.op = .index t x i) (hx : RelT G m p w u (a.eval x)) (hi : RelT G m p w v (a.eval i)) :
    OpOK E B κ G m p w tm a o (indexT E t u v) := by
  unfold indexT
  split
  · rename_i hty
    exact index_str_ok hE hty h ho (rel_str hx) (rel_int hi)
  · rename_i hty
    split
    · rename_i he
      have he' := eq?_eq he
      injection he' with he1 he2
      subst he1; subst he2
      exact index_arr_ok hE hty h ho hx (rel_int hi)
    · exact ok_bad
  · exact ok_bad

theorem goInt_eq (n : Nat) : goInt n = .int .i64 (n : Int) := rfl

theorem lenV_ok (hE : EnvOK E) {t : TypeId} {c : Call} {u : T} (h : RelAll E B G m p w tm a) (ho : o.op = .call c) (hc : c.callee = .builtin .len) (hty : c.argTypes[0]? = some t)
    {x : Operand} (hargs : c.args = #[x]) (hx : RelT G m p w u (a.eval x)) : OpOK E B κ G m p w tm a o (lenV E m t u) := by
  have run : ∀ n : Nat, (Builtin.len_ c.argTypes o.type #[a.eval x]).run E.P w = .ok (goInt n) w → Runs E a o w (.int .i64 (n : Int)) w := by
    intro n hn
    unfold Runs execOp
    rw [ho]
    simp only [resolve, hc, hargs]
    rw [run_bindM run_pure]
    rw [show Array.map a.eval #[x] = #[a.eval x] by simp]
    show ((do pure (Next.value (← Builtin.len_ c.argTypes o.type #[a.eval x])) : Sem Next)).run E.P w = _
    rw [run_bindM hn]; rfl
  have slices : ∀ (t' : Ty), E.ty t = some (.sl t') → ∀ ad n cap, a.eval x = .slice ad n cap → (Builtin.len_ c.argTypes o.type #[a.eval x]).run E.P w = .ok (goInt n) w := by
    intro t' ht ad n cap e
    obtain ⟨el, e1, _⟩ := fit_slice (hE.ty _ _ ht)
    rw [e]
    unfold Builtin.len_
    simp only [hty]
    rw [show (#[Value.slice ad n cap])[0]? = some (.slice ad n cap) from rfl]
    simp only
    rw [run_bindM (run_underlying e1)]; rfl
  unfold lenV
  split
  · rename_i t' ht
    split
    · rename_i n hn
      unfold lenT at hn
      split at hn
      · obtain rfl := Option.some.inj hn
        rename_i s
        have e := rel_str hx
        refine ok_val0 h (run (List.length (α := UInt8) s) ?_) dat_int
        rw [e]
        unfold Builtin.len_
        simp only [hty]
        rw [show (#[Value.string ⟨⟨s⟩⟩])[0]? = some (.string ⟨⟨s⟩⟩) from rfl]
        simp only
        rw [run_bindM (run_underlying (fit_str (hE.ty _ _ ht)))]; rfl
      · obtain rfl := Option.some.inj hn
        obtain ⟨ad, n, cap, e, hl, _⟩ := rel_sl hx
        rw [← hl]
        exact ok_val0 h (run n (slices _ ht _ _ _ e)) dat_int
      · obtain rfl := Option.some.inj hn
        have e : a.eval x = .slice none 0 0 := hx
        exact ok_val0 h (run 0 (slices _ ht _ _ _ e)) dat_int
      · rename_i k
        obtain ⟨hp, g, hg, hv⟩ := hx
        rw [hg] at hn
        simp only at hn
        split at hn
        · cases hn
        · rename_i hd
          obtain rfl := Option.some.inj hn
          obtain ⟨ad, n, cap, ev, hl, _⟩ := gr_row h hp hg hd
          rw [← hl]
          exact ok_val0 h (run n (slices _ ht _ _ _ ((hv hd).trans ev))) dat_int
      · cases hn
    · exact ok_bad
  · exact ok_bad

/-! ### greatest and least -/

theorem intOf_rel {u : T} {v : Value} {y : Int} (h : intOf u = some y) (hr : RelT G m p w u v) : ∃ k, v = .int k y := by
  cases u with
  | dat t n =>
    cases t with
    | int k => exact ⟨k, (rel_int hr).trans (congrArg (Value.int k) (Option.some.inj (show some (show Int from n) = some y from h)))⟩
    | _ => simp [intOf] at h
  | _ => simp [intOf] at h

theorem foldI_run {f : Int → Int → Int} {f2 : Value → Value → Sem Value} (hf : ∀ k k' x y, f2 (.int k x) (.int k' y) = pure (.int k (f x y))) : ∀ (us : List T) (vs : List Value) (k : IntKind) (x z : Int),
    us.length = vs.length → (∀ i (hi : i < vs.length), RelT G m p w (getT us i) vs[i]) → foldI f x us = some z → (vs.foldlM f2 (.int k x)).run E.P w = .ok (.int k z) w := by
  intro us
  induction us with
  | nil =>
    intro vs k x z hl _ hz
    have := List.length_eq_zero_iff.1 hl.symm; subst this
    simp only [foldI, Option.some.injEq] at hz; subst hz; rfl
  | cons u us ih =>
    intro vs k x z hl hr hz
    cases vs with
    | nil => simp at hl
    | cons v vs =>
      simp only [foldI] at hz
      split at hz
      · rename_i y hy
        obtain ⟨k', e⟩ := intOf_rel hy (hr 0 (by simp))
        simp only [List.getElem_cons_zero] at e
        rw [e, List.foldlM_cons, hf, run_bindM run_pure]
        exact ih vs k _ z (by simpa using hl) (fun i hi => by have := hr (i + 1) (by simpa using hi); simpa [getT] using this) hz
      · cases hz

theorem fold_ok {b : Builtin} {f : Int → Int → Int} {f2 : Value → Value → Sem Value} {c : Call} {us : List T} {k : IntKind} {n z : Int} (h : RelAll E B G m p w tm a) (ho : o.op = .call c) (hc : c.callee = .builtin b)
    (hb : ∀ (cs : Array Bool) (vs : Array Value), builtin b c.argTypes o.type cs vs = (do pure (.value (← (match vs.toList with
      | [] => stuck "" 
      | x :: rest => rest.foldlM f2 x)))) ∨ vs.toList = [])
    (hf : ∀ k k' x y, f2 (.int k x) (.int k' y) = pure (.int k (f x y))) (hl : (T.dat (.int k) n :: us).length = c.args.size)
    (hr : ∀ i (hi : i < c.args.size), RelT G m p w (getT (T.dat (.int k) n :: us) i) (a.eval c.args[i])) (hz : foldI f n us = some z) :
    OpOK E B κ G m p w tm a o (.val [] (.dat (.int k) z)) := by
  refine ok_val0 h (v := .int k z) ?_ dat_int
  have hvs : ∃ vs, (c.args.map a.eval).toList = .int k n :: vs ∧ us.length = vs.length ∧ ∀ i (hi : i < vs.length), RelT G m p w (getT us i) vs[i] := by
    have hlen : (c.args.map a.eval).toList.length = us.length + 1 := by simp only [Array.toList_map, List.length_map, Array.length_toList]; simpa using hl.symm
    have hget : ∀ i (hi : i < (c.args.map a.eval).toList.length), RelT G m p w (getT (T.dat (.int k) n :: us) i) (c.args.map a.eval).toList[i] := by
      intro i hi
      have := hr i (by simpa using hi)
      simpa using this
    generalize (c.args.map a.eval).toList = vs at hlen hget
    cases vs with
    | nil => simp at hlen
    | cons v vs =>
      have h0 := rel_int (hget 0 (by simp))
      simp only [List.getElem_cons_zero] at h0
      subst h0
      exact ⟨vs, rfl, by simpa using hlen.symm, fun i hi => by have := hget (i + 1) (by simpa using hi); simpa [getT] using this⟩
  obtain ⟨vs, e, hl2, hr2⟩ := hvs
  have hrun := foldI_run (E := E) (w := w) hf us vs k n z hl2 hr2 hz
  unfold Runs execOp
  rw [ho]
  simp only [resolve, hc]
  rw [run_bindM run_pure]
  show (builtin b c.argTypes o.type _ (c.args.map a.eval)).run E.P w = _
  rcases hb _ (c.args.map a.eval) with hb | hb
  · rw [hb, e]
    simp only
    rw [run_bindM hrun]; rfl
  · rw [e] at hb; cases hb

/-! ### slices -/

theorem runs_slice {t : TypeId} {x : Operand} {lo hi mx : Option Operand} {v : Value} (ho : o.op = .slice t x lo hi mx) (hna : ∀ n e, E.P.underlying t ≠ some (.array n e)) {d : TypeDesc} (hu : E.P.underlying t = some d)
    (h : (Instr.slice t (a.eval x) (lo.map a.eval) (hi.map a.eval) (mx.map a.eval)).run E.P w = .ok v w) : Runs E a o w v w := by
  refine runs_v (s := Instr.sliceAt t (a.eval x) (lo.map a.eval) (hi.map a.eval) (mx.map a.eval)) (by unfold execOp; rw [ho]) ?_
  unfold Instr.sliceAt
  rw [run_bindM (run_underlying hu)]
  cases d <;> first | exact h | exact absurd hu (hna _ _)

/-- the bounds of a slice expression -/
theorem bounds_run {isS : Bool} {len cap l hh : Nat} {lo hi : Option Value} (hlo : (lo = none ∧ l = 0) ∨ ∃ k, lo = some (.int k (l : Int))) (hhi : (hi = none ∧ hh = len) ∨ ∃ k, hi = some (.int k (hh : Int)))
    (h1 : l ≤ hh) (h2 : hh ≤ cap) : (Instr.sliceBounds isS len cap lo hi none).run E.P w = .ok (l, hh, cap) w := by
  have hb : ∀ (k : IntKind) (n y : Nat) (c : BoundsCode), n ≤ y → (Instr.sliceBound (.int k (n : Int)) y c).run E.P w = .ok n w := by
    intro k n y c hn
    unfold Instr.sliceBound
    rw [run_bindM (show (asIntOf (.int k (n : Int))).run E.P w = .ok (k, (n : Int)) w from rfl)]
    simp only
    rw [if_pos ⟨by omega, by omega⟩]; rfl
  unfold Instr.sliceBounds
  simp only
  rw [run_bindM run_pure]
  rcases hhi with ⟨rfl, rfl⟩ | ⟨k, rfl⟩
  · simp only
    rw [run_bindM run_pure]
    rcases hlo with ⟨rfl, rfl⟩ | ⟨k', rfl⟩
    · rfl
    · simp only
      rw [run_bindM (hb k' l hh _ h1)]; rfl
  · simp only
    rw [run_bindM (hb k hh cap _ h2)]
    rcases hlo with ⟨rfl, rfl⟩ | ⟨k', rfl⟩
    · rfl
    · simp only
      rw [run_bindM (hb k' l hh _ h1)]; rfl

/-- a bound as a value -/
theorem bound_val {d : Int} {ou : Option T} {ov : Option Value} {z : Int} (hr : (ou = none ∧ ov = none) ∨ ∃ u v, ou = some u ∧ ov = some v ∧ RelT G m p w u v) (hb : bound d ou = some z) :
    (ov = none ∧ z = d) ∨ ∃ k, ov = some (.int k z) := by
  rcases hr with ⟨rfl, rfl⟩ | ⟨u, v, rfl, rfl, hr⟩
  · simp only [bound, Option.some.injEq] at hb; exact .inl ⟨rfl, hb.symm⟩
  · simp only [bound] at hb
    obtain ⟨k, e⟩ := intOf_rel hb hr
    exact .inr ⟨k, by rw [e]⟩

end
end Mini

/- Slice expressions. -/
namespace Mini
open Go

section
variable {E : Env} {B : Base} {κ : Nat} {G : Gh} {m : Mem} {p : Nat → Prop} {w : World} {tm : List T} {a : Act} {o : Oper}

theorem row_sub {α : Type} {P : Nat → Nat → Prop} {one : α → List Value → Prop} {sz b o l h : Nat} {xs : List α} (hr : Row w P one sz b o xs) : Row w P one sz b (o + l * sz) ((xs.take h).drop l) := by
  intro i hi
  rw [List.length_drop, List.length_take] at hi
  obtain ⟨c, hc, hd⟩ := hr (l + i) (by omega)
  refine ⟨c, ?_, fun j hj => ?_⟩
  · rw [List.getElem_drop, List.getElem_take]; exact hc
  · have := hd j hj
    rw [Nat.add_mul, ← Nat.add_assoc] at this
    exact this

/-- a slice of data, cut -/
theorem sl_cut {ow : OwF} {t : Ty} {xs : List (El t)} {ad : Option Addr} {len cap l h : Nat} (hr : Rep w ow (.sl t) xs [.slice ad len cap]) (h1 : l ≤ h) (h2 : h ≤ len) :
    Rep w ow (.sl t) ((xs.take h).drop l) [.slice (if cap = l then ad else ad.map (·.add (l * t.size))) (h - l) (cap - l)] := by
  obtain ⟨ad', len', cap', e, e1, e2, e3⟩ := hr
  simp only [List.cons.injEq, Value.slice.injEq, and_true] at e
  obtain ⟨rfl, rfl, rfl⟩ := e
  have hl : List.length (α := El t) xs = len := e1.symm
  refine ⟨_, _, _, rfl, ?_, by omega, fun hne => ?_⟩
  · rw [List.length_drop, List.length_take]; omega
  · have hne' : xs ≠ ([] : List (El t)) := by rintro rfl; exact hne (by rw [List.take_nil, List.drop_nil])
    obtain ⟨b, o', rfl, hrow⟩ := e3 hne'
    have hlen : ((xs.take h).drop l).length ≠ 0 := fun hz => hne (List.length_eq_zero_iff.1 hz)
    rw [List.length_drop, List.length_take] at hlen
    refine ⟨b, o' + l * t.size, ?_, row_sub hrow⟩
    rw [if_neg (by omega)]
    simp only [Option.map_some, addr_add]

theorem run_slice_sl {t e : TypeId} {inf : TypeInfo} {sz : Nat} (hu : E.P.underlying t = some (.slice e)) (hinf : E.P.info? e = some inf) (hs : inf.size = sz) {ad : Option Addr} {len cap l h : Nat} {lo hi : Option Value}
    (hlo : (lo = none ∧ l = 0) ∨ ∃ k, lo = some (.int k (l : Int))) (hhi : (hi = none ∧ h = len) ∨ ∃ k, hi = some (.int k (h : Int))) (h1 : l ≤ h) (h2 : h ≤ len) (h3 : len ≤ cap) :
    (Instr.slice t (.slice ad len cap) lo hi none).run E.P w = .ok (.slice (if cap = l then ad else ad.map (·.add (l * sz))) (h - l) (cap - l)) w := by
  unfold Instr.slice
  rw [run_bindM (run_underlying hu)]
  simp only
  rw [run_bindM (bounds_run hlo hhi h1 (by omega))]
  simp only
  rw [run_bindM (run_sizeOf hinf), hs]; rfl

theorem run_slice_str {t : TypeId} (hu : E.P.underlying t = some .string) {s : List UInt8} {l h : Nat} {lo hi : Option Value}
    (hlo : (lo = none ∧ l = 0) ∨ ∃ k, lo = some (.int k (l : Int))) (hhi : (hi = none ∧ h = s.length) ∨ ∃ k, hi = some (.int k (h : Int))) (h1 : l ≤ h) (h2 : h ≤ s.length) :
    (Instr.slice t (.string ⟨⟨s⟩⟩) lo hi none).run E.P w = .ok (.string ⟨⟨(s.take h).drop l⟩⟩) w := by
  unfold Instr.slice
  rw [run_bindM (run_underlying hu)]
  simp only [Option.isSome_none, Bool.false_eq_true, if_false]
  have hsz : (⟨⟨s⟩⟩ : ByteArray).size = s.length := rfl
  show ((Instr.sliceBounds false _ _ lo hi none) >>= _).run E.P w = _
  rw [run_bindM (bounds_run (len := (⟨⟨s⟩⟩ : ByteArray).size) hlo (by rw [hsz]; exact hhi) h1 (by rw [hsz]; exact h2))]
  simp only
  rw [extract_str]; rfl

/-- an optional operand and what it is -/
def RelO (G : Gh) (m : Mem) (p : Nat → Prop) (w : World) (ou : Option T) (ov : Option Value) : Prop := (ou = none ∧ ov = none) ∨ ∃ u v, ou = some u ∧ ov = some v ∧ RelT G m p w u v

theorem bound_nat {d : Nat} {ou : Option T} {ov : Option Value} {z : Int} (hr : RelO G m p w ou ov) (hb : bound (d : Int) ou = some z) (hz : 0 ≤ z) : (ov = none ∧ z.toNat = d) ∨ ∃ k, ov = some (.int k (z.toNat : Int)) := by
  rcases bound_val hr hb with ⟨h1, h2⟩ | ⟨k, h1⟩
  · exact .inl ⟨h1, by omega⟩
  · exact .inr ⟨k, by rw [h1]; congr 2; omega⟩

theorem relO_share {G' : Gh} {m' : Mem} {ou : Option T} {ov : Option Value} (hle : MemLe G m p G' m' p) (hk : Keeps w G.ow w G'.ow) (h : RelO G m p w ou ov) : RelO G' m' p w ou ov := by
  rcases h with h | ⟨u, v, h1, h2, h3⟩
  · exact .inl h
  · exact .inr ⟨u, v, h1, h2, relT_mono hle hk h3⟩

/-- a slice of the call's own is cut at its end: the elder one ends -/
theorem gr_cut {k : Nat} {g : Gr} {n len cap : Nat} {ad : Option Addr} (h : RelAll E B G m p w tm a) (hp : p k) (hg : lk m.gr k = some g) (hmd : g.md = .excl) (hv : G.gv k = .slice ad len cap)
    (hn : n ≤ len) (hκb : lk m.boxes κ = none) (hκg : lk m.gr κ = none) :
    ∃ G', RelAll E B G' ⟨m.boxes, (κ, ⟨g.t, g.xs.take n, .excl, 0⟩) :: up m.gr k killG⟩ p w tm a ∧ G'.gv κ = .slice ad n cap := by
  classical
  have hok := h.inv.gr k g hp hg
  simp only [GrOK, hmd] at hok
  obtain ⟨ad', len', cap', h1, h2, h3, h5⟩ := hok
  rw [hv] at h1
  simp only [Value.slice.injEq] at h1
  obtain ⟨rfl, rfl, rfl⟩ := h1
  let G' : Gh := { G with
    ow := fun b' q => if G.ow b' q = .gr k then .gr κ else G.ow b' q
    gv := fun q => if q = κ then .slice ad n cap else G.gv q }
  have hk : Keeps w G.ow w G'.ow := fun b o ho => ⟨by show (if G.ow b o = .gr k then _ else _) = _; rw [if_neg (by rw [ho]; simp)]; exact ho, rfl⟩
  have hsame : ∀ b' q, G.ow b' q ≠ .gr k → G'.ow b' q = G.ow b' q := fun b' q hq => if_neg hq
  have hle : MemLe G m p G' ⟨m.boxes, (κ, ⟨g.t, g.xs.take n, .excl, 0⟩) :: up m.gr k killG⟩ p := by
    refine ⟨fun _ h => h, fun q cs _ hc => ⟨rfl, cs, hc, rfl⟩, fun q g' _ hg' => ?_⟩
    have hqκ : κ ≠ q := by rintro rfl; rw [hκg] at hg'; cases hg'
    by_cases hq : q = k
    · subst hq
      exact ⟨killG g', by simp only [lk_cons, if_neg hqκ, lk_up_self, hg', Option.map_some], .dead _ _ rfl, fun hd => absurd rfl hd⟩
    · exact ⟨g', by simp only [lk_cons, if_neg hqκ, lk_up_ne _ _ hq, hg'], grLe_refl g', fun _ => by
        show (if q = κ then _ else G.gv q) = _
        rw [if_neg (Ne.symm hqκ)]⟩
  refine ⟨G', ⟨relTm_mono hle hk h.tms, ⟨?_, ?_, ?_⟩, ?_, glob_mono hk h.glob, h.defers, bx_mono hle h.bx, h.sz⟩, by show (if κ = κ then _ else _) = _; rw [if_pos rfl]⟩
  · intro q cs hq hc'
    exact boxOK_mono hle hk rfl (fun b o ho => ⟨(hsame b o (by rw [ho]; simp)).trans ho, rfl, rfl⟩) (h.inv.box q cs hq hc')
  · intro q g' hq hg'
    rw [lk_cons] at hg'
    by_cases hqκ : κ = q
    · subst hqκ
      rw [if_pos rfl] at hg'
      obtain rfl := Option.some.inj hg'
      show GrRow G' w κ g.t (g.xs.take n) (.gr κ)
      refine ⟨ad, n, cap, by show (if κ = κ then _ else _) = _; rw [if_pos rfl], by rw [List.length_take]; omega, by omega, fun hcp => ?_⟩
      obtain ⟨b, o', e, hrow, hsp⟩ := h5 hcp
      have hgk : ∀ q, G.ow b q = .gr k → G'.ow b q = .gr κ := fun q hq => if_pos hq
      refine ⟨b, o', e, ?_, fun q hq1 hq2 => ?_⟩
      · intro i hi
        rw [List.length_take] at hi
        obtain ⟨l, hl, hc⟩ := hrow i (by omega)
        refine ⟨l, by rw [List.getElem_take]; exact rep_mono hk _ _ _ hl, fun j hj => ?_⟩
        obtain ⟨⟨c1, c2⟩, c3⟩ := hc j hj
        exact ⟨⟨hgk _ c1, fun _ => c2 rfl⟩, c3⟩
      · by_cases hq : len * g.t.size ≤ q
        · obtain ⟨s1, s2, s3⟩ := hsp q hq hq2
          exact ⟨hgk _ s1, s2, s3⟩
        · have hsz : 0 < g.t.size := by
            rcases Nat.eq_zero_or_pos g.t.size with hz | hz
            · rw [hz] at hq; simp at hq
            · exact hz
          have hi : q / g.t.size < g.xs.length := by rw [Nat.div_lt_iff_lt_mul hsz, ← h2]; omega
          obtain ⟨l, hl, hc⟩ := hrow _ hi
          have hj := Nat.mod_lt q hsz
          obtain ⟨⟨c1, c2⟩, c3⟩ := hc _ hj
          have he : o' + q / g.t.size * g.t.size + q % g.t.size = o' + q := by
            have := Nat.div_add_mod q g.t.size
            rw [Nat.mul_comm] at this; omega
          rw [he] at c1 c2 c3
          have hll := rep_len _ _ _ hl
          exact ⟨hgk _ c1, c2 rfl, l[q % g.t.size]'(by omega), by rw [c3, List.getElem?_eq_getElem]⟩
    · rw [if_neg hqκ] at hg'
      by_cases hqk : q = k
      · subst hqk
        rw [lk_up_self, hg] at hg'
        obtain rfl := Option.some.inj hg'
        trivial
      · rw [lk_up_ne _ _ hqk] at hg'
        exact grOK_mono hk (by show (if q = κ then _ else G.gv q) = _; rw [if_neg (Ne.symm hqκ)]) (fun b o ho => ⟨(hsame b o (by rw [ho]; simp; omega)).trans ho, rfl, rfl⟩) (h.inv.gr q g' hq hg')
  · intro b' q ho
    refine h.inv.lt b' q (fun hn => ho ?_)
    show (if G.ow b' q = .gr k then _ else G.ow b' q) = _
    rw [if_neg (by rw [hn]; simp)]; exact hn
  · have hfr := h.fr
    refine ⟨hfr.os, hfr.tape, hfr.output, hfr.size, hfr.cell, hfr.block, fun b' o' hb ho => ?_, fun b' o' ho => (hk _ _ (hfr.prot b' o' ho)).1, fun b' o' hb ho => by have := hfr.non b' o' hb ho; exact (if_neg (by rw [this]; simp)).trans this⟩
    by_cases hgk : G.ow b' o' = .gr k
    · exact hfr.own b' o' hb (by rw [hgk]; trivial)
    · rw [hsame b' o' hgk] at ho
      exact hfr.own b' o' hb ho

/-- a new entry over cells that are data already, without room behind it -/
theorem gr_view {m' : Mem} {p' : Nat → Prop} {t : Ty} {xs : List (El t)} {ad : Option Addr} {len cap : Nat} (h : RelAll E B G m p w tm a) (hn : NewKey m m' p p' κ) (hg : lk m'.gr κ = some ⟨t, xs, .shared, 0⟩) (hb : lk m'.boxes κ = none)
    (hr : Rep w G.ow (.sl t) xs [.slice ad len cap]) (hcap : cap = len) :
    ∃ G', RelAll E B G' m' p' w tm a ∧ G'.gv κ = .slice ad len cap := by
  let G' : Gh := { G with gv := fun q => if q = κ then .slice ad len cap else G.gv q }
  have hk : Keeps w G.ow w G'.ow := Keeps.refl _ _
  have hle : MemLe G m p G' m' p' := newKey_le hn (fun _ _ => rfl) (fun q hq => by show (if q = κ then _ else G.gv q) = _; rw [if_neg hq])
  refine ⟨G', ⟨relTm_mono hle hk h.tms, ⟨?_, ?_, h.inv.lt⟩, h.fr, h.glob, h.defers, bx_mono hle h.bx, h.sz⟩, by show (if κ = κ then _ else _) = _; rw [if_pos rfl]⟩
  · intro q cs hq hc
    have hne : q ≠ κ := by rintro rfl; rw [hb] at hc; cases hc
    rw [hn.box q hne] at hc
    exact boxOK_mono hle hk rfl (fun b o ho => ⟨ho, rfl, rfl⟩) (h.inv.box q cs ((hn.down q hq).resolve_right hne) hc)
  · intro q g hq hg'
    by_cases hqκ : q = κ
    · subst hqκ
      rw [hg] at hg'
      obtain rfl := Option.some.inj hg'
      show GrRow G' w q t xs .prot
      obtain ⟨ad', len', cap', e, e1, e2, e3⟩ := hr
      simp only [List.cons.injEq, Value.slice.injEq, and_true] at e
      obtain ⟨rfl, rfl, rfl⟩ := e
      subst hcap
      refine ⟨ad, cap, cap, by show (if q = q then _ else _) = _; rw [if_pos rfl], e1, Nat.le_refl _, fun hcp => ?_⟩
      obtain ⟨b, o', rfl, hrow⟩ := e3 (by rintro rfl; simp at e1; omega)
      exact ⟨b, o', rfl, row_mono (fun _ _ h => h) (fun _ h => ⟨⟨h, fun hx => by cases hx⟩, rfl⟩) hrow, fun z hz1 hz2 => by omega⟩
    · rw [hn.gr q hqκ] at hg'
      exact grOK_mono hk (by show (if q = κ then _ else G.gv q) = _; rw [if_neg hqκ]) (fun b o ho => ⟨ho, rfl, rfl⟩) (h.inv.gr q g ((hn.down q hq).resolve_right hqκ) hg')

theorem addr_str (x : Value) : True := trivial

/-- the operands of a slice expression -/
structure SlOp (E : Env) (G : Gh) (m : Mem) (p : Nat → Prop) (w : World) (a : Act) (o : Oper) (t : TypeId) (x : Operand) (lo hi mx : Option Operand) (u : T) (ul uh : Option T) : Prop where
  op : o.op = .slice t x lo hi mx
  x : RelT G m p w u (a.eval x)
  lo : RelO G m p w ul (lo.map a.eval)
  hi : RelO G m p w uh (hi.map a.eval)

theorem slice_str_ok (hE : EnvOK E) {t : TypeId} {x : Operand} {lo hi : Option Operand} {s : List UInt8} {ul uh : Option T} {l hh : Int} (h : RelAll E B G m p w tm a) (hs : SlOp E G m p w a o t x lo hi none (.dat .str s) ul uh)
    (hty : E.ty t = some .str) (hl : bound 0 ul = some l) (hh' : bound (s.length : Int) uh = some hh) : OpOK E B κ G m p w tm a o (partT .str (subL s l hh)) := by
  refine ok_vpart0 h fun y hy => ?_
  obtain ⟨h0, h1, h2, rfl⟩ := subL_some hy
  have hu := fit_str (hE.ty _ _ hty)
  refine ⟨_, runs_slice hs.op (by intro n e; rw [hu]; simp) hu ?_, dat_str⟩
  rw [rel_str hs.x]
  exact run_slice_str hu (bound_nat (d := 0) hs.lo hl h0) (bound_nat hs.hi hh' (by omega)) (by omega) (by omega)

theorem slice_sl_ok (hE : EnvOK E) {t : TypeId} {x : Operand} {lo hi : Option Operand} {t1 : Ty} {xs : List (El t1)} {ks : List Nat} {u : T} {ul uh : Option T} {l hh : Int} (h : RelAll E B G m p w tm a) (hs : SlOp E G m p w a o t x lo hi none u ul uh)
    (hty : E.ty t = some (.sl t1)) (hl : bound 0 ul = some l) (hh' : bound (xs.length : Int) uh = some hh) (hks : ∀ k ∈ ks, p k)
    (hd : ∀ G', RelAll E B G' (m.share ks) p w tm a → RelT G' (m.share ks) p w u (a.eval x) → RelT G' (m.share ks) p w (.dat (.sl t1) xs) (a.eval x)) :
    OpOK E B κ G m p w tm a o (.vpart ks (.sl t1) (subL xs l hh) (.dat (.sl t1))) := by
  refine ok_vpart h hks fun y hy G' h' hle hk => ?_
  obtain ⟨h0, h1, h2, rfl⟩ := subL_some hy
  obtain ⟨e, hu, he⟩ := fit_slice (hE.ty _ _ hty)
  obtain ⟨inf, e3, e4⟩ := fit_size he
  have hr := hd G' h' (relT_mono hle hk hs.x)
  obtain ⟨ad, len, cap, ev, hlen, hcap, hrow⟩ := rel_sl hr
  have hrep : Rep w G'.ow (.sl t1) xs [.slice ad len cap] := ⟨ad, len, cap, rfl, hlen, hcap, hrow⟩
  have hcut := sl_cut (l := l.toNat) (h := hh.toNat) hrep (by omega) (by omega)
  refine ⟨_, w, Quiet.refl w, runs_slice hs.op (by intro n e; rw [hu]; simp) hu ?_, dat_rep (repV_join hcut)⟩
  rw [ev]
  rw [← hlen] at hh'
  exact run_slice_sl hu e3 e4 (bound_nat (d := 0) hs.lo hl h0) (bound_nat hs.hi hh' (by omega)) (by omega) (by omega) hcap

end
end Mini

/- Slice expressions, all of them. -/
namespace Mini
open Go

section
variable {E : Env} {B : Base} {κ : Nat} {G : Gh} {m : Mem} {p : Nat → Prop} {w : World} {tm : List T} {a : Act} {o : Oper}

/-- an entry that is shared is data -/
theorem own_dat {k : Nat} {g : Gr} {v : Value} (h : RelAll E B G m p w tm a) (hg : lk m.gr k = some g) (hmd : g.md = .shared) (hr : RelT G m p w (.own k) v) : RelT G m p w (.dat (.sl g.t) g.xs) v := by
  obtain ⟨hp, g', hg', hv⟩ := hr
  rw [hg] at hg'; obtain rfl := Option.some.inj hg'
  have hok := h.inv.gr k g hp hg
  simp only [GrOK, hmd] at hok
  obtain ⟨ad, len, cap, h1, h2, h3, h5⟩ := hok
  rw [hv (by rw [hmd]; simp), h1]
  refine dat_rep (show Rep w G.ow (.sl g.t) g.xs [.slice ad len cap] from ⟨ad, len, cap, rfl, h2, h3, fun hne => ?_⟩)
  have hcp : 0 < cap := by
    rcases Nat.eq_zero_or_pos cap with hz | hz
    · have : g.xs.length = 0 := by omega
      exact absurd (List.length_eq_zero_iff.1 this) hne
    · exact hz
  obtain ⟨b, o, rfl, hrow, _⟩ := h5 hcp
  exact ⟨b, o, rfl, row_mono (fun _ _ h => h) (fun o h => ⟨h.1, rfl⟩) hrow⟩

theorem lk_share_one {m : Mem} {k : Nat} {g : Gr} (hg : lk m.gr k = some g) : lk (m.share [k]).gr k = some (shareG g) := by
  simp only [Mem.share, shareKs, lk_up_self, hg, Option.map_some]
theorem shareG_data (g : Gr) : (shareG g).t = g.t ∧ (g.md ≠ .dead → (shareG g).md = .shared) := by
  obtain ⟨t, xs, md, v⟩ := g
  cases md <;> simp [shareG]

/-- a shared entry of the elder one's data -/
theorem own_shared {k : Nat} {g : Gr} {v : Value} {G' : Gh} (h : RelAll E B G' (m.share [k]) p w tm a) (hg : lk m.gr k = some g) (hd : g.md ≠ .dead) (hr : RelT G' (m.share [k]) p w (.own k) v) :
    RelT G' (m.share [k]) p w (.dat (.sl g.t) g.xs) v := by
  have := own_dat h (lk_share_one hg) ((shareG_data g).2 hd) hr
  obtain ⟨t, xs, md, ver⟩ := g
  cases md <;> exact this

/-- the run of a slice expression with a third bound that is the second -/
theorem run_slice_top {t e : TypeId} {inf : TypeInfo} {sz : Nat} (hu : E.P.underlying t = some (.slice e)) (hinf : E.P.info? e = some inf) (hs : inf.size = sz) {ad : Option Addr} {len cap l h : Nat} {lo : Option Value} {k k' : IntKind}
    (hlo : (lo = none ∧ l = 0) ∨ ∃ k, lo = some (.int k (l : Int))) (h1 : l ≤ h) (h2 : h ≤ cap) :
    (Instr.slice t (.slice ad len cap) lo (some (.int k (h : Int))) (some (.int k' (h : Int)))).run E.P w = .ok (.slice (if h = l then ad else ad.map (·.add (l * sz))) (h - l) (h - l)) w := by
  have hb : ∀ (k : IntKind) (n y : Nat) (c : BoundsCode), n ≤ y → (Instr.sliceBound (.int k (n : Int)) y c).run E.P w = .ok n w := by
    intro k n y c hn
    unfold Instr.sliceBound
    rw [run_bindM (show (asIntOf (.int k (n : Int))).run E.P w = .ok (k, (n : Int)) w from rfl)]
    simp only
    rw [if_pos ⟨by omega, by omega⟩]; rfl
  have hbs : (Instr.sliceBounds true len cap lo (some (.int k (h : Int))) (some (.int k' (h : Int)))).run E.P w = .ok (l, h, h) w := by
    unfold Instr.sliceBounds
    simp only
    rw [run_bindM (hb k' h cap _ h2)]
    rw [run_bindM (hb k h h _ (Nat.le_refl _))]
    rcases hlo with ⟨rfl, rfl⟩ | ⟨q, rfl⟩
    · rfl
    · simp only
      rw [run_bindM (hb q l h _ h1)]; rfl
  unfold Instr.slice
  rw [run_bindM (run_underlying hu)]
  simp only
  rw [run_bindM hbs]
  simp only
  rw [run_bindM (run_sizeOf hinf), hs]; rfl

theorem sameOp_val {x y : Operand} {k : IntKind} {n : Int} (h : sameOp x y = true) (hy : a.eval y = .int k n) : ∃ k', a.eval x = .int k' n := by
  unfold sameOp at h
  split at h
  · simp only [beq_iff_eq] at h; subst h; exact ⟨k, hy⟩
  · have h := of_decide_eq_true h
    subst h
    simp only [Act.eval, Value.int.injEq] at hy
    exact ⟨_, by simp only [Act.eval]; rw [hy.2]⟩
  · cases h

theorem slice_top_ok (hE : EnvOK E) {t : TypeId} {x : Operand} {lo : Option Operand} {yh ym : Operand} {t1 : Ty} {xs : List (El t1)} {ks : List Nat} {u : T} {ul uh : Option T} {l hh : Int} (h : RelAll E B G m p w tm a) (hs : SlOp E G m p w a o t x lo (some yh) (some ym) u ul uh)
    (hsame : sameOp ym yh = true) (hty : E.ty t = some (.sl t1)) (hl : bound 0 ul = some l) (hh' : bound (xs.length : Int) uh = some hh) (hks : ∀ k ∈ ks, p k)
    (hd : ∀ G', RelAll E B G' (m.share ks) p w tm a → RelT G' (m.share ks) p w u (a.eval x) → RelT G' (m.share ks) p w (.dat (.sl t1) xs) (a.eval x)) :
    OpOK E B κ G m p w tm a o (.gpart ks (.sl t1) (subL xs l hh) fun zs => ⟨t1, zs, .shared, 0⟩) := by
  rintro u' m' p' ⟨y, hy, rfl, hn, hgk, hbk⟩ next Q hnext
  obtain ⟨h0, h1, h2, rfl⟩ := subL_some hy
  obtain ⟨G', h', hle, hk, _, _, _⟩ := share_all ks h hks
  obtain ⟨e, hu, he⟩ := fit_slice (hE.ty _ _ hty)
  obtain ⟨inf, e3, e4⟩ := fit_size he
  have hr := hd G' h' (relT_mono hle hk hs.x)
  obtain ⟨ad, len, cap, ev, hlen, hcap, hrow⟩ := rel_sl hr
  have hrep : Rep w G'.ow (.sl t1) xs [.slice ad len cap] := ⟨ad, len, cap, rfl, hlen, hcap, hrow⟩
  -- the same data, with less room
  have hrep2 : Rep w G'.ow (.sl t1) (xs.take hh.toNat) [.slice ad hh.toNat hh.toNat] := by
    refine ⟨ad, hh.toNat, hh.toNat, rfl, by rw [List.length_take]; omega, Nat.le_refl _, fun hne => ?_⟩
    obtain ⟨b, o', rfl, hr⟩ := hrow (by rintro rfl; exact hne (by rw [List.take_nil]))
    have := row_sub (l := 0) (h := hh.toNat) hr
    rw [Nat.zero_mul, Nat.add_zero, List.drop_zero] at this
    exact ⟨b, o', rfl, this⟩
  have hcut := sl_cut (l := l.toNat) (h := hh.toNat) hrep2 (by omega) (Nat.le_refl _)
  rw [List.take_take, Nat.min_self] at hcut
  obtain ⟨kh, ehi⟩ : ∃ k, a.eval yh = .int k (hh.toNat : Int) := by
    rcases bound_nat hs.hi hh' (by omega) with ⟨e, _⟩ | ⟨k, e⟩
    · cases e
    · exact ⟨k, by simpa using e⟩
  obtain ⟨km, emx⟩ := sameOp_val hsame ehi
  have hrun := run_slice_top (E := E) (w := w) (ad := ad) (len := len) (cap := cap) (k := kh) (k' := km) hu e3 e4 (bound_nat (d := 0) hs.lo hl h0) (show l.toNat ≤ hh.toNat by omega) (by omega)
  obtain ⟨G2, h2', hgv⟩ := gr_view h' hn hgk hbk hcut rfl
  refine wp_runs (runs_slice hs.op (by intro n e; rw [hu]; simp) hu (v := .slice (if hh.toNat = l.toNat then ad else ad.map (·.add (l.toNat * t1.size))) (hh.toNat - l.toNat) (hh.toNat - l.toNat)) ?_) (hnext _ _ G2 h2' (relT_of1 ⟨hn.new, _, hgk, fun _ => hgv.symm⟩))
  rw [ev]
  simp only [Option.map_some, ehi, emx]
  exact hrun

theorem ty_sl_inj {a b : Ty} (h : a = b) : Ty.sl a = Ty.sl b := by rw [h]


theorem run_sliceAt_arr {t e : TypeId} {n : Nat} {inf : TypeInfo} {sz : Nat} (hu : E.P.underlying t = some (.array n e)) (hinf : E.P.info? e = some inf) (hs : inf.size = sz) {b o' l h : Nat} {lo hi : Option Value}
    (hlo : (lo = none ∧ l = 0) ∨ ∃ k, lo = some (.int k (l : Int))) (hhi : (hi = none ∧ h = n) ∨ ∃ k, hi = some (.int k (h : Int))) (h1 : l ≤ h) (h2 : h ≤ n) :
    (Instr.sliceAt t (ptr b o') lo hi none).run E.P w = .ok (.slice (some (if n = l then ⟨b, o', none⟩ else ⟨b, o' + l * sz, none⟩)) (h - l) (n - l)) w := by
  unfold Instr.sliceAt
  rw [run_bindM (run_underlying hu)]
  simp only
  rw [run_bindM (show (Instr.sureAddr (ptr b o')).run E.P w = .ok ⟨b, o', none⟩ w from rfl), run_bindM (bounds_run hlo hhi h1 h2)]
  simp only
  rw [run_bindM (run_sizeOf hinf), hs, addr_add]; rfl

theorem slice_arr_ok (hE : EnvOK E) {t : TypeId} {x : Operand} {lo hi : Option Operand} {n : Nat} {t1 : Ty} {xs : List (El t1)} {ul uh : Option T} {l hh : Int} (h : RelAll E B G m p w tm a) (hs : SlOp E G m p w a o t x lo hi none (.rptr (.arr n t1) xs) ul uh)
    (hty : E.ty t = some (.arr n t1)) (hl : bound 0 ul = some l) (hh' : bound (xs.length : Int) uh = some hh) : OpOK E B κ G m p w tm a o (partT (.sl t1) (subL xs l hh)) := by
  refine ok_vpart0 h fun y hy => ?_
  obtain ⟨h0, h1, h2, rfl⟩ := subL_some hy
  obtain ⟨e, hu, he⟩ := fit_arr (hE.ty _ _ hty)
  obtain ⟨inf, e3, e4⟩ := fit_size he
  obtain ⟨b, o', ev, ll, ⟨hn, hrl⟩, hc⟩ := hs.x
  have hlen := repN_len (sz := t1.size) (fun x l h => rep_len t1 x l h) _ _ hrl
  have hn' : xs.length = n := hn
  have hrun := run_sliceAt_arr (E := E) (w := w) (b := b) (o' := o') (l := l.toNat) (h := hh.toNat) hu e3 e4 (bound_nat (d := 0) hs.lo hl h0) (by rw [hn'] at hh'; exact bound_nat hs.hi hh' (by omega)) (by omega) (by omega)
  refine ⟨_, runs_v (s := Instr.sliceAt t (a.eval x) (lo.map a.eval) (hi.map a.eval) (Option.map a.eval none)) (by unfold execOp; rw [hs.op]) (by rw [ev]; exact hrun), ?_⟩
  have hrow : Row w (fun b o => G.ow b o = .prot) (fun x l => Rep w G.ow t1 x l) t1.size b o' xs := by
    intro i hi
    refine ⟨_, repN_get (sz := t1.size) (fun x l h => rep_len t1 x l h) _ _ i hi hrl, fun j hj => ?_⟩
    have hb : (i + 1) * t1.size ≤ n * t1.size := Nat.mul_le_mul_right _ (by omega)
    rw [Nat.succ_mul] at hb
    obtain ⟨c1, c2⟩ := hc (i * t1.size + j) (by simp only [Ty.size]; omega)
    rw [Nat.add_assoc]
    exact ⟨c1, by rw [c2, List.getElem?_take, if_pos hj, List.getElem?_drop]⟩
  refine dat_rep (show Rep w G.ow (.sl t1) _ [_] from ⟨_, _, _, rfl, by rw [List.length_drop, List.length_take]; omega, by omega, fun hne => ⟨b, o' + l.toNat * t1.size, ?_, row_sub hrow⟩⟩)
  have hlen2 : ((xs.take hh.toNat).drop l.toNat).length ≠ 0 := fun hz => hne (List.length_eq_zero_iff.1 hz)
  rw [List.length_drop, List.length_take] at hlen2
  rw [if_neg (by omega)]

theorem slice_ok (hE : EnvOK E) {t : TypeId} {x : Operand} {lo hi mx : Option Operand} {u : T} {ul uh : Option T} (h : RelAll E B G m p w tm a) (hs : SlOp E G m p w a o t x lo hi mx u ul uh) :
    OpOK E B κ G m p w tm a o (sliceT E m t u ul uh (topOf mx hi)) := by
  have htop : ∀ b, topOf mx hi = some b → b = true → ∃ yh ym, hi = some yh ∧ mx = some ym ∧ sameOp ym yh = true := by
    intro b hb he
    subst he
    unfold topOf at hb
    split at hb
    · cases hb
    · rename_i ym yh; exact ⟨yh, ym, rfl, rfl, Option.some.inj hb⟩
    · cases hb
  have hnone : topOf mx hi = none → mx = none := by
    intro hb
    unfold topOf at hb
    split at hb
    · rfl
    · cases hb
    · cases hb
  unfold sliceT
  split
  · rename_i hty
    split
    · rename_i l hh hl hh' ht
      obtain rfl := hnone ht
      exact slice_str_ok hE h hs hty hl hh'
    · exact ok_bad
  · rename_i hty
    split
    · rename_i l hh he hl hh'
      obtain rfl := eq?_eq he
      split
      · rename_i ht
        obtain rfl := hnone ht
        exact slice_sl_ok hE h hs hty hl hh' (by simp) (fun _ _ hr => hr)
      · rename_i ht
        obtain ⟨yh, ym, rfl, rfl, hsame⟩ := htop _ ht rfl
        exact slice_top_ok hE h hs hsame hty hl hh' (by simp) (fun _ _ hr => hr)
      · exact ok_bad
    · exact ok_bad
  · rename_i t1 hty
    split
    · rename_i l hh hl hh' ht
      obtain rfl := hnone ht
      refine ok_vpart0 h fun y hy => ?_
      obtain ⟨h0, h1, h2, _⟩ := subL_some hy
      obtain ⟨e, hu, he⟩ := fit_slice (hE.ty _ _ hty)
      obtain ⟨inf, e3, e4⟩ := fit_size he
      have ev : a.eval x = .slice none 0 0 := hs.x
      have h2' : hh ≤ 0 := h2
      refine ⟨.slice none 0 0, runs_slice hs.op (by intro n e; rw [hu]; simp) hu ?_, rfl⟩
      rw [ev]
      have := run_slice_sl (E := E) (w := w) (ad := none) (len := 0) (cap := 0) (l := l.toNat) (h := hh.toNat) hu e3 e4 (bound_nat (d := 0) hs.lo hl h0) (bound_nat (d := 0) hs.hi hh' (by omega)) (by omega) (by omega) (Nat.le_refl _)
      rw [Option.map_none, this, if_pos (by omega)]
      congr 2 <;> omega
    · exact ok_bad
  · rename_i k t1 hty
    split
    · rename_i g hg
      have hp : p k := hs.x.1
      split
      · rename_i l hh he hl hh'
        obtain rfl := eq?_eq he
        split
        · exact ok_bad
        · rename_i ht hmd
          obtain rfl := hnone ht
          split
          · rename_i hln
            -- the elder slice ends; one that is shorter takes its place
            rintro u' m' p' ⟨y, hy, rfl, hpp, hpκ, hg0, hb0, rfl⟩ next Q hnext
            obtain rfl : p = p' := hpp.symm
            obtain ⟨h0, h1, h2, rfl⟩ := subL_some hy
            obtain ⟨_, g', hg', hv⟩ := hs.x
            rw [hg] at hg'; obtain rfl := Option.some.inj hg'
            obtain ⟨ad, len, cap, ev, hlen, hcap, _⟩ := gr_row h hp hg (by rw [hmd]; simp)
            obtain ⟨G2, h2', hgv⟩ := gr_cut (n := hh.toNat) h hp hg hmd ev (by omega) hb0 hg0
            obtain ⟨e, hu, he⟩ := fit_slice (hE.ty _ _ hty)
            obtain ⟨inf, e3, e4⟩ := fit_size he
            have hlo : lo.map a.eval = none := by
              rcases hs.lo with ⟨_, e⟩ | ⟨_, _, e, _, _⟩
              · exact e
              · rw [e] at hln; cases hln
            refine wp_runs (runs_slice hs.op (by intro n e; rw [hu]; simp) hu (v := .slice ad hh.toNat cap) ?_) (hnext _ _ G2 ?_ (relT_of1 ⟨hpκ, ⟨g.t, g.xs.take hh.toNat, .excl, 0⟩, ?_, fun _ => hgv.symm⟩))
            · rw [hv (by rw [hmd]; simp), ev, hlo]
              rw [← hlen] at hh'
              have := run_slice_sl (E := E) (w := w) (ad := ad) (len := len) (cap := cap) (l := 0) (h := hh.toNat) hu e3 e4 (.inl ⟨rfl, rfl⟩) (bound_nat hs.hi hh' (by omega)) (by omega) (by omega) hcap
              rw [Option.map_none, this]
              congr 2
              · split
                · rfl
                · cases ad with
                  | none => rfl
                  | some pa => simp [Addr.add]
            · show RelAll E B G2 ⟨m.boxes, (κ, ⟨g.t, List.drop (Int.toNat 0) (g.xs.take hh.toNat), .excl, 0⟩) :: up m.gr k killG⟩ p w tm a
              simpa using h2'
            · show lk ((κ, _) :: up m.gr k killG) κ = _
              simp [lk_cons]
          · refine slice_sl_ok hE h hs hty hl hh' (by simpa using hp) (fun G' h' hr => own_shared h' hg (by rw [hmd]; simp) hr)
        · rename_i ht hmd
          obtain rfl := hnone ht
          exact slice_sl_ok hE h hs hty hl hh' (by simpa using hp) (fun G' h' hr => own_shared h' hg (by rw [hmd]; simp) hr)
        · rename_i ht hmd
          obtain ⟨yh, ym, rfl, rfl, hsame⟩ := htop _ ht rfl
          exact slice_top_ok hE h hs hsame hty hl hh' (by simpa using hp) (fun G' h' hr => own_shared h' hg hmd hr)
        · exact ok_bad
      · exact ok_bad
    · exact ok_bad
  · rename_i n t1 xs n' u1 hty
    split
    · rename_i l hh he hl hh' ht
      obtain rfl := hnone ht
      have he' := eq?_eq he
      injection he' with he1 he2
      subst he1; subst he2
      exact slice_arr_ok hE h hs hty hl hh'
    · exact ok_bad
  · exact ok_bad

end
end Mini

/- Loads, new variables, stores. -/
namespace Mini
open Go

/-- two tables with the same contents -/
def GrSame (gr gr' : List (Nat × Gr)) : Prop :=
  ∀ k, (lk gr k = none ∧ lk gr' k = none) ∨ ∃ t xs md md' v v', lk gr k = some ⟨t, xs, md, v⟩ ∧ lk gr' k = some ⟨t, xs, md', v'⟩ ∧ (md = .dead ↔ md' = .dead)

theorem rdCell_congr {gr gr' : List (Nat × Gr)} (h : GrSame gr gr') (t : Ty) (u : T) : rdCell gr' t u = rdCell gr t u := by
  cases u with
  | own k =>
    simp only [rdCell]
    rcases h k with ⟨h1, h2⟩ | ⟨t1, xs, md, md', v, v', h1, h2, h3⟩
    · rw [h1, h2]
    · rw [h1, h2]
      simp only
      generalize Ty.eq? (.sl t1) t = q
      cases q <;> cases md <;> cases md' <;> first | rfl | (simp at h3; done)
  | _ => rfl

theorem share_same (gr : List (Nat × Gr)) (ks : List Nat) : GrSame gr (shareKs gr ks) := by
  intro k
  rw [lk_shareKs]
  cases lk gr k with
  | none => exact .inl ⟨rfl, rfl⟩
  | some g =>
    right
    obtain ⟨t, xs, md, v⟩ := g
    by_cases hk : k ∈ ks
    · cases md with
      | excl => exact ⟨t, xs, .excl, .shared, v, v, rfl, by simp [hk, shareG], by simp⟩
      | shared => exact ⟨t, xs, .shared, .shared, v, v, rfl, by simp [hk, shareG], by simp⟩
      | dead => exact ⟨t, xs, .dead, .dead, v, v, rfl, by simp [hk, shareG], by simp⟩
    · exact ⟨t, xs, md, md, v, v, rfl, by simp [hk], Iff.rfl⟩

theorem rdCell_share (gr : List (Nat × Gr)) (ks : List Nat) (t : Ty) (u : T) : rdCell (shareKs gr ks) t u = rdCell gr t u := rdCell_congr (share_same gr ks) t u

theorem asm_congr {gr gr' : List (Nat × Gr)} (h : ∀ t u, rdCell gr' t u = rdCell gr t u) : ∀ (t : Ty) (l : List T), asm gr' t l = asm gr t l := by
  have h1 : ∀ (t : Ty) (l : List T), asm1 gr' t l = asm1 gr t l := by
    intro t l; cases l with
    | nil => rfl
    | cons c l => simp only [asm1, h]
  intro t
  induction t with
  | unit => intro l; rfl
  | pair a b iha ihb => intro l; simp only [asm, iha, ihb]
  | arr n t ih =>
    intro l
    simp only [asm]
    have : asm gr' t = asm gr t := funext ih
    rw [this]
  | _ => intro l; simp only [asm, h1]

theorem asm_share (gr : List (Nat × Gr)) (ks : List Nat) (t : Ty) (l : List T) : asm (shareKs gr ks) t l = asm gr t l := asm_congr (rdCell_share gr ks) t l

theorem mem_ownsOf {k : Nat} : ∀ {l : List T} {j : Nat}, j < l.length → getT l j = .own k → k ∈ ownsOf l := by
  intro l
  induction l with
  | nil => intro j h; simp at h
  | cons u l ih =>
    intro j h e
    cases j with
    | zero => simp only [getT] at e; subst e; simp [ownsOf]
    | succ j =>
      have := ih (by simpa using h) (show getT l j = .own k from e)
      cases u <;> simp [ownsOf, this]

theorem share_notexcl {m : Mem} {ks : List Nat} {k : Nat} {g : Gr} (hk : k ∈ ks) (hg : lk (m.share ks).gr k = some g) : g.md ≠ .excl := by
  simp only [Mem.share, lk_shareKs] at hg
  cases h : lk m.gr k with
  | none => rw [h] at hg; cases hg
  | some g0 =>
    rw [h] at hg
    simp only [Option.map_some, hk, if_true, Option.some.injEq] at hg
    subst hg
    obtain ⟨t, xs, md, v⟩ := g0
    cases md <;> simp [shareG]

section
variable {E : Env} {B : Base} {κ : Nat} {G : Gh} {m : Mem} {p : Nat → Prop} {w : World} {tm : List T} {a : Act} {o : Oper}

theorem owns_act : ∀ {l : List T}, (∀ j, j < l.length → ∃ v, Rel1 G m p w (getT l j) v) → ∀ k ∈ ownsOf l, p k := by
  intro l
  induction l with
  | nil => intro _ k hk; simp [ownsOf] at hk
  | cons u l ih =>
    intro h k hk
    have ih' := ih (fun j hj => h (j + 1) (by simpa using hj))
    cases u with
    | own q =>
      simp only [ownsOf, List.mem_cons] at hk
      rcases hk with rfl | hk
      · obtain ⟨v, hv⟩ := h 0 (by simp)
        exact hv.1
      · exact ih' k hk
    | _ => exact ih' k hk

/-- the values of a run of cells of a box -/
theorem box_vals {i off n : Nat} {cs : List T} (h : RelAll E B G m p w tm a) (hp : p i) (hc : lk m.boxes i = some cs) (hl : off + n ≤ cs.length) :
    ∃ vs : List Value, vs.length = n ∧ ∀ j (hj : j < vs.length), cl w (G.bx i).1 ((G.bx i).2 + off + j) = some vs[j] ∧ vs[j].oneCell = true ∧ Rel1 G m p w (getT (cs.drop off) j) vs[j] := by
  induction n with
  | zero => exact ⟨[], rfl, fun j hj => by simp at hj⟩
  | succ n ih =>
    obtain ⟨vs, h1, h2⟩ := ih (by omega)
    obtain ⟨_, _, v, c1, c2, c3⟩ := h.inv.box i cs hp hc (off + n) (by omega)
    refine ⟨vs ++ [v], by simp [h1], fun j hj => ?_⟩
    by_cases hlt : j < vs.length
    · rw [List.getElem_append_left hlt]; exact h2 j hlt
    · have : j = n := by simp at hj; omega
      subst this
      rw [List.getElem_append_right (by omega)]
      simp only [h1, Nat.sub_self, List.getElem_cons_zero]
      rw [Nat.add_assoc, getT_drop]
      exact ⟨c1, c2, c3⟩

theorem run_isAgg_one {tid : Nat} (h : oneB E.P tid = true) : (isAgg tid).run E.P w = .ok false w := by
  unfold oneB at h
  split at h <;> try (cases h; done)
  simp only [Bool.and_eq_true] at h
  obtain ⟨_, h⟩ := h
  split at h <;> try (cases h; done)
  rename_i d hna hns hd
  unfold isAgg
  rw [run_bindM (run_underlying hd)]
  cases d <;> first | rfl | exact absurd rfl (hna _) | exact absurd rfl (hns _ _)

theorem run_loadVar_one {tid b o' : Nat} {v : Value} (h : (isAgg tid).run E.P w = .ok false w) (hc : cl w b o' = some v) : (loadVar tid ⟨b, o', none⟩).run E.P w = .ok v w := by
  unfold loadVar
  rw [run_bindM h]
  exact run_load hc

theorem runs_load {tid b o' : Nat} {x : Operand} {v : Value} (ho : o.op = .load tid x) (hx : a.eval x = ptr b o') (h : (loadVar tid ⟨b, o', none⟩).run E.P w = .ok v w) : Runs E a o w v w := by
  refine runs_v (s := Instr.loadAt tid (a.eval x)) (by unfold execOp; rw [ho]) ?_
  rw [hx]
  unfold Instr.loadAt
  rw [run_bindM (show (Instr.sureAddr (ptr b o')).run E.P w = .ok ⟨b, o', none⟩ w from rfl)]
  exact h

theorem load_ok (hE : EnvOK E) {tid : TypeId} {x : Operand} {u : T} (h : RelAll E B G m p w tm a) (ho : o.op = .load tid x) (hx : RelT G m p w u (a.eval x)) :
    OpOK E B κ G m p w tm a o (loadT E m tid u) := by
  cases u with
  | addr i off =>
    obtain ⟨hp, ⟨cs, hc⟩, ev⟩ := hx
    have one : (isAgg tid).run E.P w = .ok false w → off < cs.length → OpOK E B κ G m p w tm a o (.val [] (getT cs off)) := by
      intro hag hlt
      obtain ⟨_, _, v, c1, c2, c3⟩ := h.inv.box i cs hp hc off hlt
      exact ok_val0 h (runs_load ho ev (run_loadVar_one hag c1)) (relT_of1 c3)
    simp only [loadT, hc]
    split
    · rename_i cs' t hcs hty
      obtain rfl := Option.some.inj hcs
      split
      · rename_i hag
        split
        · rename_i y r hasm
          obtain ⟨hlen, _⟩ := asm_len t (cs.drop off) y r hasm
          rw [List.length_drop] at hlen
          by_cases hle0 : off ≤ cs.length
          · obtain ⟨vs, hvl, hvs⟩ := box_vals (off := off) (cs := cs) (n := t.size) h hp hc (by omega)
            refine ok_val h ?_ fun G' h' hle hk => ?_
            · refine owns_act (G := G) (m := m) (w := w) fun j hj => ?_
              rw [List.length_take] at hj
              exact ⟨vs[j]'(by omega), by rw [getT_take (cs.drop off) t.size j (by omega)]; exact (hvs j (by omega)).2.2⟩
            · have hrep : Rep w G'.ow t y vs := by
                refine asm_rep (G := G') (m := m.share (ownsOf ((cs.drop off).take t.size))) (p := p) h'.inv.gr t (cs.drop off) y r vs ?_ hvl (fun j hj => rel1_mono hle hk (hvs j hj).2.2) ?_
                · simp only [Mem.share]; rw [asm_share]; exact hasm
                · intro j hj k g he hg
                  refine share_notexcl (mem_ownsOf (l := (cs.drop off).take t.size) (j := j) ?_ ?_) hg
                  · rw [List.length_take, List.length_drop]; omega
                  · rw [getT_take _ _ _ hj]; exact he
              refine ⟨joinV t vs, w, Quiet.refl w, runs_load ho ev (run_loadVar (hE.ty _ _ hty) hvl (fun j hj => ?_)), dat_rep (repV_join hrep)⟩
              rw [(hvs j (by omega)).1, List.getElem?_eq_getElem]
          · have h0 : t.size = 0 := by omega
            have : cs.drop off = [] := List.drop_of_length_le (by omega)
            have hvs : Rep w G.ow t y [] := by
              rw [this] at hasm
              exact asm_rep (G := G) (m := m) (p := p) h.inv.gr t [] y r [] hasm (by simp [h0]) (fun j hj => by simp at hj) (fun j hj => by omega)
            rw [this, List.take_nil]
            refine ok_val0 h (runs_load ho ev (run_loadVar (l := []) (hE.ty _ _ hty) (by simp [h0]) (fun j hj => by omega))) (dat_rep (repV_join hvs))
        · exact ok_bad
      · rename_i hag
        split
        · rename_i hlt
          refine one ?_ hlt
          have := run_isAgg (w := w) (hE.ty _ _ hty)
          simpa [hag] using this
        · exact ok_bad
    · rename_i cs' hcs hty
      obtain rfl := Option.some.inj hcs
      split
      · rename_i hcond
        exact one (run_isAgg_one (hE.one _ hcond.1)) hcond.2
      · exact ok_bad
    · exact ok_bad
  | rptr t y =>
    obtain ⟨b, o', ev, l, hl, hc⟩ := hx
    simp only [loadT]
    split
    · rename_i u hty
      split
      · rename_i he
        obtain rfl := eq?_eq he
        exact ok_val0 h (runs_load ho ev (run_loadVar (hE.ty _ _ hty) (rep_len _ _ _ hl) (fun j hj => (hc j hj).2))) (dat_rep (repV_join hl))
      · exact ok_bad
    · exact ok_bad
  | eptr k ver i off t y =>
    obtain ⟨hp, g, hg, hv⟩ := hx
    simp only [loadT, hg]
    split
    · rename_i g' u hge hty
      obtain rfl := Option.some.inj hge
      split
      · rename_i hver
        split
        · exact ok_bad
        · rename_i z hsub hd
          have hd : g.md ≠ .dead := hd
          obtain ⟨b, o', len, cap, h1, h2, h3, h4, h5, h6⟩ := hv hd
          obtain ⟨ht, h7⟩ := h6 hver
          subst ht
          obtain ⟨ad, len', cap', e1, e2, e3, e4⟩ := gr_row h hp hg hd
          rw [h1] at e1
          simp only [Value.slice.injEq] at e1
          obtain ⟨rfl, rfl, rfl⟩ := e1
          obtain ⟨b', o2, e5, hrow⟩ := e4 (by omega)
          simp only [Option.some.injEq, Addr.mk.injEq] at e5
          obtain ⟨rfl, rfl, _⟩ := e5
          obtain ⟨l, hl, hc⟩ := hrow _ h3
          have hy : g.xs[i.toNat] = y := by
            rw [List.getElem?_eq_getElem h3] at h7
            exact Option.some.inj h7
          rw [hy] at hl
          obtain ⟨s1, s2⟩ := subVal_spec (w := w) (ow := G.ow) _ y off u z hsub
          have hr := s2 l hl
          refine ok_val0 h (runs_load ho h4 (run_loadVar (hE.ty _ _ hty) (rep_len _ _ _ hr) (fun j hj => ?_))) (dat_rep (repV_join hr))
          have := (hc (off + j) (by omega)).2
          rw [List.getElem?_take, if_pos hj, List.getElem?_drop, ← this]
          congr 1; omega
        · exact ok_bad
      · exact ok_bad
    · exact ok_bad
  | aptr i off n u ix =>
    obtain ⟨hp, ⟨cs, hc, hlen⟩, h0, h1, ev⟩ := hx
    simp only [loadT, hc]
    split
    · rename_i cs' t hcs hty
      obtain rfl := Option.some.inj hcs
      split
      · rename_i xs r _ hasm he
        obtain rfl := eq?_eq he
        obtain ⟨vs, hvl, hvs⟩ := box_vals (off := off) (cs := cs) (n := n * u.size) h hp hc hlen
        refine ok_vpart h ?_ fun y hy G' h' hle hk => ?_
        · refine owns_act (G := G) (m := m) (w := w) fun j hj => ?_
          rw [List.length_take] at hj
          exact ⟨vs[j]'(by omega), by rw [getT_take (cs.drop off) (n * u.size) j (by omega)]; exact (hvs j (by omega)).2.2⟩
        · have hrep : Rep w G'.ow (.arr n u) xs vs := by
            refine asm_rep (G := G') (m := m.share (ownsOf ((cs.drop off).take (n * u.size)))) (p := p) h'.inv.gr (.arr n u) (cs.drop off) xs r vs ?_ hvl (fun j hj => rel1_mono hle hk (hvs j hj).2.2) ?_
            · simp only [Mem.share]; rw [asm_share]; exact hasm
            · intro j hj k g he hg
              refine share_notexcl (mem_ownsOf (l := (cs.drop off).take (n * u.size)) (j := j) ?_ ?_) hg
              · rw [List.length_take, List.length_drop]; simp only [Ty.size] at hj; omega
              · rw [getT_take _ _ _ (show j < n * u.size from hj)]; exact he
          obtain ⟨_, hi, hxy⟩ := rd_some hy
          have hr := repN_get (sz := u.size) (fun x l h => rep_len u x l h) _ _ _ hi hrep.2
          rw [hxy] at hr
          refine ⟨joinV u ((vs.drop (ix.toNat * u.size)).take u.size), w, Quiet.refl w, runs_load ho ev (run_loadVar (hE.ty _ _ hty) (rep_len _ _ _ hr) (fun j hj => ?_)), dat_rep (repV_join hr)⟩
          have hb : (ix.toNat + 1) * u.size ≤ n * u.size := Nat.mul_le_mul_right _ (by omega)
          rw [Nat.succ_mul] at hb
          have := (hvs (ix.toNat * u.size + j) (by omega)).1
          rw [List.getElem?_take, if_pos hj, List.getElem?_drop, List.getElem?_eq_getElem (by omega), ← this]
          congr 1; omega
      · exact ok_bad
    · exact ok_bad
  | _ => exact ok_bad

end
end Mini
