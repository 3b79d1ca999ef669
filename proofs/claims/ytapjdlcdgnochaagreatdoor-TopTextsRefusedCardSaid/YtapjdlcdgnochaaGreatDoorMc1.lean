/- The tables fit the program; what the functions of the library answer; from the plain law to the row and its card. -/
import Derived.Test.YtapjdlcdgnochaaGreatDoorMb1
import Derived.Test.YtapjdlcdgnochaaGreatDoorMa4
import Derived.Test.YtapjdlcdgnochaaGreatDoorMa5
import Derived.Below
import Derived.Sort.Grow
import Derived.Deep.Draws
import Derived.Lib.ConvBytes
import Derived.Shelf.Strings.Builder1
import Derived.Shelf.Strings.Builder2
import Derived.Shelf.Strings.OnBuilder
import Derived.Shelf.Strings.Trim
import Derived.Shelf.Small.Utf8
import Derived.Shelf.Small.Strs
import Derived.Shelf.Small.Wraps
import Derived.Shelf.Strings.BuilderF
import Derived.Shelf.Utf8.RuneCount
import Derived.Shelf.Strconv.Atoi
import Derived.Shelf.Strconv.Itoa0
import Derived.Shelf.Strconv.Itoa1
import Derived.Shelf.LaysM
import Derived.Shelf.Strconv.Itoa2
import Derived.Shelf.Strconv.Itoa3
import Derived.Shelf.Strconv.AtoiErrFast
import Derived.Shelf.Strconv.ParseIntEmpty
import Derived.Shelf.Strconv.AtoiFail
import Derived.Shelf.Strconv.Clone
import Derived.Shelf.Strconv.SyntaxError
import Derived.Shelf.LaysC
import Derived.Shelf.Strconv.ToError
import Derived.Shelf.Strconv.Lower
import Derived.Shelf.Strconv.ParseUint10
import Derived.Shelf.Strconv.ParseUint10Empty
import Derived.Shelf.Strconv.ParseUint10Any
import Derived.Shelf.Strconv.ParseInt10
import Derived.Shelf.Strconv.AtoiLong
import Derived.Shelf.Strconv.AtoiInnerAll
import Derived.Shelf.Strconv.RangeError
import Derived.Shelf.Strconv.ToErrorRange
import Derived.Shelf.Strconv.AtoiAll
import Derived.Shelf.Strconv.ErrVarAll
import Derived.Shelf.Strings.Search1
import Derived.Shelf.Strings.Search2
import Derived.Shelf.Strings.Search3
import Derived.Shelf.Strings.Cut
import Derived.Shelf.Strings.Count
import Derived.Shelf.Strings.Shaped
import Derived.Shelf.Strings.Prefix
import Derived.Shelf.Strings.Split
import Derived.Shelf.Strings.Replace
import Derived.Shelf.Strings.SplitShaped
import Derived.Shelf.Unicode.Decode
import Derived.Shelf.Strings.Runes
import Derived.Shelf.Strings.RuneCount
import Derived.Shelf.Strings.AsciiSet
import Derived.Shelf.Strings.Explode
import Derived.Shelf.Bits.Mul64
import Derived.Shelf.Strings.Repeat
import Derived.Shelf.Unicode.DecodeSlow
import Derived.Shelf.Unicode.DecodeAny
import Derived.Test.YtapjdlcdgnochaaGreatDoorProg
import Derived.Lib.SplitLaws
import Derived.WalkKit
import Derived.WalkSpells
import Derived.Deep.LoopGhost
import Derived.Deep.OwnRows
import Derived.Laws.CopyOwn
import Derived.Deep.RegionLaw
import Derived.Shelf.RegionOpenPlain
import Derived.Test.YtapjdlcdgnochaaGreatDoorMa2
import Derived.ChangeArms
import Derived.OpenShut
import Derived.Deep.Slices
import Derived.DataReads
import Derived.Test.YtapjdlcdgnochaaGreatDoorMa6
import Derived.Test.YtapjdlcdgnochaaGreatDoorTie
import Derived.Test.YtapjdlcdgnochaaGreatDoorCards
import Derived.ProofKit
import Derived.Lay
import Derived.Carry
import Derived.Shelf.Vars
import Derived.Lib.LaidU8
import Derived.SevenTiedAt
set_option linter.unusedSectionVars false
set_option linter.unusedSimpArgs false
set_option linter.unusedVariables false

/- The tables fit the program. -/
namespace Mini
open Go
variable [MX]
set_option maxRecDepth 100000

theorem lk_mem {α : Type} : ∀ {l : List (Nat × α)} {n : Nat} {x : α}, lk l n = some x → (n, x) ∈ l := by
  intro l
  induction l with
  | nil => intro n x h; cases h
  | cons p l ih =>
    intro n x h
    obtain ⟨k, y⟩ := p
    unfold lk at h
    split at h
    · rename_i hk
      obtain rfl := Option.some.inj h
      rw [hk]; exact List.mem_cons_self
    · exact List.mem_cons_of_mem _ (ih h)

theorem lk_memS {α : Type 1} : ∀ {l : List (Nat × α)} {n : Nat} {x : α}, (n, x) ∈ l → True := fun _ => trivial

theorem all_mem {α : Type} {p : α → Bool} {l : List α} (h : l.all p = true) {x : α} (hx : x ∈ l) : p x = true := List.all_eq_true.1 h x hx

theorem memN_mem : ∀ {l : List Nat} {n : Nat}, memN l n = true → n ∈ l := by
  intro l
  induction l with
  | nil => intro n h; cases h
  | cons x l ih =>
    intro n h
    simp only [memN, Bool.or_eq_true] at h
    rcases h with h | h
    · rw [Nat.eq_of_beq_eq_true h]; exact List.mem_cons_self
    · exact List.mem_cons_of_mem _ (ih h)

theorem eqL_eq : ∀ {a b : List Nat}, eqL a b = true → a = b := by
  intro a
  induction a with
  | nil => intro b h; cases b with
    | nil => rfl
    | cons => cases h
  | cons x a ih =>
    intro b h
    cases b with
    | nil => cases h
    | cons y b =>
      simp only [eqL, Bool.and_eq_true] at h
      rw [Nat.eq_of_beq_eq_true h.1, ih h.2]

theorem lkI_mem : ∀ {l : List (Nat × List Nat × Nat)} {f : Nat} {d : List Nat} {i : Nat}, lkI l f d = some i → (f, d, i) ∈ l := by
  intro l
  induction l with
  | nil => intro f d i h; cases h
  | cons p l ih =>
    intro f d i h
    obtain ⟨g, c, j⟩ := p
    unfold lkI at h
    split at h
    · rename_i hk
      obtain rfl := Option.some.inj h
      simp only [Bool.and_eq_true] at hk
      rw [Nat.eq_of_beq_eq_true hk.1, eqL_eq hk.2]; exact List.mem_cons_self
    · exact List.mem_cons_of_mem _ (ih h)

theorem ty_fit : (tyL.all fun p => fitB Go.Proofs.Tryz.prog p.2 p.1) = true := by kernel_rfl
theorem one_fit : (oneL.all fun n => oneB Go.Proofs.Tryz.prog n) = true := by kernel_rfl
theorem eqs_fit : (eqsL.all fun n => match lk tyL n with
  | some t => eqTB Go.Proofs.Tryz.prog t n && !Go.Proofs.Tryz.prog.eqGuardType Go.Proofs.Tryz.prog.depth n && Nat.ble t.depth 9999
  | none => true) = true := by kernel_rfl

theorem envOK : EnvOK E where
  eqs tid t h1 h2 := by
    have h := all_mem eqs_fit (memN_mem h1)
    rw [show lk tyL tid = some t from h2] at h
    simp only [Bool.and_eq_true, Bool.not_eq_true'] at h
    exact ⟨h.1.1, h.1.2, Nat.le_of_ble_eq_true h.2⟩
  ty tid t h := all_mem ty_fit (lk_mem h)
  one tid h := all_mem one_fit (memN_mem h)
  mixed := by kernel_rfl

def sigKeys : List (Nat × Nat) := sigL.map fun p => (p.1, p.2.fn)
theorem lk_sig {i : Nat} {s : Sig} : ∀ {l : List (Nat × Sig)}, lk l i = some s → (i, s.fn) ∈ (l.map fun p => (p.1, p.2.fn)) ∧ lk (l.map fun p => (p.1, p.2.fn)) i = some s.fn := by
  intro l
  induction l with
  | nil => intro h; cases h
  | cons p l ih =>
    intro h
    obtain ⟨k, y⟩ := p
    unfold lk at h
    split at h
    · rename_i hk
      obtain rfl := Option.some.inj h
      subst hk
      exact ⟨by simp, by simp [lk]⟩
    · rename_i hk
      obtain ⟨h1, h2⟩ := ih h
      exact ⟨List.mem_cons_of_mem _ h1, by simp only [List.map_cons, lk]; rw [if_neg hk]; exact h2⟩

def isBody (P : Program) (f : Nat) : Bool := match P.funcs[f]? with
  | some fn => fn.body.isSome && !(fn.name == "runtime.NumGoroutine")
  | none => false
theorem body_fit : ((sigL.map fun p => (p.1, p.2.fn)).all fun p => isBody Go.Proofs.Tryz.prog p.2) = true := by kernel_rfl
theorem inst_fit : (instL.all fun p => match lk (sigL.map fun p => (p.1, p.2.fn)) p.2.2 with
  | some f => Nat.beq f p.1
  | none => true) = true := by kernel_rfl

theorem instOK : InstOK E where
  fn f l i s h1 h2 := by
    have h := all_mem inst_fit (lkI_mem h1)
    simp only [(lk_sig h2).2] at h
    exact Nat.eq_of_beq_eq_true h
  body i s h := by
    have hb := all_mem body_fit (lk_sig h).1
    change isBody Go.Proofs.Tryz.prog s.fn = true at hb
    unfold isBody at hb
    split at hb
    · rename_i fn hf
      simp only [Bool.and_eq_true, Bool.not_eq_true'] at hb
      exact ⟨fn, hf, hb.1, hb.2⟩
    · cases hb
end Mini

/- Contracts of the library, as what functions come to. -/
namespace Mini
open Go Go.RowKit

theorem cl_below {w w' : World} {b o : Nat} (h : Below w.heap.size w w') (hb : b < w.heap.size) : cl w' b o = cl w b o := by
  unfold cl World.cell?
  rw [h.block b hb]

theorem fz_below {w w' : World} {b o : Nat} (h : Below w.heap.size w w') (hb : b < w.heap.size) : fz w' b o = fz w b o := by
  unfold fz World.frozen?
  rw [h.block b hb]

theorem cl_lt {w : World} {b o : Nat} {v : Value} (h : cl w b o = some v) : b < w.heap.size := by
  unfold cl World.cell? at h
  split at h
  · rename_i hb
    exact (Array.getElem?_eq_some_iff.1 hb).1
  · cases h

theorem done_below {E : Env} {G : Gh} {m : Mem} {w w' : World} {sh : Shape} {z : El sh.ty} {vs : List Value} {bx : Nat → Nat × Nat} {len : Nat → Nat} (ow' : OwF) (gv' : Nat → Value)
    (hI : InvM G m All w) (hg : GlobOK E G.ow w) (hb : Below w.heap.size w w')
    (hold : ∀ b o, b < w.heap.size → ow' b o = G.ow b o)
    (hnew : ∀ b o, w.heap.size ≤ b → ow' b o ≠ .none → b < w'.heap.size)
    (hinv : (∀ b o, ow' b o ≠ .none → b < w'.heap.size) → InvM { G with ow := ow', gv := gv' } (unpack sh z).m All w')
    (hl : vs.length = sh.tmps.length)
    (hr : Keeps w G.ow w' ow' → ∀ q, q < sh.tmps.length → Rel1 { G with ow := ow', gv := gv' } (unpack sh z).m All w' (getT (unpack sh z).tm q) (vs.getD q undef)) :
    Done E w G.ow bx 0 len sh z { G with ow := ow', gv := gv' } vs w' := by
  have hlt := hI.lt
  have hk : Keeps w G.ow w' ow' := fun b o hp => by
    have hb1 := hlt b o (by rw [hp]; exact fun h => by cases h)
    exact ⟨by rw [hold b o hb1, hp], cl_below hb hb1⟩
  have hlt' : ∀ b o, ow' b o ≠ .none → b < w'.heap.size := fun b o h => by
    by_cases h1 : b < w.heap.size
    · exact Nat.lt_of_lt_of_le h1 hb.size
    · exact hnew b o (Nat.le_of_not_lt h1) h
  exact {
    inv := hinv hlt'
    fr := {
      os := hb.os
      tape := hb.tape
      output := hb.output
      size := hb.size
      cell := fun b o h1 _ => ⟨cl_below hb h1, fz_below hb h1⟩
      block := fun b h1 _ => hb.block b h1
      own := fun b o h1 h2 => by rw [← hold b o h1]; exact h2
      prot := fun b o h1 => (hold b o (hlt b o (by rw [h1]; exact fun h => by cases h))).trans h1
      non := fun b o h1 h2 => (hold b o h1).trans h2 }
    glob := glob_mono hk hg
    vlen := hl
    res := hr hk
    bx := fun j hj => by omega }

/-- a result without memory: all that lies there is data -/
theorem done_data {E : Env} {G : Gh} {m : Mem} {w w' : World} {sh : Shape} {z : El sh.ty} {vs : List Value} {bx : Nat → Nat × Nat} {len : Nat → Nat} (ow' : OwF)
    (hI : InvM G m All w) (hg : GlobOK E G.ow w) (hb : Below w.heap.size w w')
    (hold : ∀ b o, b < w.heap.size → ow' b o = G.ow b o)
    (hnew : ∀ b o, w.heap.size ≤ b → ow' b o ≠ .none → b < w'.heap.size)
    (hm : (unpack sh z).m = ⟨[], []⟩)
    (hl : vs.length = sh.tmps.length)
    (hr : Keeps w G.ow w' ow' → ∀ q, q < sh.tmps.length → Rel1 { G with ow := ow' } ⟨[], []⟩ All w' (getT (unpack sh z).tm q) (vs.getD q undef)) :
    Done E w G.ow bx 0 len sh z { G with ow := ow' } vs w' := by
  refine done_below ow' G.gv hI hg hb hold hnew (fun hlt' => ?_) hl (fun hk => ?_)
  · rw [hm]
    exact { box := fun k cs _ h => by simp [lk] at h, gr := fun k g _ h => by simp [lk] at h, lt := hlt' }
  · rw [hm]; exact hr hk

/-- where the world is as it was, or has new blocks behind it, and the results are data of one cell without addresses -/
theorem done_same {E : Env} {G : Gh} {m : Mem} {w w' : World} {sh : Shape} {z : El sh.ty} {vs : List Value} {bx : Nat → Nat × Nat} {len : Nat → Nat}
    (hI : InvM G m All w) (hg : GlobOK E G.ow w) (hb : Below w.heap.size w w')
    (hm : (unpack sh z).m = ⟨[], []⟩)
    (hl : vs.length = sh.tmps.length)
    (hr : ∀ q, q < sh.tmps.length → Rel1 G ⟨[], []⟩ All w' (getT (unpack sh z).tm q) (vs.getD q undef)) :
    Done E w G.ow bx 0 len sh z G vs w' :=
  done_data G.ow hI hg hb (fun _ _ _ => rfl) (fun b o h1 h2 => by have := hI.lt b o h2; omega) hm hl (fun _ => hr)

theorem below_drewN (B : Nat) (w : World) (n : Nat) : Below B w (w.drewN n) := ⟨rfl, rfl, rfl, Nat.le_refl _, fun _ _ => rfl⟩

theorem below_grow (w : World) (n : Nat) (os : Array Obj) : Below w.heap.size w (Go.Sort.grow (w.drewN n) os) := by
  refine ⟨rfl, rfl, rfl, ?_, fun k hk => ?_⟩
  · simp [Go.Sort.grow, World.drewN]
  · simp only [Go.Sort.grow, World.drewN]
    exact Array.getElem?_append_left hk
theorem below_alloc (w : World) (o : Obj) : Below w.heap.size w (w.alloc o) := by
  refine ⟨rfl, rfl, rfl, ?_, fun k hk => ?_⟩
  · rw [World.size_alloc]; omega
  · show (w.heap.push o)[k]? = w.heap[k]?
    rw [Array.getElem?_push_lt hk, Array.getElem?_eq_getElem hk]

end Mini

/- The contracts of the library at this program: laid by the shelf's own tools in plain words; what this proof needs of them. -/
namespace Go.Proofs
open Go.Shelf
def Tryz.lays156_ren : Go.Shelf.Ren := ⟨fun | 156 => 18 | 165 => 35 | 166 => 36 | 169 => 37 | 240 => 71 | 241 => 72 | 276 => 106 | 277 => 107 | n => n, fun | 31 => 54 | 9 => 9 | 3 => 3 | 4 => 4 | 0 => 0 | 20 => 20 | 72 => 86 | 76 => 90 | 70 => 83 | 37 => 84 | 75 => 89 | 127 => 123 | 164 => 149 | 5 => 5 | 80 => 92 | n => n, fun | n => n⟩
theorem Tryz.lays156 : Go.Proofs.Lays.n156 Tryz.prog Tryz.lays156_ren := {
  mixed := by kernel_rfl
  f156 := Tryz.func18.trans (congrArg some (by kernel_rfl))
  f165 := Tryz.func35.trans (congrArg some (by kernel_rfl))
  f166 := Tryz.func36.trans (congrArg some (by kernel_rfl))
  f169 := Tryz.func37.trans (congrArg some (by kernel_rfl))
  f240 := Tryz.func71.trans (congrArg some (by kernel_rfl))
  f241 := Tryz.func72.trans (congrArg some (by kernel_rfl))
  f276 := Tryz.func106.trans (congrArg some (by kernel_rfl))
  f277 := Tryz.func107.trans (congrArg some (by kernel_rfl))
  t0 := Tryz.underlying0
  a0 := Tryz.isAgg0
  z0 := Tryz.sizeOf0
  v0 := Tryz.zeroValue0
  t3 := Tryz.underlying3
  a3 := Tryz.isAgg3
  z3 := Tryz.sizeOf3
  v3 := Tryz.zeroValue3
  t4 := Tryz.underlying4
  a4 := Tryz.isAgg4
  z4 := Tryz.sizeOf4
  v4 := Tryz.zeroValue4
  t9 := Tryz.underlying9
  a9 := Tryz.isAgg9
  z9 := Tryz.sizeOf9
  v9 := Tryz.zeroValue9
  t20 := Tryz.underlying20
  a20 := Tryz.isAgg20
  z20 := Tryz.sizeOf20
  v20 := Tryz.zeroValue20
  t31 := Tryz.underlying54
  a31 := Tryz.isAgg54
  z31 := Tryz.sizeOf54
  v31 := Tryz.zeroValue54
  t37 := Tryz.underlying84
  a37 := Tryz.isAgg84
  z37 := Tryz.sizeOf84
  v37 := Tryz.zeroValue84
  t70 := Tryz.underlying83
  a70 := Tryz.isAgg83
  z70 := Tryz.sizeOf83
  v70 := Tryz.zeroValue83
  t72 := Tryz.underlying86
  a72 := Tryz.isAgg86
  z72 := Tryz.sizeOf86
  v72 := Tryz.zeroValue86
  t75 := Tryz.underlying89
  a75 := Tryz.isAgg89
  z75 := Tryz.sizeOf89
  v75 := Tryz.zeroValue89
  t76 := Tryz.underlying90
  a76 := Tryz.isAgg90
  z76 := Tryz.sizeOf90
  v76 := Tryz.zeroValue90
  t127 := Tryz.underlying123
  a127 := Tryz.isAgg123
  z127 := Tryz.sizeOf123
  v127 := Tryz.zeroValue123
  t164 := Tryz.underlying149
  a164 := Tryz.isAgg149
  z164 := Tryz.sizeOf149
  v164 := Tryz.zeroValue149 }
theorem Tryz.Builder_Extra_156 : Builder.Extra Tryz.prog Tryz.lays156_ren := {
  sizeBuilder := by kernel_rfl
  liesBuilder := by kernel_rfl
  t5 := Tryz.underlying5
  a5 := Tryz.isAgg5
  z5 := Tryz.sizeOf5
  v5 := Tryz.zeroValue5
  infoByte := by kernel_rfl
  cellsByte := by kernel_rfl
  sizeByte := by kernel_rfl
  neB5 := by decide }
open Go.RowKit in
theorem Tryz.strings_Join_none (a : Option Addr) (c : Nat) (sep : ByteArray) (w : World) :
    Calls Tryz.prog 18 #[.slice a 0 c, .string sep] w fun e w' => e = .returned (.string ⟨#[]⟩) ∧ w' = w := Any.strings_Join_none Tryz.lays156 Tryz.Builder_Extra_156 a c sep w
open Go.RowKit in
theorem Tryz.strings_Join (bk o c : Nat) (xs : List ByteArray) (sep : ByteArray) (w : World) (hcells : ∀ (j : Nat) x, xs[j]? = some x → w.cell? ⟨bk, o + j, none⟩ = some (.string x)) (hbk : bk < w.heap.size) (hN : xs.length ≤ 140737488355328) (hcap : xs.length ≤ c) (hlen : (Lib.join (xs.map (·.data.toList)) sep.data.toList).length ≤ 140737488355328) :
    Calls Tryz.prog 18 #[.slice (some ⟨bk, o, none⟩) xs.length c, .string sep] w fun e w' => e = .returned (.string ⟨(Lib.join (xs.map (·.data.toList)) sep.data.toList).toArray⟩) ∧ Below w.heap.size w w' := Any.strings_Join Tryz.lays156 Tryz.Builder_Extra_156 bk o c xs sep w hcells hbk hN hcap hlen
def Tryz.lays161_ren : Go.Shelf.Ren := ⟨fun | 161 => 141 | 231 => 161 | 227 => 162 | 233 => 163 | 235 => 164 | 228 => 171 | 197 => 132 | 151 => 172 | 260 => 154 | 152 => 175 | 137 => 143 | 119 => 176 | 224 => 111 | 225 => 110 | 217 => 109 | 266 => 137 | n => n, fun | 9 => 9 | 4 => 4 | 3 => 3 | 5 => 5 | 117 => 196 | 116 => 195 | 0 => 0 | 124 => 199 | 105 => 166 | 21 => 21 | 119 => 205 | 46 => 122 | 139 => 208 | 138 => 207 | n => n, fun | 3 => 7 | 4 => 8 | n => n⟩
theorem Tryz.lays161 : Go.Proofs.Lays.n161 Tryz.prog Tryz.lays161_ren := {
  mixed := by kernel_rfl
  f119 := Tryz.func176.trans (congrArg some (by kernel_rfl))
  f137 := Tryz.func143.trans (congrArg some (by kernel_rfl))
  f151 := Tryz.func172.trans (congrArg some (by kernel_rfl))
  f152 := Tryz.func175.trans (congrArg some (by kernel_rfl))
  f161 := Tryz.func141.trans (congrArg some (by kernel_rfl))
  f197 := Tryz.func132.trans (congrArg some (by kernel_rfl))
  f217 := Tryz.func109.trans (congrArg some (by kernel_rfl))
  f224 := Tryz.func111.trans (congrArg some (by kernel_rfl))
  f225 := Tryz.func110.trans (congrArg some (by kernel_rfl))
  f227 := Tryz.func162.trans (congrArg some (by kernel_rfl))
  f228 := Tryz.func171.trans (congrArg some (by kernel_rfl))
  f231 := Tryz.func161.trans (congrArg some (by kernel_rfl))
  f233 := Tryz.func163.trans (congrArg some (by kernel_rfl))
  f235 := Tryz.func164.trans (congrArg some (by kernel_rfl))
  f260 := Tryz.func154.trans (congrArg some (by kernel_rfl))
  f266 := Tryz.func137.trans (congrArg some (by kernel_rfl))
  t0 := Tryz.underlying0
  a0 := Tryz.isAgg0
  z0 := Tryz.sizeOf0
  v0 := Tryz.zeroValue0
  t3 := Tryz.underlying3
  a3 := Tryz.isAgg3
  z3 := Tryz.sizeOf3
  v3 := Tryz.zeroValue3
  t4 := Tryz.underlying4
  a4 := Tryz.isAgg4
  z4 := Tryz.sizeOf4
  v4 := Tryz.zeroValue4
  t5 := Tryz.underlying5
  a5 := Tryz.isAgg5
  z5 := Tryz.sizeOf5
  v5 := Tryz.zeroValue5
  t9 := Tryz.underlying9
  a9 := Tryz.isAgg9
  z9 := Tryz.sizeOf9
  v9 := Tryz.zeroValue9
  t21 := Tryz.underlying21
  a21 := Tryz.isAgg21
  z21 := Tryz.sizeOf21
  v21 := Tryz.zeroValue21
  t46 := Tryz.underlying122
  a46 := Tryz.isAgg122
  z46 := Tryz.sizeOf122
  v46 := Tryz.zeroValue122
  t105 := Tryz.underlying166
  a105 := Tryz.isAgg166
  z105 := Tryz.sizeOf166
  v105 := Tryz.zeroValue166
  t116 := Tryz.underlying195
  a116 := Tryz.isAgg195
  z116 := Tryz.sizeOf195
  t117 := Tryz.underlying196
  a117 := Tryz.isAgg196
  z117 := Tryz.sizeOf196
  v117 := Tryz.zeroValue196
  t119 := Tryz.underlying205
  a119 := Tryz.isAgg205
  z119 := Tryz.sizeOf205
  t124 := Tryz.underlying199
  a124 := Tryz.isAgg199
  z124 := Tryz.sizeOf199
  v124 := Tryz.zeroValue199
  t138 := Tryz.underlying207
  a138 := Tryz.isAgg207
  z138 := Tryz.sizeOf207
  v138 := Tryz.zeroValue207
  t139 := Tryz.underlying208
  a139 := Tryz.isAgg208
  z139 := Tryz.sizeOf208
  v139 := Tryz.zeroValue208
  g3 := by kernel_rfl
  g4 := by kernel_rfl }
open Go.RowKit in
theorem Tryz.strings_TrimLeft_one (s : ByteArray) (c : UInt8) (hc : c.toNat < 128) (w : World) :
    Calls Tryz.prog 141 #[.string s, .string ⟨#[c]⟩] w fun e w' => e = .returned (.string ⟨(Lib.trimLeftB s.data.toList c).toArray⟩) ∧ w' = w := Any.strings_TrimLeft_one Tryz.lays161 s c hc w
def Tryz.lays137_ren : Go.Shelf.Ren := ⟨fun | 137 => 143 | 217 => 109 | 266 => 137 | n => n, fun | 9 => 9 | 5 => 5 | 3 => 3 | n => n, fun | n => n⟩
theorem Tryz.lays137 : Go.Proofs.Lays.n137 Tryz.prog Tryz.lays137_ren := {
  mixed := by kernel_rfl
  f137 := Tryz.func143.trans (congrArg some (by kernel_rfl))
  f217 := Tryz.func109.trans (congrArg some (by kernel_rfl))
  f266 := Tryz.func137.trans (congrArg some (by kernel_rfl))
  t3 := Tryz.underlying3
  a3 := Tryz.isAgg3
  z3 := Tryz.sizeOf3
  v3 := Tryz.zeroValue3
  t5 := Tryz.underlying5
  a5 := Tryz.isAgg5
  z5 := Tryz.sizeOf5
  v5 := Tryz.zeroValue5
  t9 := Tryz.underlying9
  a9 := Tryz.isAgg9
  z9 := Tryz.sizeOf9
  v9 := Tryz.zeroValue9 }
open Go.RowKit in
theorem Tryz.strings_IndexByte (s : ByteArray) (c : Int) (w : World) :
    Calls Tryz.prog 143 #[.string s, .int .u8 c] w fun e w' => e = .returned (.int .i64 (Lib.indexByte s.data.toList c.toNat.toUInt8)) ∧ w' = w := Any.strings_IndexByte Tryz.lays137 s c w
def Tryz.lays103_ren : Go.Shelf.Ren := ⟨fun | 103 => 42 | 210 => 77 | 206 => 41 | n => n, fun | 9 => 9 | 4 => 4 | 24 => 93 | 3 => 3 | n => n, fun | n => n⟩
theorem Tryz.lays103 : Go.Proofs.Lays.n103 Tryz.prog Tryz.lays103_ren := {
  mixed := by kernel_rfl
  f103 := Tryz.func42.trans (congrArg some (by kernel_rfl))
  f206 := Tryz.func41.trans (congrArg some (by kernel_rfl))
  f210 := Tryz.func77.trans (congrArg some (by kernel_rfl))
  t3 := Tryz.underlying3
  a3 := Tryz.isAgg3
  z3 := Tryz.sizeOf3
  v3 := Tryz.zeroValue3
  t4 := Tryz.underlying4
  a4 := Tryz.isAgg4
  z4 := Tryz.sizeOf4
  v4 := Tryz.zeroValue4
  t9 := Tryz.underlying9
  a9 := Tryz.isAgg9
  z9 := Tryz.sizeOf9
  v9 := Tryz.zeroValue9
  t24 := Tryz.underlying93
  a24 := Tryz.isAgg93
  z24 := Tryz.sizeOf93
  v24 := Tryz.zeroValue93 }
open Go.RowKit in
theorem Tryz.strings_CutPrefix (s p : ByteArray) (w : World) :
    Calls Tryz.prog 42 #[.string s, .string p] w fun e w' => e = .returned (.tuple #[.string ⟨(Lib.trimPrefix s.data.toList p.data.toList).toArray⟩, .bool (Lib.hasPrefix s.data.toList p.data.toList)]) ∧ w' = w := Any.strings_CutPrefix Tryz.lays103 s p w
def Tryz.lays104_ren : Go.Shelf.Ren := ⟨fun | 104 => 79 | 211 => 113 | 207 => 139 | n => n, fun | 9 => 9 | 4 => 4 | 24 => 93 | 3 => 3 | n => n, fun | n => n⟩
theorem Tryz.lays104 : Go.Proofs.Lays.n104 Tryz.prog Tryz.lays104_ren := {
  mixed := by kernel_rfl
  f104 := Tryz.func79.trans (congrArg some (by kernel_rfl))
  f207 := Tryz.func139.trans (congrArg some (by kernel_rfl))
  f211 := Tryz.func113.trans (congrArg some (by kernel_rfl))
  t3 := Tryz.underlying3
  a3 := Tryz.isAgg3
  z3 := Tryz.sizeOf3
  v3 := Tryz.zeroValue3
  t4 := Tryz.underlying4
  a4 := Tryz.isAgg4
  z4 := Tryz.sizeOf4
  v4 := Tryz.zeroValue4
  t9 := Tryz.underlying9
  a9 := Tryz.isAgg9
  z9 := Tryz.sizeOf9
  v9 := Tryz.zeroValue9
  t24 := Tryz.underlying93
  a24 := Tryz.isAgg93
  z24 := Tryz.sizeOf93
  v24 := Tryz.zeroValue93 }
open Go.RowKit in
theorem Tryz.strings_CutSuffix (s p : ByteArray) (w : World) (hs : s.size ≤ 9223372036854775807) :
    Calls Tryz.prog 79 #[.string s, .string p] w fun e w' => e = .returned (.tuple #[.string ⟨(Lib.trimSuffix s.data.toList p.data.toList).toArray⟩, .bool (Lib.hasSuffix s.data.toList p.data.toList)]) ∧ w' = w := Any.strings_CutSuffix Tryz.lays104 s p w hs
def Tryz.laysM171_ren : Go.Shelf.Ren := ⟨fun | 171 => 34 | 243 => 70 | 246 => 105 | 283 => 133 | 284 => 134 | 285 => 135 | 286 => 136 | 129 => 156 | 317 => 155 | 318 => 157 | 319 => 158 | 320 => 159 | 337 => 168 | 338 => 169 | n => n, fun | 3 => 3 | 9 => 9 | 2 => 2 | 4 => 4 | 171 => 168 | 0 => 0 | 53 => 169 | 37 => 84 | 5 => 5 | 173 => 172 | 212 => 189 | 51 => 174 | 20 => 20 | 213 => 190 | 46 => 122 | 232 => 216 | 233 => 217 | n => n, fun | 17 => 4 | 18 => 9 | 19 => 10 | n => n⟩
theorem Tryz.laysM171 : Go.Proofs.LaysM.n171 Tryz.prog Tryz.laysM171_ren := {
  mixed := by kernel_rfl
  f129 := Tryz.func156.trans (congrArg some (by kernel_rfl))
  f171 := Tryz.func34.trans (congrArg some (by kernel_rfl))
  f243 := Tryz.func70.trans (congrArg some (by kernel_rfl))
  f246 := Tryz.func105.trans (congrArg some (by kernel_rfl))
  f283 := Tryz.func133.trans (congrArg some (by kernel_rfl))
  f284 := Tryz.func134.trans (congrArg some (by kernel_rfl))
  f285 := Tryz.func135.trans (congrArg some (by kernel_rfl))
  f286 := Tryz.func136.trans (congrArg some (by kernel_rfl))
  f317 := Tryz.func155.trans (congrArg some (by kernel_rfl))
  f318 := Tryz.func157.trans (congrArg some (by kernel_rfl))
  f319 := Tryz.func158.trans (congrArg some (by kernel_rfl))
  f320 := Tryz.func159.trans (congrArg some (by kernel_rfl))
  f337 := Tryz.func168.trans (congrArg some (by kernel_rfl))
  f338 := Tryz.func169.trans (congrArg some (by kernel_rfl))
  t0 := Tryz.underlying0
  a0 := Tryz.isAgg0
  z0 := Tryz.sizeOf0
  v0 := Tryz.zeroValue0
  t2 := Tryz.underlying2
  a2 := Tryz.isAgg2
  z2 := Tryz.sizeOf2
  v2 := Tryz.zeroValue2
  t3 := Tryz.underlying3
  a3 := Tryz.isAgg3
  z3 := Tryz.sizeOf3
  v3 := Tryz.zeroValue3
  t4 := Tryz.underlying4
  a4 := Tryz.isAgg4
  z4 := Tryz.sizeOf4
  v4 := Tryz.zeroValue4
  t5 := Tryz.underlying5
  a5 := Tryz.isAgg5
  z5 := Tryz.sizeOf5
  v5 := Tryz.zeroValue5
  t9 := Tryz.underlying9
  a9 := Tryz.isAgg9
  z9 := Tryz.sizeOf9
  v9 := Tryz.zeroValue9
  t20 := Tryz.underlying20
  a20 := Tryz.isAgg20
  z20 := Tryz.sizeOf20
  v20 := Tryz.zeroValue20
  t37 := Tryz.underlying84
  a37 := Tryz.isAgg84
  z37 := Tryz.sizeOf84
  v37 := Tryz.zeroValue84
  t46 := Tryz.underlying122
  a46 := Tryz.isAgg122
  z46 := Tryz.sizeOf122
  v46 := Tryz.zeroValue122
  t51 := Tryz.underlying174
  a51 := Tryz.isAgg174
  z51 := Tryz.sizeOf174
  v51 := Tryz.zeroValue174
  t53 := Tryz.underlying169
  a53 := Tryz.isAgg169
  z53 := Tryz.sizeOf169
  v53 := Tryz.zeroValue169
  t171 := Tryz.underlying168
  a171 := Tryz.isAgg168
  z171 := Tryz.sizeOf168
  v171 := Tryz.zeroValue168
  t173 := Tryz.underlying172
  a173 := Tryz.isAgg172
  z173 := Tryz.sizeOf172
  v173 := Tryz.zeroValue172
  t212 := Tryz.underlying189
  a212 := Tryz.isAgg189
  z212 := Tryz.sizeOf189
  v212 := Tryz.zeroValue189
  t213 := Tryz.underlying190
  a213 := Tryz.isAgg190
  z213 := Tryz.sizeOf190
  t232 := Tryz.underlying216
  a232 := Tryz.isAgg216
  z232 := Tryz.sizeOf216
  v232 := Tryz.zeroValue216
  t233 := Tryz.underlying217
  a233 := Tryz.isAgg217
  z233 := Tryz.sizeOf217
  v233 := Tryz.zeroValue217
  g17 := by kernel_rfl
  g18 := by kernel_rfl
  g19 := by kernel_rfl
  i0 := by kernel_rfl
  i2 := by kernel_rfl
  i3 := by kernel_rfl
  i4 := by kernel_rfl
  i5 := by kernel_rfl
  i9 := by kernel_rfl
  i20 := by kernel_rfl
  i37 := by kernel_rfl
  i46 := by kernel_rfl
  i51 := by kernel_rfl
  i53 := by kernel_rfl
  i171 := by kernel_rfl
  i173 := by kernel_rfl
  i212 := by kernel_rfl
  i232 := by kernel_rfl
  i233 := by kernel_rfl
  m17 := by kernel_rfl
  m18 := by kernel_rfl
  m19 := by kernel_rfl }
open Go.RowKit Go.Sort Go.Lib in
theorem Tryz.strconv_Itoa (n : Int) (h0 : -9223372036854775808 ≤ n) (h1 : n ≤ 9223372036854775807) (w : World) (htab : Lib.TabIs Tryz.prog w "internal/strconv.uint64pow10" .u64 Lib.pow10Tab) :
    Calls Tryz.prog 34 #[.int .i64 n] w fun e w' => e = .returned (.string ⟨(Lib.itoa n).toArray⟩) ∧ ∃ k os, w' = grow (w.drewN k) os := Any.strconv_Itoa Tryz.laysM171 n h0 h1 w htab
def Tryz.laysC172_ren : Go.Shelf.Ren := ⟨fun | 172 => 82 | 244 => 120 | 245 => 121 | 247 => 146 | 279 => 147 | 280 => 148 | 281 => 149 | 282 => 150 | 287 => 165 | 316 => 166 | 171 => 34 | 205 => 167 | 321 => 173 | 322 => 174 | 243 => 70 | 246 => 105 | 283 => 133 | 284 => 134 | 285 => 135 | 286 => 136 | 129 => 156 | 317 => 155 | 318 => 157 | 319 => 158 | 320 => 159 | 337 => 168 | 338 => 169 | n => n, fun | 9 => 9 | 3 => 3 | 75 => 89 | 76 => 90 | 4 => 4 | 5 => 5 | 167 => 180 | 37 => 84 | 0 => 0 | 85 => 181 | 2 => 2 | 168 => 183 | 53 => 169 | 175 => 200 | 46 => 122 | 210 => 203 | 127 => 123 | 145 => 215 | 143 => 213 | 21 => 21 | 171 => 168 | 173 => 172 | 212 => 189 | 51 => 174 | 20 => 20 | 213 => 190 | 232 => 216 | 233 => 217 | 80 => 92 | n => n, fun | 15 => 5 | 16 => 6 | 17 => 4 | 18 => 9 | 19 => 10 | n => n⟩
theorem Tryz.laysC172 : Go.Proofs.LaysC.n172 Tryz.prog Tryz.laysC172_ren := {
  mixed := by kernel_rfl
  f129 := Tryz.func156.trans (congrArg some (by kernel_rfl))
  f171 := Tryz.func34.trans (congrArg some (by kernel_rfl))
  f172 := Tryz.func82.trans (congrArg some (by kernel_rfl))
  f205 := Tryz.func167.trans (congrArg some (by kernel_rfl))
  f243 := Tryz.func70.trans (congrArg some (by kernel_rfl))
  f244 := Tryz.func120.trans (congrArg some (by kernel_rfl))
  f245 := Tryz.func121.trans (congrArg some (by kernel_rfl))
  f246 := Tryz.func105.trans (congrArg some (by kernel_rfl))
  f247 := Tryz.func146.trans (congrArg some (by kernel_rfl))
  f279 := Tryz.func147.trans (congrArg some (by kernel_rfl))
  f280 := Tryz.func148.trans (congrArg some (by kernel_rfl))
  f281 := Tryz.func149.trans (congrArg some (by kernel_rfl))
  f282 := Tryz.func150.trans (congrArg some (by kernel_rfl))
  f283 := Tryz.func133.trans (congrArg some (by kernel_rfl))
  f284 := Tryz.func134.trans (congrArg some (by kernel_rfl))
  f285 := Tryz.func135.trans (congrArg some (by kernel_rfl))
  f286 := Tryz.func136.trans (congrArg some (by kernel_rfl))
  f287 := Tryz.func165.trans (congrArg some (by kernel_rfl))
  f316 := Tryz.func166.trans (congrArg some (by kernel_rfl))
  f317 := Tryz.func155.trans (congrArg some (by kernel_rfl))
  f318 := Tryz.func157.trans (congrArg some (by kernel_rfl))
  f319 := Tryz.func158.trans (congrArg some (by kernel_rfl))
  f320 := Tryz.func159.trans (congrArg some (by kernel_rfl))
  f321 := Tryz.func173.trans (congrArg some (by kernel_rfl))
  f322 := Tryz.func174.trans (congrArg some (by kernel_rfl))
  f337 := Tryz.func168.trans (congrArg some (by kernel_rfl))
  f338 := Tryz.func169.trans (congrArg some (by kernel_rfl))
  t0 := Tryz.underlying0
  a0 := Tryz.isAgg0
  z0 := Tryz.sizeOf0
  v0 := Tryz.zeroValue0
  t2 := Tryz.underlying2
  a2 := Tryz.isAgg2
  z2 := Tryz.sizeOf2
  v2 := Tryz.zeroValue2
  t3 := Tryz.underlying3
  a3 := Tryz.isAgg3
  z3 := Tryz.sizeOf3
  v3 := Tryz.zeroValue3
  t4 := Tryz.underlying4
  a4 := Tryz.isAgg4
  z4 := Tryz.sizeOf4
  v4 := Tryz.zeroValue4
  t5 := Tryz.underlying5
  a5 := Tryz.isAgg5
  z5 := Tryz.sizeOf5
  v5 := Tryz.zeroValue5
  t9 := Tryz.underlying9
  a9 := Tryz.isAgg9
  z9 := Tryz.sizeOf9
  v9 := Tryz.zeroValue9
  t20 := Tryz.underlying20
  a20 := Tryz.isAgg20
  z20 := Tryz.sizeOf20
  v20 := Tryz.zeroValue20
  t21 := Tryz.underlying21
  a21 := Tryz.isAgg21
  z21 := Tryz.sizeOf21
  v21 := Tryz.zeroValue21
  t37 := Tryz.underlying84
  a37 := Tryz.isAgg84
  z37 := Tryz.sizeOf84
  v37 := Tryz.zeroValue84
  t46 := Tryz.underlying122
  a46 := Tryz.isAgg122
  z46 := Tryz.sizeOf122
  v46 := Tryz.zeroValue122
  t51 := Tryz.underlying174
  a51 := Tryz.isAgg174
  z51 := Tryz.sizeOf174
  v51 := Tryz.zeroValue174
  t53 := Tryz.underlying169
  a53 := Tryz.isAgg169
  z53 := Tryz.sizeOf169
  v53 := Tryz.zeroValue169
  t75 := Tryz.underlying89
  a75 := Tryz.isAgg89
  z75 := Tryz.sizeOf89
  v75 := Tryz.zeroValue89
  t76 := Tryz.underlying90
  a76 := Tryz.isAgg90
  z76 := Tryz.sizeOf90
  v76 := Tryz.zeroValue90
  t85 := Tryz.underlying181
  a85 := Tryz.isAgg181
  z85 := Tryz.sizeOf181
  v85 := Tryz.zeroValue181
  t127 := Tryz.underlying123
  a127 := Tryz.isAgg123
  z127 := Tryz.sizeOf123
  v127 := Tryz.zeroValue123
  t143 := Tryz.underlying213
  a143 := Tryz.isAgg213
  z143 := Tryz.sizeOf213
  v143 := Tryz.zeroValue213
  t145 := Tryz.underlying215
  a145 := Tryz.isAgg215
  z145 := Tryz.sizeOf215
  v145 := Tryz.zeroValue215
  t167 := Tryz.underlying180
  a167 := Tryz.isAgg180
  z167 := Tryz.sizeOf180
  v167 := Tryz.zeroValue180
  t168 := Tryz.underlying183
  a168 := Tryz.isAgg183
  z168 := Tryz.sizeOf183
  v168 := Tryz.zeroValue183
  t171 := Tryz.underlying168
  a171 := Tryz.isAgg168
  z171 := Tryz.sizeOf168
  v171 := Tryz.zeroValue168
  t173 := Tryz.underlying172
  a173 := Tryz.isAgg172
  z173 := Tryz.sizeOf172
  v173 := Tryz.zeroValue172
  t175 := Tryz.underlying200
  a175 := Tryz.isAgg200
  z175 := Tryz.sizeOf200
  v175 := Tryz.zeroValue200
  t210 := Tryz.underlying203
  a210 := Tryz.isAgg203
  z210 := Tryz.sizeOf203
  v210 := Tryz.zeroValue203
  t212 := Tryz.underlying189
  a212 := Tryz.isAgg189
  z212 := Tryz.sizeOf189
  v212 := Tryz.zeroValue189
  t213 := Tryz.underlying190
  a213 := Tryz.isAgg190
  z213 := Tryz.sizeOf190
  t232 := Tryz.underlying216
  a232 := Tryz.isAgg216
  z232 := Tryz.sizeOf216
  v232 := Tryz.zeroValue216
  t233 := Tryz.underlying217
  a233 := Tryz.isAgg217
  z233 := Tryz.sizeOf217
  v233 := Tryz.zeroValue217
  g15 := by kernel_rfl
  g16 := by kernel_rfl
  g17 := by kernel_rfl
  g18 := by kernel_rfl
  g19 := by kernel_rfl
  t80 := Tryz.underlying92
  a80 := Tryz.isAgg92
  z80 := Tryz.sizeOf92
  v80 := Tryz.zeroValue92
  i0 := by kernel_rfl
  i2 := by kernel_rfl
  i3 := by kernel_rfl
  i4 := by kernel_rfl
  i5 := by kernel_rfl
  i9 := by kernel_rfl
  i20 := by kernel_rfl
  i21 := by kernel_rfl
  i37 := by kernel_rfl
  i46 := by kernel_rfl
  i51 := by kernel_rfl
  i53 := by kernel_rfl
  i75 := by kernel_rfl
  i76 := by kernel_rfl
  i80 := by kernel_rfl
  i85 := by kernel_rfl
  i127 := by kernel_rfl
  i143 := by kernel_rfl
  i145 := by kernel_rfl
  i167 := by kernel_rfl
  i168 := by kernel_rfl
  i171 := by kernel_rfl
  i173 := by kernel_rfl
  i175 := by kernel_rfl
  i210 := by kernel_rfl
  i212 := by kernel_rfl
  i232 := by kernel_rfl
  i233 := by kernel_rfl
  m15 := by kernel_rfl
  m16 := by kernel_rfl
  m17 := by kernel_rfl
  m18 := by kernel_rfl
  m19 := by kernel_rfl
  c0 := by kernel_rfl
  c2 := by kernel_rfl
  c3 := by kernel_rfl
  c4 := by kernel_rfl
  c5 := by kernel_rfl
  c9 := by kernel_rfl
  c20 := by kernel_rfl
  c21 := by kernel_rfl
  c37 := by kernel_rfl
  c46 := by kernel_rfl
  c51 := by kernel_rfl
  c53 := by kernel_rfl
  c75 := by kernel_rfl
  c76 := by kernel_rfl
  c80 := by kernel_rfl
  c85 := by kernel_rfl
  c127 := by kernel_rfl
  c143 := by kernel_rfl
  c145 := by kernel_rfl
  c167 := by kernel_rfl
  c168 := by kernel_rfl
  c171 := by kernel_rfl
  c173 := by kernel_rfl
  c175 := by kernel_rfl
  c210 := by kernel_rfl
  c212 := by kernel_rfl
  c213 := by kernel_rfl
  c232 := by kernel_rfl
  c233 := by kernel_rfl }
open Go.RowKit in
theorem Tryz.strconv_Atoi_ok (s : ByteArray) (hmax : s.size ≤ 9223372036854775806) (v : Int) (h : Lib.atoiAll s.data.toList = .ok v) (w : World) :
    Calls Tryz.prog 82 #[.string s] w fun e w' => e = .returned (.tuple #[.int .i64 v, .nilIface]) ∧ (w' = w ∨ ∃ t, w' = Lib.bytesWorld w 5 t) := Any.strconv_Atoi_ok Tryz.laysC172 s hmax v h w
open Go.RowKit in
theorem Tryz.strconv_Atoi_syntax (s : ByteArray) (hlim : s.size ≤ 281474976710656) (h : Lib.atoiAll s.data.toList = Lib.atoiAll []) (ev : Value) (w : World) (hv : w.cell? ⟨5, 0, none⟩ = some ev) (hev : ev = .nilIface ∨ ∃ te pe, ev = .iface te pe) :
    Calls Tryz.prog 82 #[.string s] w fun e w' => ∃ N, e = .returned (.tuple #[.int .i64 (0), .iface 183 (.pointer (some ⟨N, 0, none⟩))]) ∧ w.heap.size ≤ N ∧ w'.heap[N]? = some (.cells #[.string ⟨#[65, 116, 111, 105]⟩, .string s, ev] 203 (0, 0)) ∧ Below w.heap.size w w' := Any.strconv_Atoi_syntax Tryz.laysC172 s hlim h ev w hv hev
open Go.RowKit in
theorem Tryz.strconv_Atoi_range (s : ByteArray) (hlim : s.size ≤ 281474976710656) (h : Lib.atoiAll s.data.toList = .range) (ev : Value) (w : World) (hv : w.cell? ⟨6, 0, none⟩ = some ev) (hev : ev = .nilIface ∨ ∃ te pe, ev = .iface te pe) :
    Calls Tryz.prog 82 #[.string s] w fun e w' => ∃ N, e = .returned (.tuple #[.int .i64 (Lib.atoiSat s.data.toList), .iface 183 (.pointer (some ⟨N, 0, none⟩))]) ∧ w.heap.size ≤ N ∧ w'.heap[N]? = some (.cells #[.string ⟨#[65, 116, 111, 105]⟩, .string s, ev] 203 (0, 0)) ∧ Below w.heap.size w w' := Any.strconv_Atoi_range Tryz.laysC172 s hlim h ev w hv hev
def Tryz.lays145_ren : Go.Shelf.Ren := ⟨fun | 145 => 23 | 220 => 40 | 219 => 76 | 217 => 109 | 225 => 110 | 224 => 111 | 267 => 112 | 266 => 137 | 314 => 138 | n => n, fun | 9 => 9 | 4 => 4 | 59 => 65 | 3 => 3 | 5 => 5 | 46 => 122 | 146 => 175 | 51 => 174 | n => n, fun | 1 => 3 | n => n⟩
theorem Tryz.lays145 : Go.Proofs.Lays.n145 Tryz.prog Tryz.lays145_ren := {
  mixed := by kernel_rfl
  f145 := Tryz.func23.trans (congrArg some (by kernel_rfl))
  f217 := Tryz.func109.trans (congrArg some (by kernel_rfl))
  f219 := Tryz.func76.trans (congrArg some (by kernel_rfl))
  f220 := Tryz.func40.trans (congrArg some (by kernel_rfl))
  f224 := Tryz.func111.trans (congrArg some (by kernel_rfl))
  f225 := Tryz.func110.trans (congrArg some (by kernel_rfl))
  f266 := Tryz.func137.trans (congrArg some (by kernel_rfl))
  f267 := Tryz.func112.trans (congrArg some (by kernel_rfl))
  f314 := Tryz.func138.trans (congrArg some (by kernel_rfl))
  t3 := Tryz.underlying3
  a3 := Tryz.isAgg3
  z3 := Tryz.sizeOf3
  v3 := Tryz.zeroValue3
  t4 := Tryz.underlying4
  a4 := Tryz.isAgg4
  z4 := Tryz.sizeOf4
  v4 := Tryz.zeroValue4
  t5 := Tryz.underlying5
  a5 := Tryz.isAgg5
  z5 := Tryz.sizeOf5
  v5 := Tryz.zeroValue5
  t9 := Tryz.underlying9
  a9 := Tryz.isAgg9
  z9 := Tryz.sizeOf9
  v9 := Tryz.zeroValue9
  t46 := Tryz.underlying122
  a46 := Tryz.isAgg122
  z46 := Tryz.sizeOf122
  v46 := Tryz.zeroValue122
  t51 := Tryz.underlying174
  a51 := Tryz.isAgg174
  z51 := Tryz.sizeOf174
  v51 := Tryz.zeroValue174
  t59 := Tryz.underlying65
  a59 := Tryz.isAgg65
  z59 := Tryz.sizeOf65
  v59 := Tryz.zeroValue65
  t146 := Tryz.underlying175
  a146 := Tryz.isAgg175
  z146 := Tryz.sizeOf175
  v146 := Tryz.zeroValue175
  g1 := by kernel_rfl }
open Go.RowKit Go.Lib in
theorem Tryz.strings_Cut (s sep : ByteArray) (m : Int) (w : World) (hs : s.size < 4294967281) (hm : w.cell? ⟨3, 0, none⟩ = some (.int .i64 m)) :
    Calls Tryz.prog 23 #[.string s, .string sep] w fun e w' => e = .returned (.tuple #[.string ⟨(Lib.cut s.data.toList sep.data.toList).1.toArray⟩, .string ⟨(Lib.cut s.data.toList sep.data.toList).2.1.toArray⟩, .bool (Lib.cut s.data.toList sep.data.toList).2.2]) ∧ ∃ n, w' = w.drewN n := Any.strings_Cut Tryz.lays145 s sep m w hs hm
def Tryz.lays99_ren : Go.Shelf.Ren := ⟨fun | 99 => 24 | 206 => 41 | n => n, fun | 9 => 9 | 4 => 4 | 3 => 3 | n => n, fun | n => n⟩
theorem Tryz.lays99 : Go.Proofs.Lays.n99 Tryz.prog Tryz.lays99_ren := {
  mixed := by kernel_rfl
  f99 := Tryz.func24.trans (congrArg some (by kernel_rfl))
  f206 := Tryz.func41.trans (congrArg some (by kernel_rfl))
  t3 := Tryz.underlying3
  a3 := Tryz.isAgg3
  z3 := Tryz.sizeOf3
  v3 := Tryz.zeroValue3
  t4 := Tryz.underlying4
  a4 := Tryz.isAgg4
  z4 := Tryz.sizeOf4
  v4 := Tryz.zeroValue4
  t9 := Tryz.underlying9
  a9 := Tryz.isAgg9
  z9 := Tryz.sizeOf9
  v9 := Tryz.zeroValue9 }
open Go.RowKit Go.Lib in
theorem Tryz.strings_HasPrefix (s p : ByteArray) (w : World) :
    Calls Tryz.prog 24 #[.string s, .string p] w fun e w' => e = .returned (.bool (Lib.hasPrefix s.data.toList p.data.toList)) ∧ w' = w := Any.strings_HasPrefix Tryz.lays99 s p w
def Tryz.lays101_ren : Go.Shelf.Ren := ⟨fun | 101 => 115 | 208 => 142 | 206 => 41 | n => n, fun | 9 => 9 | 4 => 4 | 3 => 3 | n => n, fun | n => n⟩
theorem Tryz.lays101 : Go.Proofs.Lays.n101 Tryz.prog Tryz.lays101_ren := {
  mixed := by kernel_rfl
  f101 := Tryz.func115.trans (congrArg some (by kernel_rfl))
  f206 := Tryz.func41.trans (congrArg some (by kernel_rfl))
  f208 := Tryz.func142.trans (congrArg some (by kernel_rfl))
  t3 := Tryz.underlying3
  a3 := Tryz.isAgg3
  z3 := Tryz.sizeOf3
  v3 := Tryz.zeroValue3
  t4 := Tryz.underlying4
  a4 := Tryz.isAgg4
  z4 := Tryz.sizeOf4
  v4 := Tryz.zeroValue4
  t9 := Tryz.underlying9
  a9 := Tryz.isAgg9
  z9 := Tryz.sizeOf9
  v9 := Tryz.zeroValue9 }
open Go.RowKit Go.Lib in
theorem Tryz.strings_TrimPrefix (s p : ByteArray) (w : World) :
    Calls Tryz.prog 115 #[.string s, .string p] w fun e w' => e = .returned (.string ⟨(Lib.trimPrefix s.data.toList p.data.toList).toArray⟩) ∧ w' = w := Any.strings_TrimPrefix Tryz.lays101 s p w
def Tryz.lays146_ren : Go.Shelf.Ren := ⟨fun | 146 => 45 | 221 => 81 | 268 => 117 | 138 => 118 | 143 => 119 | 195 => 144 | 197 => 132 | 218 => 145 | 219 => 76 | 260 => 154 | 217 => 109 | 225 => 110 | 224 => 111 | 267 => 112 | 266 => 137 | 314 => 138 | n => n, fun | 9 => 9 | 31 => 54 | 3 => 3 | 4 => 4 | 0 => 0 | 105 => 166 | 21 => 21 | 5 => 5 | 46 => 122 | 119 => 205 | 139 => 208 | 138 => 207 | 146 => 175 | 51 => 174 | n => n, fun | 1 => 3 | 3 => 7 | 4 => 8 | n => n⟩
theorem Tryz.lays146 : Go.Proofs.Lays.n146 Tryz.prog Tryz.lays146_ren := {
  mixed := by kernel_rfl
  f138 := Tryz.func118.trans (congrArg some (by kernel_rfl))
  f143 := Tryz.func119.trans (congrArg some (by kernel_rfl))
  f146 := Tryz.func45.trans (congrArg some (by kernel_rfl))
  f195 := Tryz.func144.trans (congrArg some (by kernel_rfl))
  f197 := Tryz.func132.trans (congrArg some (by kernel_rfl))
  f217 := Tryz.func109.trans (congrArg some (by kernel_rfl))
  f218 := Tryz.func145.trans (congrArg some (by kernel_rfl))
  f219 := Tryz.func76.trans (congrArg some (by kernel_rfl))
  f221 := Tryz.func81.trans (congrArg some (by kernel_rfl))
  f224 := Tryz.func111.trans (congrArg some (by kernel_rfl))
  f225 := Tryz.func110.trans (congrArg some (by kernel_rfl))
  f260 := Tryz.func154.trans (congrArg some (by kernel_rfl))
  f266 := Tryz.func137.trans (congrArg some (by kernel_rfl))
  f267 := Tryz.func112.trans (congrArg some (by kernel_rfl))
  f268 := Tryz.func117.trans (congrArg some (by kernel_rfl))
  f314 := Tryz.func138.trans (congrArg some (by kernel_rfl))
  t0 := Tryz.underlying0
  a0 := Tryz.isAgg0
  z0 := Tryz.sizeOf0
  v0 := Tryz.zeroValue0
  t3 := Tryz.underlying3
  a3 := Tryz.isAgg3
  z3 := Tryz.sizeOf3
  v3 := Tryz.zeroValue3
  t4 := Tryz.underlying4
  a4 := Tryz.isAgg4
  z4 := Tryz.sizeOf4
  v4 := Tryz.zeroValue4
  t5 := Tryz.underlying5
  a5 := Tryz.isAgg5
  z5 := Tryz.sizeOf5
  v5 := Tryz.zeroValue5
  t9 := Tryz.underlying9
  a9 := Tryz.isAgg9
  z9 := Tryz.sizeOf9
  v9 := Tryz.zeroValue9
  t21 := Tryz.underlying21
  a21 := Tryz.isAgg21
  z21 := Tryz.sizeOf21
  v21 := Tryz.zeroValue21
  t31 := Tryz.underlying54
  a31 := Tryz.isAgg54
  z31 := Tryz.sizeOf54
  v31 := Tryz.zeroValue54
  t46 := Tryz.underlying122
  a46 := Tryz.isAgg122
  z46 := Tryz.sizeOf122
  v46 := Tryz.zeroValue122
  t51 := Tryz.underlying174
  a51 := Tryz.isAgg174
  z51 := Tryz.sizeOf174
  v51 := Tryz.zeroValue174
  t105 := Tryz.underlying166
  a105 := Tryz.isAgg166
  z105 := Tryz.sizeOf166
  v105 := Tryz.zeroValue166
  t119 := Tryz.underlying205
  a119 := Tryz.isAgg205
  z119 := Tryz.sizeOf205
  t138 := Tryz.underlying207
  a138 := Tryz.isAgg207
  z138 := Tryz.sizeOf207
  v138 := Tryz.zeroValue207
  t139 := Tryz.underlying208
  a139 := Tryz.isAgg208
  z139 := Tryz.sizeOf208
  v139 := Tryz.zeroValue208
  t146 := Tryz.underlying175
  a146 := Tryz.isAgg175
  z146 := Tryz.sizeOf175
  v146 := Tryz.zeroValue175
  g1 := by kernel_rfl
  g3 := by kernel_rfl
  g4 := by kernel_rfl }
open Go.RowKit Go.Lib in
theorem Tryz.strings_Split (s sep : ByteArray) (m : Int) (w : World) (hs : s.size < 4294967281) (hm : w.cell? ⟨3, 0, none⟩ = some (.int .i64 m)) (h1 : 1 ≤ sep.size) :
    Calls Tryz.prog 45 #[.string s, .string sep] w fun e w' =>
      e = .returned (.slice (some ⟨w.heap.size, 0, none⟩) (Lib.countB s sep + 1) (Lib.countB s sep + 1)) ∧ w' = w.alloc (.cells ((Lib.splitB sep 0 (Lib.countB s sep) s).map Value.string).toArray 9) := Any.strings_Split Tryz.lays146 (by kernel_rfl) s sep m w hs hm h1
def Tryz.lays155_ren : Go.Shelf.Ren := ⟨fun | 155 => 69 | 154 => 104 | 138 => 118 | 165 => 35 | 143 => 119 | 166 => 36 | 197 => 132 | 169 => 37 | 195 => 144 | 218 => 145 | 240 => 71 | 241 => 72 | 219 => 76 | 260 => 154 | 276 => 106 | 277 => 107 | 217 => 109 | 225 => 110 | 224 => 111 | 267 => 112 | 266 => 137 | 314 => 138 | n => n, fun | 9 => 9 | 3 => 3 | 4 => 4 | 72 => 86 | 0 => 0 | 76 => 90 | 105 => 166 | 21 => 21 | 5 => 5 | 70 => 83 | 20 => 20 | 37 => 84 | 75 => 89 | 127 => 123 | 164 => 149 | 46 => 122 | 119 => 205 | 139 => 208 | 138 => 207 | 146 => 175 | 51 => 174 | 80 => 92 | n => n, fun | 1 => 3 | 3 => 7 | 4 => 8 | n => n⟩
theorem Tryz.lays155 : Go.Proofs.Lays.n155 Tryz.prog Tryz.lays155_ren := {
  mixed := by kernel_rfl
  f138 := Tryz.func118.trans (congrArg some (by kernel_rfl))
  f143 := Tryz.func119.trans (congrArg some (by kernel_rfl))
  f154 := Tryz.func104.trans (congrArg some (by kernel_rfl))
  f155 := Tryz.func69.trans (congrArg some (by kernel_rfl))
  f165 := Tryz.func35.trans (congrArg some (by kernel_rfl))
  f166 := Tryz.func36.trans (congrArg some (by kernel_rfl))
  f169 := Tryz.func37.trans (congrArg some (by kernel_rfl))
  f195 := Tryz.func144.trans (congrArg some (by kernel_rfl))
  f197 := Tryz.func132.trans (congrArg some (by kernel_rfl))
  f217 := Tryz.func109.trans (congrArg some (by kernel_rfl))
  f218 := Tryz.func145.trans (congrArg some (by kernel_rfl))
  f219 := Tryz.func76.trans (congrArg some (by kernel_rfl))
  f224 := Tryz.func111.trans (congrArg some (by kernel_rfl))
  f225 := Tryz.func110.trans (congrArg some (by kernel_rfl))
  f240 := Tryz.func71.trans (congrArg some (by kernel_rfl))
  f241 := Tryz.func72.trans (congrArg some (by kernel_rfl))
  f260 := Tryz.func154.trans (congrArg some (by kernel_rfl))
  f266 := Tryz.func137.trans (congrArg some (by kernel_rfl))
  f267 := Tryz.func112.trans (congrArg some (by kernel_rfl))
  f276 := Tryz.func106.trans (congrArg some (by kernel_rfl))
  f277 := Tryz.func107.trans (congrArg some (by kernel_rfl))
  f314 := Tryz.func138.trans (congrArg some (by kernel_rfl))
  t0 := Tryz.underlying0
  a0 := Tryz.isAgg0
  z0 := Tryz.sizeOf0
  v0 := Tryz.zeroValue0
  t3 := Tryz.underlying3
  a3 := Tryz.isAgg3
  z3 := Tryz.sizeOf3
  v3 := Tryz.zeroValue3
  t4 := Tryz.underlying4
  a4 := Tryz.isAgg4
  z4 := Tryz.sizeOf4
  v4 := Tryz.zeroValue4
  t5 := Tryz.underlying5
  a5 := Tryz.isAgg5
  z5 := Tryz.sizeOf5
  v5 := Tryz.zeroValue5
  t9 := Tryz.underlying9
  a9 := Tryz.isAgg9
  z9 := Tryz.sizeOf9
  v9 := Tryz.zeroValue9
  t20 := Tryz.underlying20
  a20 := Tryz.isAgg20
  z20 := Tryz.sizeOf20
  v20 := Tryz.zeroValue20
  t21 := Tryz.underlying21
  a21 := Tryz.isAgg21
  z21 := Tryz.sizeOf21
  v21 := Tryz.zeroValue21
  t37 := Tryz.underlying84
  a37 := Tryz.isAgg84
  z37 := Tryz.sizeOf84
  v37 := Tryz.zeroValue84
  t46 := Tryz.underlying122
  a46 := Tryz.isAgg122
  z46 := Tryz.sizeOf122
  v46 := Tryz.zeroValue122
  t51 := Tryz.underlying174
  a51 := Tryz.isAgg174
  z51 := Tryz.sizeOf174
  v51 := Tryz.zeroValue174
  t70 := Tryz.underlying83
  a70 := Tryz.isAgg83
  z70 := Tryz.sizeOf83
  v70 := Tryz.zeroValue83
  t72 := Tryz.underlying86
  a72 := Tryz.isAgg86
  z72 := Tryz.sizeOf86
  v72 := Tryz.zeroValue86
  t75 := Tryz.underlying89
  a75 := Tryz.isAgg89
  z75 := Tryz.sizeOf89
  v75 := Tryz.zeroValue89
  t76 := Tryz.underlying90
  a76 := Tryz.isAgg90
  z76 := Tryz.sizeOf90
  v76 := Tryz.zeroValue90
  t105 := Tryz.underlying166
  a105 := Tryz.isAgg166
  z105 := Tryz.sizeOf166
  v105 := Tryz.zeroValue166
  t119 := Tryz.underlying205
  a119 := Tryz.isAgg205
  z119 := Tryz.sizeOf205
  t127 := Tryz.underlying123
  a127 := Tryz.isAgg123
  z127 := Tryz.sizeOf123
  v127 := Tryz.zeroValue123
  t138 := Tryz.underlying207
  a138 := Tryz.isAgg207
  z138 := Tryz.sizeOf207
  v138 := Tryz.zeroValue207
  t139 := Tryz.underlying208
  a139 := Tryz.isAgg208
  z139 := Tryz.sizeOf208
  v139 := Tryz.zeroValue208
  t146 := Tryz.underlying175
  a146 := Tryz.isAgg175
  z146 := Tryz.sizeOf175
  v146 := Tryz.zeroValue175
  t164 := Tryz.underlying149
  a164 := Tryz.isAgg149
  z164 := Tryz.sizeOf149
  v164 := Tryz.zeroValue149
  g1 := by kernel_rfl
  g3 := by kernel_rfl
  g4 := by kernel_rfl }
theorem Tryz.Builder_Extra_155 : Builder.Extra Tryz.prog Tryz.lays155_ren := {
  sizeBuilder := by kernel_rfl
  liesBuilder := by kernel_rfl
  t5 := Tryz.underlying5
  a5 := Tryz.isAgg5
  z5 := Tryz.sizeOf5
  v5 := Tryz.zeroValue5
  infoByte := by kernel_rfl
  cellsByte := by kernel_rfl
  sizeByte := by kernel_rfl
  neB5 := by decide }
open Go.RowKit Go.Lib in
theorem Tryz.strings_ReplaceAll (s old new : ByteArray) (m : Int) (w : World) (hs : s.size < 4294967281) (hm : w.cell? ⟨3, 0, none⟩ = some (.int .i64 m)) (h1 : 1 ≤ old.size) (hlen : s.size + Lib.countB s old * new.size ≤ 140737488355328) :
    Calls Tryz.prog 69 #[.string s, .string old, .string new] w fun e w' =>
      e = .returned (.string ⟨(Lib.replaceAll s.data.toList old.data.toList new.data.toList).toArray⟩) ∧ Below w.heap.size w w' := Any.strings_ReplaceAll Tryz.lays155 Tryz.Builder_Extra_155 s old new m w hs hm h1 hlen
def Tryz.lays212_ren : Go.Shelf.Ren := ⟨fun | 212 => 127 | 263 => 151 | 264 => 152 | n => n, fun | 46 => 122 | 51 => 174 | 146 => 175 | 53 => 169 | 148 => 187 | n => n, fun | n => n⟩
theorem Tryz.lays212 : Go.Proofs.Lays.n212 Tryz.prog Tryz.lays212_ren := {
  mixed := by kernel_rfl
  f212 := Tryz.func127.trans (congrArg some (by kernel_rfl))
  f263 := Tryz.func151.trans (congrArg some (by kernel_rfl))
  f264 := Tryz.func152.trans (congrArg some (by kernel_rfl))
  t46 := Tryz.underlying122
  a46 := Tryz.isAgg122
  z46 := Tryz.sizeOf122
  v46 := Tryz.zeroValue122
  t51 := Tryz.underlying174
  a51 := Tryz.isAgg174
  z51 := Tryz.sizeOf174
  v51 := Tryz.zeroValue174
  t53 := Tryz.underlying169
  a53 := Tryz.isAgg169
  z53 := Tryz.sizeOf169
  v53 := Tryz.zeroValue169
  t146 := Tryz.underlying175
  a146 := Tryz.isAgg175
  z146 := Tryz.sizeOf175
  v146 := Tryz.zeroValue175
  t148 := Tryz.underlying187
  a148 := Tryz.isAgg187
  z148 := Tryz.sizeOf187
  v148 := Tryz.zeroValue187 }
open Go.RowKit Go.Lib in
theorem Tryz.bits_Mul (x y : Nat) (hx : x < 18446744073709551616) (hy : y < 18446744073709551616) (w : World) :
    Calls Tryz.prog 127 #[.int .u64 x, .int .u64 y] w fun e w' => e = .returned (.tuple #[.int .u64 ((x * y / 18446744073709551616 : Nat) : Int), .int .u64 ((x * y % 18446744073709551616 : Nat) : Int)]) ∧ w' = w := Any.bits_Mul Tryz.lays212 x y hx hy w
def Tryz.lays105_ren : Go.Shelf.Ren := ⟨fun | 105 => 101 | 212 => 127 | 99 => 24 | 165 => 35 | 166 => 36 | 170 => 130 | 169 => 37 | 263 => 151 | 264 => 152 | 206 => 41 | 240 => 71 | 241 => 72 | 276 => 106 | 277 => 107 | n => n, fun | 9 => 9 | 3 => 3 | 4 => 4 | 20 => 20 | 0 => 0 | 46 => 122 | 109 => 160 | 5 => 5 | 72 => 86 | 76 => 90 | 51 => 174 | 146 => 175 | 53 => 169 | 148 => 187 | 70 => 83 | 37 => 84 | 75 => 89 | 127 => 123 | 164 => 149 | 80 => 92 | n => n, fun | n => n⟩
theorem Tryz.lays105 : Go.Proofs.Lays.n105 Tryz.prog Tryz.lays105_ren := {
  mixed := by kernel_rfl
  f99 := Tryz.func24.trans (congrArg some (by kernel_rfl))
  f105 := Tryz.func101.trans (congrArg some (by kernel_rfl))
  f165 := Tryz.func35.trans (congrArg some (by kernel_rfl))
  f166 := Tryz.func36.trans (congrArg some (by kernel_rfl))
  f169 := Tryz.func37.trans (congrArg some (by kernel_rfl))
  f170 := Tryz.func130.trans (congrArg some (by kernel_rfl))
  f206 := Tryz.func41.trans (congrArg some (by kernel_rfl))
  f212 := Tryz.func127.trans (congrArg some (by kernel_rfl))
  f240 := Tryz.func71.trans (congrArg some (by kernel_rfl))
  f241 := Tryz.func72.trans (congrArg some (by kernel_rfl))
  f263 := Tryz.func151.trans (congrArg some (by kernel_rfl))
  f264 := Tryz.func152.trans (congrArg some (by kernel_rfl))
  f276 := Tryz.func106.trans (congrArg some (by kernel_rfl))
  f277 := Tryz.func107.trans (congrArg some (by kernel_rfl))
  t0 := Tryz.underlying0
  a0 := Tryz.isAgg0
  z0 := Tryz.sizeOf0
  v0 := Tryz.zeroValue0
  t3 := Tryz.underlying3
  a3 := Tryz.isAgg3
  z3 := Tryz.sizeOf3
  v3 := Tryz.zeroValue3
  t4 := Tryz.underlying4
  a4 := Tryz.isAgg4
  z4 := Tryz.sizeOf4
  v4 := Tryz.zeroValue4
  t5 := Tryz.underlying5
  a5 := Tryz.isAgg5
  z5 := Tryz.sizeOf5
  v5 := Tryz.zeroValue5
  t9 := Tryz.underlying9
  a9 := Tryz.isAgg9
  z9 := Tryz.sizeOf9
  v9 := Tryz.zeroValue9
  t20 := Tryz.underlying20
  a20 := Tryz.isAgg20
  z20 := Tryz.sizeOf20
  v20 := Tryz.zeroValue20
  t37 := Tryz.underlying84
  a37 := Tryz.isAgg84
  z37 := Tryz.sizeOf84
  v37 := Tryz.zeroValue84
  t46 := Tryz.underlying122
  a46 := Tryz.isAgg122
  z46 := Tryz.sizeOf122
  v46 := Tryz.zeroValue122
  t51 := Tryz.underlying174
  a51 := Tryz.isAgg174
  z51 := Tryz.sizeOf174
  v51 := Tryz.zeroValue174
  t53 := Tryz.underlying169
  a53 := Tryz.isAgg169
  z53 := Tryz.sizeOf169
  v53 := Tryz.zeroValue169
  t70 := Tryz.underlying83
  a70 := Tryz.isAgg83
  z70 := Tryz.sizeOf83
  v70 := Tryz.zeroValue83
  t72 := Tryz.underlying86
  a72 := Tryz.isAgg86
  z72 := Tryz.sizeOf86
  v72 := Tryz.zeroValue86
  t75 := Tryz.underlying89
  a75 := Tryz.isAgg89
  z75 := Tryz.sizeOf89
  v75 := Tryz.zeroValue89
  t76 := Tryz.underlying90
  a76 := Tryz.isAgg90
  z76 := Tryz.sizeOf90
  v76 := Tryz.zeroValue90
  t109 := Tryz.underlying160
  a109 := Tryz.isAgg160
  z109 := Tryz.sizeOf160
  v109 := Tryz.zeroValue160
  t127 := Tryz.underlying123
  a127 := Tryz.isAgg123
  z127 := Tryz.sizeOf123
  v127 := Tryz.zeroValue123
  t146 := Tryz.underlying175
  a146 := Tryz.isAgg175
  z146 := Tryz.sizeOf175
  v146 := Tryz.zeroValue175
  t148 := Tryz.underlying187
  a148 := Tryz.isAgg187
  z148 := Tryz.sizeOf187
  v148 := Tryz.zeroValue187
  t164 := Tryz.underlying149
  a164 := Tryz.isAgg149
  z164 := Tryz.sizeOf149
  v164 := Tryz.zeroValue149 }
theorem Tryz.Builder_Extra_105 : Builder.Extra Tryz.prog Tryz.lays105_ren := {
  sizeBuilder := by kernel_rfl
  liesBuilder := by kernel_rfl
  t5 := Tryz.underlying5
  a5 := Tryz.isAgg5
  z5 := Tryz.sizeOf5
  v5 := Tryz.zeroValue5
  infoByte := by kernel_rfl
  cellsByte := by kernel_rfl
  sizeByte := by kernel_rfl
  neB5 := by decide }
open Go.RowKit Go.Lib in
theorem Tryz.strings_Repeat (s : ByteArray) (c : Nat) (w : World) (hc : c ≤ 9223372036854775807) (hlen : s.size * c ≤ 140737488355328) :
    Calls Tryz.prog 101 #[.string s, .int .i64 c] w fun e w' => e = .returned (.string ⟨(Lib.repeatL s.data.toList c).toArray⟩) ∧ Below w.heap.size w w' := Any.strings_Repeat Tryz.lays105 Tryz.Builder_Extra_105 s c w hc hlen
end Go.Proofs

/- The library's functions of this program come to what X0 says. -/
namespace Mini
open Go Go.RowKit Go.Proofs
variable [MX]

theorem repV_str {w : World} {ow : OwF} {x : List UInt8} {v : Value} (h : RepV w ow .str x v) : v = .string ⟨⟨x⟩⟩ := by
  have h' : Rep w ow .str x [v] := h
  simpa [Rep] using h'
theorem repV_int {w : World} {ow : OwF} {k : IntKind} {x : Int} {v : Value} (h : RepV w ow (.int k) x v) : v = .int k x := by
  have h' : Rep w ow (.int k) x [v] := h
  simpa [Rep] using h'
theorem repV_str' {w : World} {ow : OwF} {x : List UInt8} : RepV w ow .str x (.string ⟨⟨x⟩⟩) := by
  show Rep w ow .str x [_]
  simp [Rep]
theorem repV_int' {w : World} {ow : OwF} {k : IntKind} {x : Int} : RepV w ow (.int k) x (.int k x) := by
  show Rep w ow (.int k) x [_]
  simp [Rep]
theorem repV_bool' {w : World} {ow : OwF} {x : Bool} : RepV w ow .bool x (.bool x) := by
  show Rep w ow .bool x [_]
  simp [Rep]

theorem arr1 {a : Array Value} (h : a.size = 1) : a = #[a.getD 0 undef] := by
  obtain ⟨l⟩ := a
  match l, h with
  | [x], _ => rfl
theorem arr2 {a : Array Value} (h : a.size = 2) : a = #[a.getD 0 undef, a.getD 1 undef] := by
  obtain ⟨l⟩ := a
  match l, h with
  | [x, y], _ => rfl
theorem arr3 {a : Array Value} (h : a.size = 3) : a = #[a.getD 0 undef, a.getD 1 undef, a.getD 2 undef] := by
  obtain ⟨l⟩ := a
  match l, h with
  | [x, y, z], _ => rfl

theorem glob_max {ow : OwF} {w : World} (h : GlobOK E ow w) : w.cell? ⟨3, 0, none⟩ = some (.int .i64 MX.m) := by
  obtain ⟨l, hl, hc⟩ := (h 3 I MX.m rfl).1
  have h1 := (hc 0 (by decide)).2
  have hl' : l = [.int .i64 MX.m] := hl
  rw [hl'] at h1
  exact h1
theorem glob_syntax {ow : OwF} {w : World} (h : GlobOK E ow w) : ∃ ev, w.cell? ⟨5, 0, none⟩ = some ev ∧ (ev = .nilIface ∨ ∃ te pe, ev = .iface te pe) := by
  obtain ⟨l, hl, hc⟩ := (h 5 .err false rfl).1
  have h1 := (hc 0 (by decide)).2
  obtain ⟨v, rfl, hv⟩ : ∃ v, l = [v] ∧ ((false = true ∧ v = .nilIface) ∨ (false = false ∧ ∃ t u, v = .iface t u)) := hl
  exact ⟨v, h1, hv.imp (fun h => h.2) (fun h => h.2)⟩
theorem glob_range {ow : OwF} {w : World} (h : GlobOK E ow w) : ∃ ev, w.cell? ⟨6, 0, none⟩ = some ev ∧ (ev = .nilIface ∨ ∃ te pe, ev = .iface te pe) := by
  obtain ⟨l, hl, hc⟩ := (h 6 .err false rfl).1
  have h1 := (hc 0 (by decide)).2
  obtain ⟨v, rfl, hv⟩ : ∃ v, l = [v] ∧ ((false = true ∧ v = .nilIface) ∨ (false = false ∧ ∃ t u, v = .iface t u)) := hl
  exact ⟨v, h1, hv.imp (fun h => h.2) (fun h => h.2)⟩

theorem repN_ints {w : World} {ow : OwF} {k : IntKind} : ∀ (zs : List Int) (l : List Value), RepN (fun x l => Rep w ow (.int k) x l) zs l → l = zs.map (Value.int k) := by
  intro zs
  induction zs with
  | nil => intro l h; exact h
  | cons z zs ih =>
    intro l h
    obtain ⟨a, b, rfl, h1, h2⟩ := h
    have h1' : a = [.int k z] := h1
    rw [h1', ih b h2]
    rfl

theorem var_exact {P : Program} {w : World} {name : String} {g : Nat} {l : List Value} (hn : P.globalNamed name = some g) (h : ∀ j, j < l.length → cl w g j = l[j]?) (h0 : l ≠ []) (he : cl w g l.length = none) : w.var? P name = some l.toArray := by
  unfold World.var?
  rw [hn]
  simp only [Option.bind_some]
  unfold cl World.cell? at h he
  cases hb : w.heap[g]? with
  | none =>
    have := h 0 (List.length_pos_iff.2 h0)
    simp only [hb] at this
    cases l with
    | nil => exact absurd rfl h0
    | cons => simp at this
  | some o =>
    simp only [hb] at h he
    cases o with
    | cells c a f =>
      simp only [Option.isSome_none, Bool.false_eq_true, if_false] at h he
      simp only [Option.some.injEq]
      apply Array.ext'
      apply List.ext_getElem?
      intro j
      simp only [Array.getElem?_toList]
      by_cases hj : j < l.length
      · exact h j hj
      · have hc : c.size ≤ l.length := by
          simpa using he
        rw [List.getElem?_eq_none (by simpa using Nat.le_of_not_lt hj), Array.getElem?_eq_none (by omega)]
    | _ =>
      have := h 0 (List.length_pos_iff.2 h0)
      cases l with
      | nil => exact absurd rfl h0
      | cons => simp at this

theorem glob_pow {ow : OwF} {w : World} (h : GlobOK E ow w) : Lib.TabIs Tryz.prog w "internal/strconv.uint64pow10" .u64 Lib.pow10Tab := by
  obtain ⟨⟨l, hl, hc⟩, _, he⟩ := h 4 (.arr 20 (.int .u64)) Lib.pow10Tab rfl
  have hl' : l = Lib.pow10Tab.map (Value.int .u64) := repN_ints _ _ hl.2
  have hlen : l.length = 20 := by rw [hl', List.length_map]; exact Lib.pow10Tab_length
  have hv := var_exact (P := Tryz.prog) (w := w) (name := "internal/strconv.uint64pow10") (g := 4) (l := l) (by kernel_rfl) (fun j hj => by
    have := (hc j (by rw [hlen] at hj; exact hj)).2
    rwa [Nat.zero_add] at this) (fun h => by rw [h] at hlen; cases hlen) (by rw [hlen]; exact he)
  unfold Lib.TabIs
  rw [hv, hl']

theorem size_mk (s : List UInt8) : ByteArray.size ⟨⟨s⟩⟩ = s.length := rfl

section
variable {cuts : Nat → Option Shape}

theorem meets_Cut {ext} {x : Str × Str} {z : Str × Str × Bool} (h : xCut x.1 x.2 = some z) : Meets E ⟨23, s_Cut_e, s_Cut_o, cuts, ext⟩ x z := by
  obtain ⟨s, sep⟩ := x
  unfold xCut at h
  split at h
  · rename_i hs
    obtain rfl := Option.some.inj h
    intro G w args hsz hI hargs _ hg
    have e0 := repV_str (show RepV w G.ow .str s (args.getD 0 undef) from hargs 0 (by show 0 < 2; decide))
    have e1 := repV_str (show RepV w G.ow .str sep (args.getD 1 undef) from hargs 1 (by show 1 < 2; decide))
    rw [arr2 hsz, e0, e1]
    refine (Tryz.strings_Cut ⟨⟨s⟩⟩ ⟨⟨sep⟩⟩ MX.m w hs (glob_max hg)).mono ?_
    rintro e w' ⟨rfl, n, rfl⟩
    refine ⟨[_, _, _], G, rfl, done_same hI hg (below_drewN _ _ _) rfl rfl fun q hq => ?_⟩
    match q, hq with
    | 0, _ => exact repV_str'
    | 1, _ => exact repV_str'
    | 2, _ => exact repV_bool'
    | q + 3, h => exact absurd (show q + 3 < 3 from h) (by omega)
  · cases h

theorem meets_HasPrefix {ext} {x : Str × Str} {z : Bool} (h : xHasPrefix x.1 x.2 = some z) : Meets E ⟨24, s_HasPrefix_e, s_HasPrefix_o, cuts, ext⟩ x z := by
  obtain ⟨s, p⟩ := x
  obtain rfl := Option.some.inj h
  intro G w args hsz hI hargs _ hg
  have e0 := repV_str (show RepV w G.ow .str s (args.getD 0 undef) from hargs 0 (by show 0 < 2; decide))
  have e1 := repV_str (show RepV w G.ow .str p (args.getD 1 undef) from hargs 1 (by show 1 < 2; decide))
  rw [arr2 hsz, e0, e1]
  refine (Tryz.strings_HasPrefix ⟨⟨s⟩⟩ ⟨⟨p⟩⟩ w).mono ?_
  rintro e w' ⟨rfl, rfl⟩
  refine ⟨[_], G, rfl, done_same hI hg (Below.refl _ _) rfl rfl fun q hq => ?_⟩
  match q, hq with
  | 0, _ => exact repV_bool'
  | q + 1, h => exact absurd (show q + 1 < 1 from h) (by omega)

theorem meets_TrimPrefix {ext} {x : Str × Str} {z : Str} (h : xTrimPrefix x.1 x.2 = some z) : Meets E ⟨115, s_TrimPrefix_e, s_TrimPrefix_o, cuts, ext⟩ x z := by
  obtain ⟨s, p⟩ := x
  obtain rfl := Option.some.inj h
  intro G w args hsz hI hargs _ hg
  have e0 := repV_str (show RepV w G.ow .str s (args.getD 0 undef) from hargs 0 (by show 0 < 2; decide))
  have e1 := repV_str (show RepV w G.ow .str p (args.getD 1 undef) from hargs 1 (by show 1 < 2; decide))
  rw [arr2 hsz, e0, e1]
  refine (Tryz.strings_TrimPrefix ⟨⟨s⟩⟩ ⟨⟨p⟩⟩ w).mono ?_
  rintro e w' ⟨rfl, rfl⟩
  refine ⟨[_], G, rfl, done_same hI hg (Below.refl _ _) rfl rfl fun q hq => ?_⟩
  match q, hq with
  | 0, _ => exact repV_str'
  | q + 1, h => exact absurd (show q + 1 < 1 from h) (by omega)

theorem meets_CutPrefix {ext} {x : Str × Str} {z : Str × Bool} (h : xCutPrefix x.1 x.2 = some z) : Meets E ⟨42, s_CutPrefix_e, s_CutPrefix_o, cuts, ext⟩ x z := by
  obtain ⟨s, p⟩ := x
  obtain rfl := Option.some.inj h
  intro G w args hsz hI hargs _ hg
  have e0 := repV_str (show RepV w G.ow .str s (args.getD 0 undef) from hargs 0 (by show 0 < 2; decide))
  have e1 := repV_str (show RepV w G.ow .str p (args.getD 1 undef) from hargs 1 (by show 1 < 2; decide))
  rw [arr2 hsz, e0, e1]
  refine (Tryz.strings_CutPrefix ⟨⟨s⟩⟩ ⟨⟨p⟩⟩ w).mono ?_
  rintro e w' ⟨rfl, rfl⟩
  refine ⟨[_, _], G, rfl, done_same hI hg (Below.refl _ _) rfl rfl fun q hq => ?_⟩
  match q, hq with
  | 0, _ => exact repV_str'
  | 1, _ => exact repV_bool'
  | q + 2, h => exact absurd (show q + 2 < 2 from h) (by omega)

theorem meets_CutSuffix {ext} {x : Str × Str} {z : Str × Bool} (h : xCutSuffix x.1 x.2 = some z) : Meets E ⟨79, s_CutSuffix_e, s_CutSuffix_o, cuts, ext⟩ x z := by
  obtain ⟨s, p⟩ := x
  unfold xCutSuffix at h
  split at h
  · rename_i hs
    obtain rfl := Option.some.inj h
    intro G w args hsz hI hargs _ hg
    have e0 := repV_str (show RepV w G.ow .str s (args.getD 0 undef) from hargs 0 (by show 0 < 2; decide))
    have e1 := repV_str (show RepV w G.ow .str p (args.getD 1 undef) from hargs 1 (by show 1 < 2; decide))
    rw [arr2 hsz, e0, e1]
    refine (Tryz.strings_CutSuffix ⟨⟨s⟩⟩ ⟨⟨p⟩⟩ w hs).mono ?_
    rintro e w' ⟨rfl, rfl⟩
    refine ⟨[_, _], G, rfl, done_same hI hg (Below.refl _ _) rfl rfl fun q hq => ?_⟩
    match q, hq with
    | 0, _ => exact repV_str'
    | 1, _ => exact repV_bool'
    | q + 2, h => exact absurd (show q + 2 < 2 from h) (by omega)
  · cases h

theorem meets_IndexByte {ext} {x : Str × Int} {z : Int} (h : xIndexByte x.1 x.2 = some z) : Meets E ⟨143, s_IndexByte_e, s_IndexByte_o, cuts, ext⟩ x z := by
  obtain ⟨s, c⟩ := x
  obtain rfl := Option.some.inj h
  intro G w args hsz hI hargs _ hg
  have e0 := repV_str (show RepV w G.ow .str s (args.getD 0 undef) from hargs 0 (by show 0 < 2; decide))
  have e1 := repV_int (show RepV w G.ow (.int .u8) c (args.getD 1 undef) from hargs 1 (by show 1 < 2; decide))
  rw [arr2 hsz, e0, e1]
  refine (Tryz.strings_IndexByte ⟨⟨s⟩⟩ c w).mono ?_
  rintro e w' ⟨rfl, rfl⟩
  refine ⟨[_], G, rfl, done_same hI hg (Below.refl _ _) rfl rfl fun q hq => ?_⟩
  match q, hq with
  | 0, _ => exact repV_int'
  | q + 1, h => exact absurd (show q + 1 < 1 from h) (by omega)

theorem meets_ReplaceAll {ext} {x : Str × Str × Str} {z : Str} (h : xReplaceAll x.1 x.2.1 x.2.2 = some z) : Meets E ⟨69, s_ReplaceAll_e, s_ReplaceAll_o, cuts, ext⟩ x z := by
  obtain ⟨s, p, r⟩ := x
  unfold xReplaceAll at h
  split at h
  · rename_i hs
    obtain rfl := Option.some.inj h
    intro G w args hsz hI hargs _ hg
    have e0 := repV_str (show RepV w G.ow .str s (args.getD 0 undef) from hargs 0 (by show 0 < 3; decide))
    have e1 := repV_str (show RepV w G.ow .str p (args.getD 1 undef) from hargs 1 (by show 1 < 3; decide))
    have e2 := repV_str (show RepV w G.ow .str r (args.getD 2 undef) from hargs 2 (by show 2 < 3; decide))
    rw [arr3 hsz, e0, e1, e2]
    refine (Tryz.strings_ReplaceAll ⟨⟨s⟩⟩ ⟨⟨p⟩⟩ ⟨⟨r⟩⟩ MX.m w hs.1 (glob_max hg) hs.2.1 hs.2.2).mono ?_
    rintro e w' ⟨rfl, hb⟩
    refine ⟨[_], G, rfl, done_same hI hg hb rfl rfl fun q hq => ?_⟩
    match q, hq with
    | 0, _ => exact repV_str'
    | q + 1, h => exact absurd (show q + 1 < 1 from h) (by omega)
  · cases h

theorem meets_Repeat {ext} {x : Str × Int} {z : Str} (h : xRepeat x.1 x.2 = some z) : Meets E ⟨101, s_Repeat_e, s_Repeat_o, cuts, ext⟩ x z := by
  obtain ⟨s, c⟩ := x
  unfold xRepeat at h
  split at h
  · rename_i hs
    obtain ⟨h0, h1, h2⟩ := hs
    obtain rfl := Option.some.inj h
    intro G w args hsz hI hargs _ hg
    have e0 := repV_str (show RepV w G.ow .str s (args.getD 0 undef) from hargs 0 (by show 0 < 2; decide))
    have e1 := repV_int (show RepV w G.ow (.int .i64) c (args.getD 1 undef) from hargs 1 (by show 1 < 2; decide))
    have ec : (Value.int .i64 c) = Value.int .i64 ((c.toNat : Nat) : Int) := by rw [Int.toNat_of_nonneg h0]
    rw [arr2 hsz, e0, e1, ec]
    refine (Tryz.strings_Repeat ⟨⟨s⟩⟩ c.toNat w (by have : (0 : Int) ≤ c := h0; have : c ≤ 9223372036854775807 := h1; omega) h2).mono ?_
    rintro e w' ⟨rfl, hb⟩
    refine ⟨[_], G, rfl, done_same hI hg hb rfl rfl fun q hq => ?_⟩
    match q, hq with
    | 0, _ => exact repV_str'
    | q + 1, h => exact absurd (show q + 1 < 1 from h) (by omega)
  · cases h

theorem meets_TrimLeft {ext} {x : Str × Str} {z : Str} (h : xTrimLeft x.1 x.2 = some z) : Meets E ⟨141, s_TrimLeft_e, s_TrimLeft_o, cuts, ext⟩ x z := by
  obtain ⟨s, p⟩ := x
  match p, h with
  | [c], h =>
    unfold xTrimLeft at h
    simp only at h
    split at h
    · rename_i hs
      obtain rfl := Option.some.inj h
      intro G w args hsz hI hargs _ hg
      have e0 := repV_str (show RepV w G.ow .str s (args.getD 0 undef) from hargs 0 (by show 0 < 2; decide))
      have e1 := repV_str (show RepV w G.ow .str [c] (args.getD 1 undef) from hargs 1 (by show 1 < 2; decide))
      rw [arr2 hsz, e0, e1]
      refine (Tryz.strings_TrimLeft_one ⟨⟨s⟩⟩ c hs w).mono ?_
      rintro e w' ⟨rfl, rfl⟩
      refine ⟨[_], G, rfl, done_same hI hg (Below.refl _ _) rfl rfl fun q hq => ?_⟩
      match q, hq with
      | 0, _ => exact repV_str'
      | q + 1, h => exact absurd (show q + 1 < 1 from h) (by omega)
    · cases h
  | [], h => cases h
  | _ :: _ :: _, h => cases h

theorem meets_Itoa {ext} {x : Int} {z : Str} (h : xItoa x = some z) : Meets E ⟨34, c_Itoa_e, c_Itoa_o, cuts, ext⟩ x z := by
  unfold xItoa at h
  split at h
  · rename_i hs
    obtain rfl := Option.some.inj h
    intro G w args hsz hI hargs _ hg
    have e0 := repV_int (show RepV w G.ow (.int .i64) x (args.getD 0 undef) from hargs 0 (by show 0 < 1; decide))
    rw [arr1 hsz, e0]
    refine (Tryz.strconv_Itoa x hs.1 hs.2 w (glob_pow hg)).mono ?_
    rintro e w' ⟨rfl, k, os, rfl⟩
    refine ⟨[_], G, rfl, done_same hI hg (below_grow _ _ _) rfl rfl fun q hq => ?_⟩
    match q, hq with
    | 0, _ => exact repV_str'
    | q + 1, h => exact absurd (show q + 1 < 1 from h) (by omega)
  · cases h
end
end Mini

/- Join, Split, Atoi. -/
namespace Mini
open Go Go.RowKit Go.Proofs
variable [MX]
section
variable {cuts : Nat → Option Shape}

theorem repV_strs {w : World} {ow : OwF} {xs : List Str} {v : Value} (h : RepV w ow (.sl .str) xs v) : ∃ a cap, v = .slice a xs.length cap ∧ xs.length ≤ cap ∧
    (xs ≠ [] → ∃ b o, a = some ⟨b, o, none⟩ ∧ ∀ (j : Nat) x, xs[j]? = some x → w.cell? ⟨b, o + j, none⟩ = some (.string ⟨⟨x⟩⟩)) := by
  have h' : Rep w ow (.sl .str) xs [v] := h
  obtain ⟨a, len, cap, h1, h2, h3, h4⟩ := h'
  have h1' : v = .slice a len cap := by simpa using h1
  subst h2
  refine ⟨a, cap, h1', h3, fun hne => ?_⟩
  obtain ⟨b, o, h5, h6⟩ := h4 hne
  refine ⟨b, o, h5, fun j x hx => ?_⟩
  obtain ⟨hj, hx'⟩ := List.getElem?_eq_some_iff.1 hx
  obtain ⟨l, hl, hc⟩ := h6 j hj
  have hl' : l = [.string ⟨⟨xs[j]⟩⟩] := hl
  have hc' := (hc 0 (by show 0 < 1; decide)).2
  rw [hl', hx'] at hc'
  have e : o + j * Ty.str.size + 0 = o + j := by show o + j * 1 + 0 = o + j; omega
  rw [e] at hc'
  exact hc'

theorem map_back (xs : List Str) : (xs.map fun s => (⟨⟨s⟩⟩ : ByteArray)).map (·.data.toList) = xs := by
  rw [List.map_map]
  exact (List.map_congr_left (fun a _ => rfl)).trans (List.map_id xs)

theorem meets_Join {ext} {x : List Str × Str} {z : Str} (h : xJoin x.1 x.2 = some z) : Meets E ⟨18, s_Join_e, s_Join_o, cuts, ext⟩ x z := by
  obtain ⟨xs, sep⟩ := x
  unfold xJoin at h
  split at h
  · rename_i hs
    obtain rfl := Option.some.inj h
    intro G w args hsz hI hargs _ hg
    obtain ⟨a, cap, e0, hcap, hrow⟩ := repV_strs (show RepV w G.ow (.sl .str) xs (args.getD 0 undef) from hargs 0 (by show 0 < 2; decide))
    have e1 := repV_str (show RepV w G.ow .str sep (args.getD 1 undef) from hargs 1 (by show 1 < 2; decide))
    rw [arr2 hsz, e0, e1]
    by_cases hne : xs = []
    · subst hne
      refine (Tryz.strings_Join_none a cap ⟨⟨sep⟩⟩ w).mono ?_
      rintro e w' ⟨rfl, rfl⟩
      refine ⟨[_], G, rfl, done_same hI hg (Below.refl _ _) rfl rfl fun q hq => ?_⟩
      match q, hq with
      | 0, _ => exact repV_str'
      | q + 1, h => exact absurd (show q + 1 < 1 from h) (by omega)
    · obtain ⟨b, o, rfl, hcell⟩ := hrow hne
      have hl : (xs.map fun s => (⟨⟨s⟩⟩ : ByteArray)).length = xs.length := List.length_map ..
      have h0 : 0 < xs.length := List.length_pos_iff.2 hne
      have hb : b < w.heap.size := by
        have := hcell 0 xs[0] (List.getElem?_eq_getElem h0)
        exact cl_lt (o := o) (by simpa [cl] using this)
      have hJ := Tryz.strings_Join b o cap (xs.map fun s => (⟨⟨s⟩⟩ : ByteArray)) ⟨⟨sep⟩⟩ w (fun j x hx => by
        simp only [List.getElem?_map, Option.map_eq_some_iff] at hx
        obtain ⟨s, h1, rfl⟩ := hx
        exact hcell j s h1) hb (by rw [hl]; exact hs.1) (by rw [hl]; exact hcap) (by rw [map_back]; exact hs.2)
      rw [hl, map_back] at hJ
      refine hJ.mono ?_
      rintro e w' ⟨rfl, hb⟩
      refine ⟨[_], G, rfl, done_same hI hg hb rfl rfl fun q hq => ?_⟩
      match q, hq with
      | 0, _ => exact repV_str'
      | q + 1, h => exact absurd (show q + 1 < 1 from h) (by omega)
  · cases h

theorem cl_new {w : World} {cs : Array Value} {t : Nat} {o : Nat} : cl (w.alloc (.cells cs t)) w.heap.size o = cs[o]? := by
  unfold cl World.cell?
  rw [show (w.alloc (.cells cs t)).heap[w.heap.size]? = some (.cells cs t) from by show (w.heap.push _)[w.heap.size]? = _; simp]
  rfl

theorem meets_Split {ext} {x : Str × Str} {z : List Str} (h : xSplit x.1 x.2 = some z) : Meets E ⟨45, s_Split_e, s_Split_o, cuts, ext⟩ x z := by
  obtain ⟨s, sep⟩ := x
  unfold xSplit at h
  split at h
  · rename_i hs
    obtain rfl := Option.some.inj h
    intro G w args hsz hI hargs _ hg
    have e0 := repV_str (show RepV w G.ow .str s (args.getD 0 undef) from hargs 0 (by show 0 < 2; decide))
    have e1 := repV_str (show RepV w G.ow .str sep (args.getD 1 undef) from hargs 1 (by show 1 < 2; decide))
    rw [arr2 hsz, e0, e1]
    refine (Tryz.strings_Split ⟨⟨s⟩⟩ ⟨⟨sep⟩⟩ MX.m w hs.1 (glob_max hg) hs.2).mono ?_
    rintro e w' ⟨rfl, rfl⟩
    have hlen := Lib.splitB_all ⟨⟨sep⟩⟩ hs.2 0 _ ⟨⟨s⟩⟩ rfl
    generalize hps : Lib.splitB ⟨⟨sep⟩⟩ 0 (Lib.countB ⟨⟨s⟩⟩ ⟨⟨sep⟩⟩) ⟨⟨s⟩⟩ = ps at hlen
    have hsz2 : (w.alloc (.cells (ps.map Value.string).toArray 9)).heap.size = w.heap.size + 1 := World.size_alloc ..
    refine ⟨[_], _, rfl, done_data (fun b o => if b = w.heap.size then .prot else G.ow b o) hI hg (below_alloc _ _) (fun b o hb => if_neg (by omega)) (fun b o h1 h2 => ?_) rfl rfl fun _ q hq => ?_⟩
    · by_cases hb : b = w.heap.size
      · omega
      · rw [if_neg hb] at h2
        have := hI.lt b o h2
        omega
    · match q, hq with
      | 0, _ =>
        show Rep _ _ (.sl .str) (ps.map (·.data.toList)) [_]
        refine ⟨_, _, _, rfl, ?_, Nat.le_refl _, fun _ => ⟨_, _, rfl, fun i hi => ?_⟩⟩
        · show _ = (ps.map (·.data.toList)).length
          rw [List.length_map, hlen]
        · have hi2 : i < (ps.map (·.data.toList)).length := hi
          have hi' : i < ps.length := by rwa [List.length_map] at hi2
          have e : (ps.map (·.data.toList))[i]'hi2 = ps[i].data.toList := List.getElem_map ..
          refine ⟨[.string ps[i]], ?_, fun j hj => ⟨if_pos rfl, ?_⟩⟩
          · exact (congrArg (fun y => [Value.string ⟨⟨y⟩⟩]) e.symm : [Value.string ⟨⟨ps[i].data.toList⟩⟩] = _)
          · have hj' : j = 0 := by have : j < 1 := hj; omega
            subst hj'
            rw [cl_new]
            have e : 0 + i * Ty.str.size + 0 = i := by show 0 + i * 1 + 0 = i; omega
            rw [e]
            simp [hi']
      | q + 1, h => exact absurd (show q + 1 < 1 from h) (by omega)
  · cases h

theorem repV_nil {w : World} {ow : OwF} : RepV w ow .err true .nilIface := by
  show Rep w ow .err true [_]
  exact ⟨_, rfl, .inl ⟨rfl, rfl⟩⟩
theorem repV_iface {w : World} {ow : OwF} {t : Nat} {u : Value} : RepV w ow .err false (.iface t u) := by
  show Rep w ow .err false [_]
  exact ⟨_, rfl, .inr ⟨rfl, t, u, rfl⟩⟩

theorem meets_Atoi {ext} {x : Str} {z : Int × Bool} (h : xAtoi x = some z) : Meets E ⟨82, c_Atoi_e, c_Atoi_o, cuts, ext⟩ x z := by
  unfold xAtoi at h
  split at h
  · rename_i hs
    obtain rfl := Option.some.inj h
    intro G w args hsz hI hargs _ hg
    have e0 := repV_str (show RepV w G.ow .str x (args.getD 0 undef) from hargs 0 (by show 0 < 1; decide))
    rw [arr1 hsz, e0]
    cases hA : Lib.atoiAll x with
    | ok v =>
      refine (Tryz.strconv_Atoi_ok ⟨⟨x⟩⟩ (by have : ByteArray.size ⟨⟨x⟩⟩ = x.length := rfl; omega) v hA w).mono ?_
      rintro e w' ⟨rfl, hw⟩
      have hb : Below w.heap.size w w' := by
        rcases hw with rfl | ⟨t, rfl⟩
        · exact Below.refl _ _
        · exact ⟨rfl, rfl, rfl, by rw [Lib.bytesWorld_size]; omega, fun j hj => Lib.bytesWorld_at_old w 5 t j hj⟩
      refine ⟨[_, _], G, rfl, done_same hI hg hb rfl rfl fun q hq => ?_⟩
      match q, hq with
      | 0, _ => exact repV_int'
      | 1, _ => exact repV_nil
      | q + 2, h => exact absurd (show q + 2 < 2 from h) (by omega)
    | range =>
      obtain ⟨ev, h1, h2⟩ := glob_range hg
      refine (Tryz.strconv_Atoi_range ⟨⟨x⟩⟩ hs hA ev w h1 h2).mono ?_
      rintro e w' ⟨N, rfl, _, _, hb⟩
      refine ⟨[_, _], G, rfl, done_same hI hg hb rfl rfl fun q hq => ?_⟩
      match q, hq with
      | 0, _ => exact repV_int'
      | 1, _ => exact repV_iface
      | q + 2, h => exact absurd (show q + 2 < 2 from h) (by omega)
    | _ =>
      obtain ⟨ev, h1, h2⟩ := glob_syntax hg
      refine (Tryz.strconv_Atoi_syntax ⟨⟨x⟩⟩ hs hA ev w h1 h2).mono ?_
      rintro e w' ⟨N, rfl, _, _, hb⟩
      refine ⟨[_, _], G, rfl, done_same hI hg hb rfl rfl fun q hq => ?_⟩
      match q, hq with
      | 0, _ => exact repV_int'
      | 1, _ => exact repV_iface
      | q + 2, h => exact absurd (show q + 2 < 2 from h) (by omega)
  · cases h
end
end Mini

/- slices.Repeat at a slice of one number. -/
namespace Go.Proofs
open Go.RowKit Go.Shelf Go.Lib

theorem splice_rep {α : Type} (x y : α) (n j m : Nat) (h : j + m ≤ n) :
    splice (List.replicate j x ++ List.replicate (n - j) y) j (List.replicate m x) = List.replicate (j + m) x ++ List.replicate (n - (j + m)) y := by
  unfold splice
  have e1 : (List.replicate j x ++ List.replicate (n - j) y).take j = List.replicate j x := by
    rw [List.take_append_of_le_length (by simp)]
    simp
  have e2 : (List.replicate j x ++ List.replicate (n - j) y).drop (j + m) = List.replicate (n - (j + m)) y := by
    rw [List.drop_append]
    simp
    omega
  rw [e1, List.length_replicate, e2, ← List.append_assoc, List.replicate_append_replicate]

theorem made_rep (v : Value) (n : Nat) : madeCells #[v] n = (List.replicate n v).toArray := by
  apply Array.ext
  · simp [madeCells]
  · intro i h1 h2
    simp [madeCells, Nat.mod_one]

theorem copy_run {P : Program} {W : World} {S j : Nat} {src : Addr} {dLen dCap sLen sCap : Nat} {L cs : List Value} {T e : TypeId}
    (hu : P.underlying T = some (.slice e)) (hz : (P.info? e).map (·.size) = some 1)
    (hW : W.heap[S]? = some (.cells L.toArray e (0, 0))) (hn : cs.length = Nat.min sLen dLen)
    (hsrc : ∀ j v, cs[j]? = some v → W.cell? (src.add j) = some v) (hfit : j + cs.length ≤ L.length) (h1 : ∀ v ∈ cs, v.oneCell' = true) :
    ∃ W', (∀ ty, (Builtin.copy_ #[T, T] ty #[.slice (some ⟨S, j, none⟩) dLen dCap, .slice (some src) sLen sCap]).run P W = .ok (goInt cs.length) W') ∧ W'.heap[S]? = some (.cells (splice L j cs).toArray e (0, 0)) ∧
      ∀ B w0, B ≤ S → Below B w0 W → Below B w0 W' := by
  refine ⟨W.setRow S (L.take j ++ (cs ++ L.drop (j + cs.length))).toArray, fun ty => ?_, ?_, fun B w0 hB hb => below_setRow hb hB _⟩
  · have h := run_copy_row (P := P) W T T ty e S j dLen dCap src sLen sCap L.toArray e cs hu hz hW hn hsrc (by simpa using hfit) h1
    simpa using h
  · exact setRow_heap W S _ _ _ _ hW

set_option maxHeartbeats 4000000 in
set_option maxRecDepth 100000 in
theorem Tryz.repeat_one (b o cap : Nat) (z : Int) (n : Nat) (w : World) (hcell : w.cell? ⟨b, o, none⟩ = some (.int .i64 z)) (hn : n ≤ 65536) :
    Calls Tryz.prog 97 #[.slice (some ⟨b, o, none⟩) 1 cap, .int .i64 n] w fun e w' =>
      e = .returned (.slice (some ⟨w.heap.size, 0, none⟩) n n) ∧ Below w.heap.size w w' ∧ w'.heap[w.heap.size]? = some (.cells (List.replicate n (Value.int .i64 z)).toArray 3 (0, 0)) := by
  have mixed : Tryz.prog.follows .mixedOrders = true := by kernel_rfl
  have hMul : ∀ w, Calls Tryz.prog 127 #[.int .u64 1, .int .u64 n] w fun e w' => e = .returned (.tuple #[.int .u64 0, .int .u64 n]) ∧ w' = w := by
    intro w
    refine (Tryz.bits_Mul 1 n (by omega) (by omega) w).mono ?_
    rintro e w' ⟨rfl, rfl⟩
    refine ⟨?_, rfl⟩
    have e1 : 1 * n / 18446744073709551616 = 0 := by omega
    have e2 : 1 * n % 18446744073709551616 = n := by omega
    rw [e1, e2]
    rfl
  have hmk : ∀ w : World, (Instr.makeSlice 38 (.int .i64 (n : Int)) (.int .i64 (n : Int))).run Tryz.prog w = .ok (.slice (some ⟨w.heap.size, 0, none⟩) n n) (w.alloc (.cells (Array.replicate n (Value.int .i64 0)) 3)) := by
    intro w
    have e : Array.replicate n (Value.int .i64 0) = madeCells #[Value.int .i64 0] n := by rw [made_rep]; simp
    rw [e]
    exact run_make_row' 38 3 (.int .i64 0) 8 (by kernel_rfl) (by kernel_rfl) rfl .i64 .i64 n (by omega) (by omega) w
  have hu38 : Tryz.prog.underlying 38 = some (.slice 3) := by kernel_rfl
  have z3 : (Tryz.prog.info? 3).map (·.size) = some 1 := by kernel_rfl
  have hb : b < w.heap.size := block_lt_of_cell hcell
  have hc1 : ∀ W : World, Below w.heap.size w W → W.cell? ⟨b, o, none⟩ = some (.int .i64 z) := fun W hW => by
    unfold World.cell? at hcell ⊢
    rw [hW.block b hb]
    exact hcell
  obtain ⟨S, hS⟩ : ∃ S, S = w.heap.size := ⟨_, rfl⟩
  obtain ⟨W1, hW1⟩ : ∃ W1, W1 = w.alloc (.cells (Array.replicate n (Value.int .i64 0)) 3) := ⟨_, rfl⟩
  have hbel : Below w.heap.size w W1 := by rw [hW1]; exact (Below.refl _ _).alloc (Nat.le_refl _) _
  have hrow1 : W1.heap[S]? = some (.cells (List.replicate n (Value.int .i64 0)).toArray 3 (0, 0)) := by
    rw [hW1, hS, show (List.replicate n (Value.int .i64 0)).toArray = Array.replicate n (Value.int .i64 0) by simp]
    exact heap_alloc_new w _
  obtain ⟨j0, hj0, hj1, hj2⟩ : ∃ j0 : Nat, j0 = Nat.min 1 n ∧ j0 ≤ n ∧ (0 < n → 0 < j0) := by
    refine ⟨Nat.min 1 n, rfl, Nat.min_le_right _ _, fun h => ?_⟩
    exact Nat.lt_min.2 ⟨by omega, h⟩
  obtain ⟨W2, hcp, hrow2, hbel2⟩ : ∃ W2, (∀ ty, (Builtin.copy_ #[38, 38] ty #[.slice (some ⟨S, 0, none⟩) n n, .slice (some ⟨b, o, none⟩) 1 cap]).run Tryz.prog W1 = .ok (.int .i64 j0) W2) ∧
      W2.heap[S]? = some (.cells (List.replicate j0 (Value.int .i64 z) ++ List.replicate (n - j0) (Value.int .i64 0)).toArray 3 (0, 0)) ∧ Below w.heap.size w W2 := by
    have h := copy_run (P := Tryz.prog) (j := 0) (src := ⟨b, o, none⟩) (dLen := n) (dCap := n) (sLen := 1) (sCap := cap) (cs := List.replicate j0 (Value.int .i64 z)) hu38 z3 hrow1 (by simp [hj0]) (fun j v hj => by
      have hlt : j < j0 := by
        have := (List.getElem?_eq_some_iff.1 hj).1
        simpa using this
      have hle : j0 ≤ 1 := by rw [hj0]; exact Nat.min_le_left _ _
      have hj' : j = 0 := by omega
      subst hj'
      have hv : v = Value.int .i64 z := by
        rw [List.getElem?_replicate, if_pos hlt] at hj
        exact (Option.some.inj hj).symm
      rw [hv]
      exact hc1 W1 hbel) (by simp; omega) (fun v hv => by rw [List.eq_of_mem_replicate hv]; rfl)
    obtain ⟨W2, h1, h2, h3⟩ := h
    refine ⟨W2, fun ty => ?_, ?_, h3 _ _ (by omega) hbel⟩
    · have := h1 ty
      rw [List.length_replicate] at this
      exact this
    · have e := splice_rep (Value.int .i64 z) (Value.int .i64 0) n 0 j0 (by omega)
      simp only [List.replicate_zero, List.nil_append, Nat.sub_zero, Nat.zero_add] at e
      rw [e] at h2
      exact h2
  rw [hW1, hS] at hcp
  rw [hS] at hrow2
  have hrow2 : Hid (W2.heap[w.heap.size]? = some (.cells (List.replicate j0 (Value.int .i64 z) ++ List.replicate (n - j0) (Value.int .i64 0)).toArray 3 (0, 0))) := hrow2
  clear hj0 hW1 hrow1 hbel hS S W1
  go_enter Tryz.func97, Tryz.ntmps97
  go_wp2_with (go_at_fn 127)
  refine (hMul _).mono ?_
  rintro e w' ⟨rfl, rfl⟩
  go_wp2
  go_loopg [8] n (fun k s8 wr => ∃ j : Nat, s8 = .int .i64 j ∧ j ≤ n ∧ (0 < n → 0 < j) ∧ n - j ≤ k ∧
    Hid (wr.heap[w'.heap.size]? = some (.cells (List.replicate j (Value.int .i64 z) ++ List.replicate (n - j) (Value.int .i64 0)).toArray 3 (0, 0))) ∧ Below w'.heap.size w' wr)
  case atStart => exact ⟨j0, rfl, hj1, hj2, by omega, hrow2, hbel2⟩
  case round =>
    obtain ⟨j, rfl, h1, h2, hk, hrow, hbl⟩ := hrel
    clear hrow2 hbel2 hcp
    by_cases hlt : (j : Int) < n
    · obtain ⟨m, hm, hm1, hm2, hm3⟩ : ∃ m : Nat, m = Nat.min j (n - j) ∧ 0 < m ∧ m ≤ j ∧ m ≤ n - j := by
        refine ⟨_, rfl, ?_, Nat.min_le_left _ _, Nat.min_le_right _ _⟩
        exact Nat.lt_min.2 ⟨h1 |> fun _ => h2 (by omega), by omega⟩
      have hcl : ∀ i v, (List.replicate m (Value.int .i64 z))[i]? = some v → ∀ W : World, Hid (W.heap[w'.heap.size]? = some (.cells (List.replicate j (Value.int .i64 z) ++ List.replicate (n - j) (Value.int .i64 0)).toArray 3 (0, 0))) → W.cell? (Addr.add ⟨w'.heap.size, 0, none⟩ i) = some v := by
        intro i v hi W hW
        have hW' : W.heap[w'.heap.size]? = some (.cells (List.replicate j (Value.int .i64 z) ++ List.replicate (n - j) (Value.int .i64 0)).toArray 3 (0, 0)) := hW
        obtain ⟨hi1, hi2⟩ := List.getElem?_eq_some_iff.1 hi
        have hi3 : i < j := by
          have : i < m := by simpa using hi1
          omega
        rw [Addr.add_lit]
        unfold World.cell?
        simp only [Nat.zero_add]
        rw [hW', ← hi2]
        simp [List.getElem?_append, hi3]
      have hsl1 : (j : Int) ≤ n := by omega
      have hsl0 : (0 : Int) ≤ j := by omega
      have hne : ¬ (n = j) := by omega
      have hmin : m = Nat.min j (n - j) := hm
      have hcsl : (List.replicate m (Value.int .i64 z)).length = Nat.min j (n - j) := by rw [List.length_replicate]; exact hm
      have hfit : j + (List.replicate m (Value.int .i64 z)).length ≤ (List.replicate j (Value.int .i64 z) ++ List.replicate (n - j) (Value.int .i64 0)).length := by simp; omega
      have hone : ∀ v ∈ List.replicate m (Value.int .i64 z), v.oneCell' = true := fun v hv => by rw [List.eq_of_mem_replicate hv]; rfl
      have hA : Aside (j + m ≤ n ∧ m ≤ j ∧ 0 < m ∧ Nat.min j (n - j) = m) := ⟨by omega, hm2, hm1, hm.symm⟩
      clear hm hmin
      go_wp2
      go_region_law_o ((refine step_copy_splice rfl (.tmp 41) (.tmp 44) 38 38 rfl 3 hu38 z3 (some ⟨w'.heap.size, j, none⟩) (some ⟨w'.heap.size, 0, none⟩) (n - j) (n - j) j n (by simp [Act.eval, Act.put, hne]) (by simp [Act.eval, Act.put]) w'.heap.size j (List.replicate j (Value.int .i64 z) ++ List.replicate (n - j) (Value.int .i64 0)) 3 hrow (List.replicate m (Value.int .i64 z)) hcsl (fun _ => ⟨rfl, _, rfl, fun i v hi => hcl i v hi _ hrow⟩) hfit hone w'.heap.size w' hbl.drew (Nat.le_refl _) ?_; intro w2 hr2 hb2))
      have hA' := hA.out
      obtain ⟨q1, q2, q3, q4⟩ := hA'
      have hr3 : Hid (w2.heap[w'.heap.size]? = some (.cells (List.replicate (j + m) (Value.int .i64 z) ++ List.replicate (n - (j + m)) (Value.int .i64 0)).toArray 3 (0, 0))) := by
        have e := splice_rep (Value.int .i64 z) (Value.int .i64 0) n j m q1
        rw [e] at hr2
        exact hr2
      have hjm : IntKind.i64.wrap ((j : Int) + (m : Int)) = ((j + m : Nat) : Int) := by rw [IntKind.wrap_i64]; omega
      clear hr2 hrow hcl hfit hcsl hone
      have hjm : Aside (IntKind.i64.wrap ((j : Int) + (m : Int)) = ((j + m : Nat) : Int)) := hjm
      go_wp2
      have hjm := hjm.out
      go_roundg (n - (j + m))
      case measure => omega
      case rel => exact ⟨j + m, by rw [← hjm]; simp [q4], by omega, fun _ => by omega, Nat.le_refl _, hr3, hb2⟩
    · go_wp2
      go_ret
      refine ⟨rfl, hbl, ?_⟩
      have e : j = n := by omega
      subst e
      have hr' : wr.heap[w'.heap.size]? = some (.cells (List.replicate j (Value.int .i64 z) ++ List.replicate (j - j) (Value.int .i64 0)).toArray 3 (0, 0)) := hrow
      rw [hr']
      simp
end Go.Proofs

/- slices.Repeat as what it comes to; all of the library together. -/
namespace Mini
open Go Go.RowKit Go.Proofs
variable [MX]
section
variable {cuts : Nat → Option Shape}

theorem meets_Fill {ext} {x : List Int × Int} {z : List Int} (h : xFill x.1 x.2 = some z) : Meets E ⟨97, x_Repeat_e, x_Repeat_o, cuts, ext⟩ x z := by
  obtain ⟨xs, c⟩ := x
  unfold xFill at h
  split at h
  · rename_i hs
    obtain ⟨h0, h1, h2⟩ := hs
    obtain rfl := Option.some.inj h
    match xs, h2 with
    | [y], _ =>
    intro G w args hsz hI hargs _ hg
    have e0' : Rep w G.ow (.sl I) [y] [args.getD 0 undef] := show RepV w G.ow (.sl I) [y] (args.getD 0 undef) from hargs 0 (by show 0 < 2; decide)
    have e1 := repV_int (show RepV w G.ow (.int .i64) c (args.getD 1 undef) from hargs 1 (by show 1 < 2; decide))
    obtain ⟨a, len, cap, ha, hlen, hcap, hrow⟩ := e0'
    have e0 : args.getD 0 undef = .slice a len cap := by simpa using ha
    obtain ⟨b, o, rfl, hr⟩ := hrow (fun h => by cases h)
    have hlen' : len = 1 := hlen
    subst hlen'
    have hcell : w.cell? ⟨b, o, none⟩ = some (.int .i64 y) := by
      obtain ⟨l, hl, hc⟩ := hr 0 (by show 0 < 1; decide)
      have hl' : l = [.int .i64 y] := hl
      have hc' := (hc 0 (by show 0 < 1; decide)).2
      rw [hl'] at hc'
      exact hc'
    have hc0 : (0 : Int) ≤ c := h0
    have hc1 : c ≤ 65536 := h1
    obtain ⟨n, rfl⟩ := Int.eq_ofNat_of_zero_le hc0
    rw [arr2 hsz, e0, e1]
    refine (Tryz.repeat_one b o cap y n w hcell (by omega)).mono ?_
    rintro e w' ⟨rfl, hb, hw⟩
    have hS : w.heap.size < w'.heap.size := (Array.getElem?_eq_some_iff.1 hw).1
    have hcl : ∀ q, cl w' w.heap.size q = (List.replicate n (Value.int .i64 y))[q]? := fun q => by
      unfold cl World.cell?
      simp only [hw]
      simp only [Option.isSome_none, Bool.false_eq_true, if_false]
      rw [← Array.getElem?_toList]
    have hfz : ∀ q, fz w' w.heap.size q = false := fun q => by
      unfold fz World.frozen?
      simp only [hw]
      rw [Bool.and_eq_false_iff]
      exact .inr (decide_eq_false (Nat.not_lt_zero q))
    refine ⟨[_], _, rfl, done_below (fun b o => if b = w.heap.size then (if o < n then .gr 0 else .none) else G.ow b o) (fun _ => .slice (some ⟨w.heap.size, 0, none⟩) n n) hI hg hb (fun b o hb => if_neg (by omega)) (fun b o h1 h2 => ?_) (fun hlt => ?_) rfl fun _ q hq => ?_⟩
    · by_cases hb : b = w.heap.size
      · omega
      · rw [if_neg hb] at h2
        have := hI.lt b o h2
        omega
    · refine { box := (fun k cs _ h => by cases h), gr := (fun k g _ h => ?_), lt := hlt }
      have h' : lk [(0, (⟨I, List.replicate n y, .excl, 0⟩ : Gr))] k = some g := h
      unfold lk at h'
      split at h'
      · rename_i hk
        obtain rfl := Option.some.inj h'
        subst hk
        show GrRow _ _ 0 I (List.replicate n y) (.gr 0)
        refine ⟨_, n, n, rfl, (List.length_replicate ..).symm, Nat.le_refl _, fun _ => ⟨_, _, rfl, fun i hi => ?_, fun q h1 h2 => by omega⟩⟩
        have hi' : i < n := by
          have hi2 : i < (List.replicate n y).length := hi
          rwa [List.length_replicate] at hi2
        have e : (List.replicate n y)[i]'(by rw [List.length_replicate]; exact hi') = y := List.getElem_replicate ..
        refine ⟨[.int .i64 y], ?_, fun j hj => ?_⟩
        · exact (congrArg (fun t => [Value.int .i64 y] = [Value.int .i64 t]) e).mpr rfl
        · have hj' : j = 0 := by have : j < 1 := hj; omega
          subst hj'
          have e2 : 0 + i * Ty.size I + 0 = i := by show 0 + i * 1 + 0 = i; omega
          rw [e2]
          refine ⟨⟨?_, fun _ => hfz i⟩, ?_⟩
          · show (if w.heap.size = w.heap.size then (if i < n then Ow.gr 0 else .none) else _) = .gr 0
            rw [if_pos rfl, if_pos hi']
          · rw [hcl i, List.getElem?_replicate, if_pos hi']
            rfl
      · cases h'
    · match q, hq with
      | 0, _ => exact ⟨trivial, ⟨I, List.replicate n y, .excl, 0⟩, rfl, fun _ => rfl⟩
      | q + 1, h => exact absurd (show q + 1 < 1 from h) (by omega)
  · cases h

theorem ext_keys : (sigL.all fun p => !p.2.ext.isSome || memN [18, 23, 24, 34, 42, 45, 69, 79, 82, 97, 101, 115, 141, 143] p.1) = true := by kernel_rfl

theorem extOK : ExtOK E := by
  intro i s f x z hs hf h
  have hm := all_mem ext_keys (lk_mem hs)
  simp only [hf, Option.isSome_some, Bool.not_true, Bool.false_or] at hm
  have hm' := memN_mem hm
  simp only [List.mem_cons, List.mem_nil_iff, or_false] at hm'
  rcases hm' with rfl | rfl | rfl | rfl | rfl | rfl | rfl | rfl | rfl | rfl | rfl | rfl | rfl | rfl <;> (obtain rfl := Option.some.inj hs; obtain rfl := Option.some.inj hf)
  · exact meets_Join h
  · exact meets_Cut h
  · exact meets_HasPrefix h
  · exact meets_Itoa h
  · exact meets_CutPrefix h
  · exact meets_Split h
  · exact meets_ReplaceAll h
  · exact meets_CutSuffix h
  · exact meets_Atoi h
  · exact meets_Fill h
  · exact meets_Repeat h
  · exact meets_TrimPrefix h
  · exact meets_TrimLeft h
  · exact meets_IndexByte h
end
end Mini

/- What a row reads, as data of the evaluator. -/
namespace Mini
open Go Go.Deep

def mapO {α β : Type} (f : α → Option β) : List α → Option (List β)
  | [] => some []
  | x :: l => (f x).bind fun y => (mapO f l).map (y :: ·)

/-- the data that a reading shows -/
def ofD {H : Type} : (t : Ty) → DataW H → Option (El t)
  | .int k, .lit (.int k' n) => if k' = k then some n else none
  | .bool, .lit (.bool b) => some b
  | .str, .lit (.string l) => some l
  | .err, .nil => some true
  | .err, .iface _ _ => some false
  | .err, .held _ => some false
  | .sl _, .nil => some ([] : List _)
  | .sl t, .slice elems _ => mapO (ofD t) elems
  | .unit, .agg [] => some ()
  | .pair a b, .agg (d :: ds) => (ofD a d).bind fun x => (ofD b (.agg ds)).map fun y => (x, y)
  | .arr n t, .agg ds => if ds.length = n then mapO (ofD t) ds else none
  | _, _ => none

/-- data within the bounds of their types -/
def Fits : (t : Ty) → El t → Prop
  | .int k, n => (Lit.int k n).wf = true
  | .bool, _ => True
  | .str, s => List.length (α := UInt8) s ≤ maxLen
  | .err, _ => True
  | .sl t, xs => List.length (α := El t) xs ≤ maxLen ∧ ∀ x, List.Mem (α := El t) x xs → Fits t x
  | .unit, _ => True
  | .pair a b, x => Fits a x.1 ∧ Fits b x.2
  | .arr _ t, xs => ∀ x, List.Mem (α := El t) x xs → Fits t x

/-- elements of slices take cells -/
def dataB : Ty → Bool
  | .sl t => Nat.blt 0 t.size && dataB t
  | .pair a b => dataB a && dataB b
  | .arr _ t => dataB t
  | _ => true

theorem fit_cells {P : Program} {t : Ty} {tid : Nat} (h : fitB P t tid = true) : P.cellsOf tid = t.size := by
  have hi : infoB P t tid = true := by
    cases t <;> (unfold fitB at h; rw [Bool.and_eq_true] at h; exact h.1)
  unfold infoB at hi
  unfold Program.cellsOf
  split at hi
  · rename_i i he
    rw [he]
    simp only [Bool.and_eq_true, beq_iff_eq] at hi
    simp [hi.1.1]
  · cases hi

theorem mapO_list {α β : Type} {f : α → Option β} {p : β → Prop} : ∀ (l : List α), (∀ i (h : i < l.length), ∃ y, f l[i] = some y ∧ p y) →
    ∃ ys, mapO f l = some ys ∧ ys.length = l.length ∧ (∀ y, y ∈ ys → p y) ∧ ∀ i (h : i < l.length) (h' : i < ys.length), f l[i] = some ys[i] := by
  intro l
  induction l with
  | nil => intro _; exact ⟨[], rfl, rfl, fun y h => by simp at h, fun i h => by simp at h⟩
  | cons x l ih =>
    intro h
    obtain ⟨y, hy, py⟩ := h 0 (by simp)
    obtain ⟨ys, h1, h2, h3, h4⟩ := ih (fun i hi => by
      have := h (i + 1) (by simpa using hi)
      simpa using this)
    refine ⟨y :: ys, ?_, by simp [h2], fun z hz => ?_, fun i hi hi' => ?_⟩
    · simp only [mapO]
      rw [show f x = some y from hy, h1]
      rfl
    · rcases List.mem_cons.1 hz with rfl | hz
      · exact py
      · exact h3 z hz
    · cases i with
      | zero => exact hy
      | succ i => exact h4 i (by simpa using hi) (by simpa using hi')

section
variable {H : Type} {enc : TypeId × Value → H} {P : Program} {w : World} {ow : OwF} {base : Nat} {spare : Nat → Bool} {held : Bool}

theorem trod_iface {t : TypeId} {ms : Array (String × TypeId)} {fuel : Nat} {cs : List Value} {x : DataW H × List MemPlace} (ht : P.underlying t = some (.interface ms)) (h : DataW.trod enc P w base spare held fuel t cs = some x) :
    (cs = [.nilIface] ∧ x.1 = .nil) ∨ ∃ u v, cs = [.iface u v] ∧ ((∃ y, x.1 = .held y) ∨ ∃ n y, x.1 = .iface n y) := by
  cases fuel with
  | zero => simp [DataW.trod] at h
  | succ n =>
    unfold DataW.trod at h
    rw [ht] at h
    split at h <;> simp_all
    · rw [← h]
    · split at h
      · exact .inl ⟨_, by rw [← Option.some.inj h]⟩
      · obtain ⟨y, _, hy⟩ := Option.map_eq_some_iff.1 h
        exact .inr ⟨_, _, by rw [← hy]⟩
      · cases h

theorem fit_und {t : Ty} {tid : Nat} (h : fitB P t tid = true) : match t with
    | .int k => P.underlying tid = some (.int k)
    | .bool => P.underlying tid = some .bool
    | .str => P.underlying tid = some .string
    | .err => ∃ ms, P.underlying tid = some (.interface ms)
    | .sl t => ∃ e, P.underlying tid = some (.slice e) ∧ fitB P t e = true
    | .unit => ∃ fs, P.underlying tid = some (.struct fs) ∧ fs.toList = []
    | .pair a b => ∃ fs f l, P.underlying tid = some (.struct fs) ∧ fs.toList = f :: l ∧ f.offset = 0 ∧ fitB P a f.type = true ∧ fitF P b l a.size = true
    | .arr n t => ∃ e, P.underlying tid = some (.array n e) ∧ fitB P t e = true := by
  cases t with
  | int k =>
    unfold fitB at h
    simp only [Bool.and_eq_true] at h
    split at h
    · rename_i k' hk
      have := of_decide_eq_true h.2
      subst this
      exact hk
    · exact absurd h.2 (by simp)
  | bool =>
    unfold fitB at h
    simp only [Bool.and_eq_true] at h
    split at h
    · assumption
    · exact absurd h.2 (by simp)
  | str =>
    unfold fitB at h
    simp only [Bool.and_eq_true] at h
    split at h
    · assumption
    · exact absurd h.2 (by simp)
  | err =>
    unfold fitB at h
    simp only [Bool.and_eq_true] at h
    split at h
    · exact ⟨_, by assumption⟩
    · exact absurd h.2 (by simp)
  | sl t =>
    unfold fitB at h
    simp only [Bool.and_eq_true] at h
    split at h
    · rename_i e he
      exact ⟨e, he, h.2⟩
    · exact absurd h.2 (by simp)
  | unit =>
    unfold fitB at h
    simp only [Bool.and_eq_true] at h
    split at h
    · rename_i fs he
      exact ⟨fs, he, List.isEmpty_iff.1 h.2⟩
    · exact absurd h.2 (by simp)
  | pair a b =>
    unfold fitB at h
    simp only [Bool.and_eq_true] at h
    split at h
    · rename_i fs he
      have h2 := h.2
      split at h2
      · rename_i f l hl
        simp only [Bool.and_eq_true, beq_iff_eq] at h2
        exact ⟨fs, f, l, he, hl, h2.1.1, h2.1.2, h2.2⟩
      · cases h2
    · exact absurd h.2 (by simp)
  | arr n t =>
    unfold fitB at h
    simp only [Bool.and_eq_true] at h
    split at h
    · rename_i m e he
      simp only [Bool.and_eq_true, beq_iff_eq] at h
      obtain ⟨_, h1, h2⟩ := h
      subst h1
      exact ⟨e, he, h2⟩
    · exact absurd h.2 (by simp)

theorem repN_take {α : Type} {one : α → List Value → Prop} {sz : Nat} : ∀ (ys : List α) (cs : List Value), cs.length = ys.length * sz → (∀ i (h : i < ys.length), one ys[i] ((cs.drop (i * sz)).take sz)) → RepN one ys cs := by
  intro ys
  induction ys with
  | nil =>
    intro cs hl _
    have : cs.length = 0 := by simpa using hl
    exact List.eq_nil_of_length_eq_zero this
  | cons y ys ih =>
    intro cs hl h
    have hl' : cs.length = ys.length * sz + sz := by rw [hl, List.length_cons, Nat.succ_mul]
    refine ⟨cs.take sz, cs.drop sz, (List.take_append_drop sz cs).symm, ?_, ih _ (by rw [List.length_drop]; omega) fun i hi => ?_⟩
    · have := h 0 (by simp)
      simpa using this
    · have := h (i + 1) (by simpa using hi)
      rw [List.drop_drop]
      have e : sz + i * sz = (i + 1) * sz := by rw [Nat.succ_mul]; omega
      rw [e]
      simpa using this

variable (how : ∀ b o v, cl w b o = some v → ow b o = .prot)
include how
theorem trod_rep : ∀ (t : Ty),
    (∀ (tid n : Nat) (cs : List Value) (x : DataW H × List MemPlace), fitB P t tid = true → dataB t = true → DataW.trod enc P w base spare held n tid cs = some x → ∃ y, ofD t x.1 = some y ∧ Fits t y ∧ Rep w ow t y cs) ∧
    (∀ (l : List Field) (off n : Nat) (cs : List Value) (xs : List (DataW H × List MemPlace)), fitF P t l off = true → dataB t = true → off + t.size = cs.length → xs.length = l.length →
      (∀ (i : Nat) (f : Field), l[i]? = some f → DataW.trod enc P w base spare held n f.type ((cs.drop f.offset).take (P.cellsOf f.type)) = xs[i]?) → ∃ y, ofD t (.agg (xs.map (·.1))) = some y ∧ Fits t y ∧ Rep w ow t y (cs.drop off)) := by
  intro t
  induction t with
  | int k =>
    refine ⟨fun tid n cs x hf _ h => ?_, fun l off n cs xs hf => by cases l <;> cases hf⟩
    obtain ⟨m, rfl, rfl, hw⟩ := DataW.trod_int (fit_und hf) h
    exact ⟨m, if_pos rfl, hw, rfl⟩
  | bool =>
    refine ⟨fun tid n cs x hf _ h => ?_, fun l off n cs xs hf => by cases l <;> cases hf⟩
    obtain ⟨b, rfl, rfl⟩ := DataW.trod_bool (fit_und hf) h
    exact ⟨b, rfl, trivial, rfl⟩
  | str =>
    refine ⟨fun tid n cs x hf _ h => ?_, fun l off n cs xs hf => by cases l <;> cases hf⟩
    obtain ⟨s, rfl, rfl, hs⟩ := DataW.trod_string (fit_und hf) h
    exact ⟨s.data.toList, rfl, by show s.data.toList.length ≤ maxLen; simpa using hs, rfl⟩
  | err =>
    refine ⟨fun tid n cs x hf _ h => ?_, fun l off n cs xs hf => by cases l <;> cases hf⟩
    obtain ⟨ms, hu⟩ := fit_und hf
    obtain ⟨x1, x2⟩ := x
    rcases trod_iface hu h with ⟨rfl, hx⟩ | ⟨u, v, rfl, ⟨y, hx⟩ | ⟨m, y, hx⟩⟩
    · simp only at hx; subst hx; exact ⟨true, rfl, trivial, _, rfl, .inl ⟨rfl, rfl⟩⟩
    · simp only at hx; subst hx; exact ⟨false, rfl, trivial, _, rfl, .inr ⟨rfl, u, v, rfl⟩⟩
    · simp only at hx; subst hx; exact ⟨false, rfl, trivial, _, rfl, .inr ⟨rfl, u, v, rfl⟩⟩
  | unit =>
    refine ⟨fun tid n cs x hf _ h => ?_, fun l off n cs xs hf _ hoff hl h => ?_⟩
    · obtain ⟨fs, hu, he⟩ := fit_und hf
      obtain ⟨xs, m, rfl, rfl, hlen, hxl, _⟩ := DataW.trod_struct hu h
      have hsz : fs.size = 0 := by rw [← Array.length_toList, he]; rfl
      have hxs : xs = [] := List.eq_nil_of_length_eq_zero (by rw [hxl, hsz])
      subst hxs
      have hc := fit_cells hf
      refine ⟨(), rfl, trivial, ?_⟩
      show cs = []
      exact List.eq_nil_of_length_eq_zero (by rw [hlen, hc]; rfl)
    · cases l with
      | nil =>
        have hxs : xs = [] := List.eq_nil_of_length_eq_zero hl
        subst hxs
        refine ⟨(), rfl, trivial, ?_⟩
        show cs.drop off = []
        exact List.drop_eq_nil_of_le (by have : off + 0 = cs.length := hoff; omega)
      | cons f l => cases hf
  | pair a b iha ihb =>
    have key : ∀ (f : Field) (l : List Field) (off n : Nat) (cs : List Value) (xs : List (DataW H × List MemPlace)), f.offset = off → fitB P a f.type = true → fitF P b l (off + a.size) = true → dataB (.pair a b) = true → off + (a.size + b.size) = cs.length → xs.length = l.length + 1 →
        (∀ (i : Nat) (g : Field), (f :: l)[i]? = some g → DataW.trod enc P w base spare held n g.type ((cs.drop g.offset).take (P.cellsOf g.type)) = xs[i]?) → ∃ y, ofD (.pair a b) (.agg (xs.map (·.1))) = some y ∧ Fits (.pair a b) y ∧ Rep w ow (.pair a b) y (cs.drop off) := by
      intro f l off n cs xs ho hfa hfb hd hoff hl h
      unfold dataB at hd
      rw [Bool.and_eq_true] at hd
      cases xs with
      | nil => cases hl
      | cons x xs =>
        have h0 := h 0 f rfl
        rw [fit_cells hfa, ho] at h0
        obtain ⟨ya, ea, fa, ra⟩ := iha.1 f.type n _ x hfa hd.1 (by simpa using h0)
        obtain ⟨yb, eb, fb, rb⟩ := ihb.2 l (off + a.size) n cs xs hfb hd.2 (by omega) (by simpa using hl) (fun i g hg => by
          have := h (i + 1) g (by simpa using hg)
          simpa using this)
        refine ⟨(ya, yb), ?_, ⟨fa, fb⟩, (cs.drop off).take a.size, cs.drop (off + a.size), ?_, ra, rb⟩
        · show ((ofD a x.1).bind fun x' => (ofD b (.agg (xs.map (·.1)))).map fun y => (x', y)) = some (ya, yb)
          rw [ea, eb]; rfl
        · rw [← List.drop_drop, List.take_append_drop]
    refine ⟨fun tid n cs x hf hd h => ?_, fun l off n cs xs hf hd hoff hl h => ?_⟩
    · obtain ⟨fs, f, l, hu, he, ho, hfa, hfb⟩ := fit_und hf
      obtain ⟨xs, m, rfl, rfl, hlen, hxl, hx⟩ := DataW.trod_struct hu h
      have hsz : fs.size = l.length + 1 := by rw [← Array.length_toList, he]; rfl
      have hc : P.cellsOf tid = a.size + b.size := fit_cells hf
      have := key f l 0 m cs xs ho hfa (by rw [Nat.zero_add]; exact hfb) hd (by rw [hlen, hc]; omega) (by rw [hxl, hsz]) (fun i g hg => hx i g (by
        rw [← Array.getElem?_toList, he]; exact hg))
      simpa using this
    · cases l with
      | nil => cases hf
      | cons f l =>
        unfold fitF at hf
        simp only [Bool.and_eq_true, beq_iff_eq] at hf
        exact key f l off n cs xs hf.1.1 hf.1.2 hf.2 hd hoff (by simpa using hl) h
  | sl t ih =>
    refine ⟨fun tid n cs x hf hd h => ?_, fun l off n cs xs hf => by cases l <;> cases hf⟩
    obtain ⟨e, hu, hfe⟩ := fit_und hf
    unfold dataB at hd
    rw [Bool.and_eq_true] at hd
    have hpos : 0 < t.size := Nat.le_of_ble_eq_true hd.1
    have hc := fit_cells hfe
    rcases open_slice hu h with ⟨rfl, rfl⟩ | ⟨a, len, cap, m, n', D, Pl, rfl, hb, hle, hmax, hm, rfl, hx⟩
    · exact ⟨([] : List (El t)), rfl, ⟨Nat.zero_le _, fun x hx => by cases hx⟩, none, 0, 0, rfl, rfl, Nat.le_refl _, fun h => absurd rfl h⟩
    · have hml : len ≤ m := by rw [hm]; split <;> omega
      have hD : ((List.range len).map D).length = len := by simp
      obtain ⟨ys, h1, h2, h3, h4⟩ := mapO_list (f := ofD t) (p := Fits t) ((List.range len).map D) (fun i hi => by
        have hi' : i < len := by simpa using hi
        obtain ⟨cs', _, ht⟩ := hx i (by omega)
        obtain ⟨y, e1, e2, _⟩ := ih.1 e n' cs' _ hfe hd.2 ht
        exact ⟨y, by simpa using e1, e2⟩)
      have hyl : ys.length = len := by rw [h2, hD]
      refine ⟨ys, h1, ⟨?_, h3⟩, some a, len, cap, rfl, hyl.symm, hle, fun hne => ?_⟩
      · show ys.length ≤ maxLen
        omega
      · have h0 : 0 < len := by
          rw [← hyl]; exact List.length_pos_iff.2 hne
        have hcell : ∀ i, i < len → ∀ j, j < t.size → w.cell? ((a.add (i * t.size)).add j) ≠ none := fun i hi j hj hnone => by
          obtain ⟨cs', hcs, _⟩ := hx i (by omega)
          rw [hc] at hcs
          obtain ⟨_, q1, q2⟩ := World.cells?_some hcs
          rw [q2 j hj, List.getElem?_eq_getElem (by omega)] at hnone
          cases hnone
        have hspot : a.spot = none := by
          have h00 := hcell 0 h0 0 hpos
          have e00 : (a.add (0 * t.size)).add 0 = a := by simp [Addr.add]
          rw [e00] at h00
          cases hs : a.spot with
          | none => rfl
          | some s =>
            exfalso
            apply h00
            unfold World.cell?
            split
            · simp [hs]
            · rfl
        obtain ⟨ab, ao, aq⟩ := a
        simp only at hspot
        subst hspot
        refine ⟨ab, ao, rfl, fun i hi => ?_⟩
        have hi' : i < len := by
          have : i < ys.length := hi
          omega
        obtain ⟨cs', hcs, ht⟩ := hx i (by omega)
        obtain ⟨y, e1, e2, e3⟩ := ih.1 e n' cs' _ hfe hd.2 ht
        have hy : ofD t (((List.range len).map D)[i]'(by rw [hD]; exact hi')) = some (ys[i]'(by omega)) := h4 i (by rw [hD]; exact hi') (by omega)
        have hy' : ofD t (D i) = some (ys[i]'(by omega)) := by simpa using hy
        have e1' : ofD t (D i) = some y := e1
        have hyy : y = ys[i]'(by omega) := Option.some.inj (e1'.symm.trans hy')
        rw [hc] at hcs
        obtain ⟨_, q1, q2⟩ := World.cells?_some hcs
        refine ⟨cs', hyy ▸ e3, fun j hj => ?_⟩
        have hq := q2 j hj
        rw [Addr.add_lit, Addr.add_lit] at hq
        have hq' : cl w ab (ao + i * t.size + j) = cs'[j]? := hq
        refine ⟨?_, hq'⟩
        rw [List.getElem?_eq_getElem (by omega)] at hq'
        exact how _ _ _ hq'
  | arr k t ih =>
    refine ⟨fun tid n cs x hf hd h => ?_, fun l off n cs xs hf => by cases l <;> cases hf⟩
    obtain ⟨e, hu, hfe⟩ := fit_und hf
    have hd' : dataB t = true := hd
    have hc := fit_cells hfe
    have hcc : P.cellsOf tid = k * t.size := fit_cells hf
    obtain ⟨xs, m, rfl, rfl, hlen, hxl, hx⟩ := DataW.trod_array hu h
    rw [hc] at hx
    have hxs : ∀ i (hi : i < xs.length), ∃ y, ofD t xs[i].1 = some y ∧ Fits t y ∧ Rep w ow t y ((cs.drop (i * t.size)).take t.size) := fun i hi => by
      have := hx i (by omega)
      rw [List.getElem?_eq_getElem hi] at this
      exact ih.1 e m _ _ hfe hd' this
    have hml : (xs.map (·.1)).length = k := by rw [List.length_map, hxl]
    obtain ⟨ys, h1, h2, h3, h4⟩ := mapO_list (f := ofD t) (p := Fits t) (xs.map (·.1)) (fun i hi => by
      obtain ⟨y, e1, e2, _⟩ := hxs i (by simpa using hi)
      exact ⟨y, by simpa using e1, e2⟩)
    refine ⟨ys, ?_, h3, ?_, ?_⟩
    · show (if (xs.map (·.1)).length = k then mapO (ofD t) (xs.map (·.1)) else none) = some ys
      rw [if_pos hml]; exact h1
    · show ys.length = k
      rw [h2, hml]
    · refine repN_take (sz := t.size) ys cs ?_ fun i hi => ?_
      · rw [hlen, hcc, h2, hml]
      · have hi' : i < xs.length := by rw [h2, List.length_map] at hi; exact hi
        obtain ⟨y, e1, _, e3⟩ := hxs i hi'
        have hy := h4 i (by rw [List.length_map]; exact hi') hi
        have hy' : ofD t xs[i].1 = some ys[i] := by simpa using hy
        have hyy : y = ys[i] := Option.some.inj (e1.symm.trans hy')
        exact hyy ▸ e3
end
end Mini

/- From the plain law to the row and its card. -/
namespace Mini
open Go Go.RowKit Go.Proofs Go.ChangeShapes Go.WideShapes
set_option maxRecDepth 100000

/-- the plain law -/
def Plain : Prop := ∀ [MX] (p : MiProgram) (l w : Int), Fits tMiProgram p → Fits I l → Fits I w → ∃ k, t_TopTextsRefused k p l w = some true

/-- everything that is there is nobody's to write -/
def ow0 (W : World) : OwF := fun b _ => if b < W.heap.size then .prot else .none
def gh0 (W : World) : Gh := ⟨ow0 W, fun _ => (0, 0), fun _ => undef⟩
theorem ow0_of {W : World} {b o : Nat} {v : Value} (h : cl W b o = some v) : ow0 W b o = .prot := if_pos (cl_lt h)

theorem glob_of {P : Program} {W : World} {name : String} {d : DataW Unit} {t : Ty} {x : El t} {g tid : Nat}
    (h : Lib.VarReads P W name d) (hn : P.globalNamed name = some g) (ht : (P.globals[g]?).map (·.type) = some tid) (hf : fitB P t tid = true) (hd : dataB t = true) (hx : ofD t d = some x) (h0 : 0 < t.size) :
    At W (ow0 W) t x g 0 ∧ ow0 W g t.size = .prot ∧ cl W g t.size = none := by
  obtain ⟨g', t', cs, fuel, p, e1, e2, e3, e4⟩ := h
  obtain rfl := Option.some.inj (hn.symm.trans e1)
  obtain rfl := Option.some.inj (ht.symm.trans e2)
  obtain ⟨y, q1, _, q3⟩ := (trod_rep (ow := ow0 W) (fun b o v h => ow0_of h) t).1 _ _ _ _ hf hd e4
  have hyx : y = x := Option.some.inj (q1.symm.trans hx)
  subst hyx
  unfold World.var? at e3
  rw [hn] at e3
  simp only [Option.bind_some] at e3
  have hlen : cs.toList.length = t.size := rep_len t y _ q3
  have hsz : cs.size = t.size := by rw [← hlen]; exact Array.length_toList.symm
  cases hb : W.heap[g]? with
  | none => rw [hb] at e3; cases e3
  | some ob =>
    rw [hb] at e3
    cases ob with
    | cells c a f =>
      obtain rfl := Option.some.inj e3
      have hlt : g < W.heap.size := (Array.getElem?_eq_some_iff.1 hb).1
      have hcl : ∀ j, cl W g j = c[j]? := fun j => by
        unfold cl World.cell?
        simp only [hb]
        rfl
      refine ⟨⟨c.toList, q3, fun j hj => ⟨if_pos hlt, ?_⟩⟩, if_pos hlt, ?_⟩
      · rw [Nat.zero_add, hcl, Array.getElem?_toList]
      · rw [hcl, Array.getElem?_eq_none (by omega)]
    | _ => cases e3

theorem own : ownKnob Tryz.prog.godebug = none := by kernel_rfl
theorem laidOut : laidOutB Tryz.prog = true := by kernel_rfl

theorem glob_shape {W : World} (h : W.ShapedOpen Tryz.prog) : ∃ m, W.cell? ⟨3, 0, none⟩ = some (.int .i64 m) ∧ cl W 3 1 = none := by
  obtain ⟨m, hm⟩ := cell_of_shapedOpen_int (P := Tryz.prog) (g := 3) (t := 3) (zero := #[.int .i64 0]) (k := .i64) h (of_decide_eq_true (by kernel_rfl)) (by kernel_rfl) rfl (by kernel_rfl) (by kernel_rfl) (by kernel_rfl)
  refine ⟨m, hm, ?_⟩
  obtain ⟨cs, hh, hs, _⟩ := h.1 3 #[.int .i64 0] 3 (of_decide_eq_true (by kernel_rfl)) (by kernel_rfl)
  unfold cl World.cell?
  simp only [hh]
  have : cs.size = 1 := hs
  simp [this]

abbrev laidL := YtapjdlcdgnochaaGreatDoor.Rows.topTextsRefusedRow.laid

theorem globs {W : World} (hL : laidMet Tryz.prog laidL W) (m : Int) (hm : W.cell? ⟨3, 0, none⟩ = some (.int .i64 m)) (hm1 : cl W 3 1 = none) : @GlobOK (@E ⟨m⟩) (ow0 W) W := by
  letI : MX := ⟨m⟩
  intro g t x hg
  have hg' : lk globL g = some ⟨t, x⟩ := hg
  have hmem := lk_mem hg'
  simp only [globL, List.mem_cons, List.mem_nil_iff, or_false, Prod.mk.injEq] at hmem
  rcases hmem with ⟨rfl, h⟩ | ⟨rfl, h⟩ | ⟨rfl, h⟩ | ⟨rfl, h⟩ | ⟨rfl, h⟩ | ⟨rfl, h⟩ | ⟨rfl, h⟩ <;> cases h
  · exact glob_of (tid := 82) (Lib.laidMet.reads hL (n := "midrange/program.names") (d := YtapjdlcdgnochaaGreatDoor.Rows.laid_midrange_program_names) (.tail _ (.tail _ (.tail _ (.tail _ (.tail _ (.tail _ (.tail _ (.head _))))))))) (by kernel_rfl) (by kernel_rfl) (by kernel_rfl) (by kernel_rfl) (by kernel_rfl) (by decide)
  · exact glob_of (tid := 104) (Lib.laidMet.reads hL (n := "midrange/program.operations") (d := YtapjdlcdgnochaaGreatDoor.Rows.laid_midrange_program_operations) (.tail _ (.tail _ (.tail _ (.tail _ (.tail _ (.tail _ (.head _)))))))) (by kernel_rfl) (by kernel_rfl) (by kernel_rfl) (by kernel_rfl) (by kernel_rfl) (by decide)
  · exact glob_of (tid := 54) (Lib.laidMet.reads hL (n := "midrange/program.types") (d := YtapjdlcdgnochaaGreatDoor.Rows.laid_midrange_program_types) (.tail _ (.tail _ (.tail _ (.tail _ (.tail _ (.tail _ (.tail _ (.tail _ (.head _)))))))))) (by kernel_rfl) (by kernel_rfl) (by kernel_rfl) (by kernel_rfl) (by kernel_rfl) (by decide)
  · refine ⟨⟨[.int .i64 m], rfl, fun j hj => ?_⟩, if_pos (cl_lt (o := 0) hm), hm1⟩
    have hj' : j = 0 := by have : j < 1 := hj; omega
    subst hj'
    exact ⟨if_pos (cl_lt (o := 0) hm), hm⟩
  · exact glob_of (tid := 189) (Lib.laidMet.reads hL (n := "internal/strconv.uint64pow10") (d := YtapjdlcdgnochaaGreatDoor.Rows.laid_internal_strconv_uint64pow10) (.tail _ (.tail _ (.head _)))) (by kernel_rfl) (by kernel_rfl) (by kernel_rfl) (by kernel_rfl) (by kernel_rfl) (by decide)
  · exact glob_of (tid := 89) (Lib.laidMet.reads hL (n := "strconv.ErrSyntax") (d := YtapjdlcdgnochaaGreatDoor.Rows.laid_strconv_ErrSyntax) (.tail _ (.tail _ (.tail _ (.tail _ (.tail _ (.head _))))))) (by kernel_rfl) (by kernel_rfl) (by kernel_rfl) (by kernel_rfl) (by kernel_rfl) (by decide)
  · exact glob_of (tid := 89) (Lib.laidMet.reads hL (n := "strconv.ErrRange") (d := YtapjdlcdgnochaaGreatDoor.Rows.laid_strconv_ErrRange) (.tail _ (.tail _ (.tail _ (.tail _ (.head _)))))) (by kernel_rfl) (by kernel_rfl) (by kernel_rfl) (by kernel_rfl) (by kernel_rfl) (by decide)

theorem lifted (hP : Plain) (os : Os) (started : os.Started) (H : Type) (enc : TypeId × Value → H) :
    ReturnsInHanded {} Tryz.checked os 3 .any (fun w args => (YtapjdlcdgnochaaGreatDoor.Rows.topTextsRefusedSpec.pre enc Tryz.prog Tryz.f3 [] false w args ∧ laidMetH Tryz.prog laidL w) ∧ sizedMet enc Tryz.prog Tryz.f3 (OpenSpec.ofChange YtapjdlcdgnochaaGreatDoor.Rows.topTextsRefusedSpec) false w args)
      (YtapjdlcdgnochaaGreatDoor.Rows.topTextsRefusedSpec.post enc Tryz.prog Tryz.f3 false true false false) := by
  refine returnsInHanded_of_calls (C := Tryz.checked) own started (by kernel_rfl)
    (ChangeSpec.witness_shaped (enc := enc) (C := Tryz.checked) (os := os) (f := 3) (fn := Tryz.f3) (X := fun w _ => laidMetH Tryz.prog laidL w) false (World.laidAll Tryz.prog os laidL) #[.agg #[.slice none 0 0, .slice none 0 0, .slice none 0 0], .int .i64 0, .int .i64 0] 8 (World.laidAll_os _ _ _)
      (World.shaped_of_ZipB (by kernel_rfl) (by kernel_rfl)) (by kernel_rfl) (by kernel_rfl) (by kernel_rfl)
      (by rw [MakeChecks.laidMetH_plain _ _ _ (by kernel_rfl)]; exact laidMet_laidAll _ (by kernel_rfl) (by kernel_rfl))) ?_
  intro W0 tape i _ hsh _ hok hpre _
  obtain ⟨_, _, _, fn', hfn', _, _, _, hsz, hval0⟩ := hok
  obtain rfl : fn' = Tryz.f3 := Option.some.inj (hfn'.symm.trans Tryz.func3)
  obtain ⟨⟨⟨ds, gs, before, hw, hc⟩, hx⟩, hz⟩ := hpre
  have hW := DataW.Whole.of_heap (w' := W0.forCall tape i) (by rfl) hw
  have hL0 : laidMetH Tryz.prog laidL (W0.forCall tape i) := hx.of_heap (by rfl)
  generalize hWW : W0.forCall tape i = W at *
  have hL : laidMet Tryz.prog laidL W := by rw [MakeChecks.laidMetH_plain _ _ _ (by kernel_rfl)] at hL0; exact hL0
  have hval : ∀ (j : Nat) t v, Tryz.f3.params[j]? = some t → i.args[j]? = some v → Value.okWide Tryz.prog W .any W0.heap.size t v := hval0
  have hW' := hW
  obtain ⟨p, q, hA0, hV, rfl, _, _⟩ := hW
  have hA : DataW.TrodAll enc Tryz.prog W 0 (fun _ => true) true Tryz.f3.params.toList i.args.toList ds p := hA0
  rw [Tryz.params3] at hA hval
  obtain ⟨v0, v1, v2, d0, d1, d2, p0, p1, p2, hargs, rfl, rfl, h0, h1, h2⟩ := trodAll_three hA
  obtain ⟨rfl, rfl⟩ := trodVars_none hV
  have a0 : i.args[0]? = some v0 := by rw [hargs]; rfl
  have a1 : i.args[1]? = some v1 := by rw [hargs]; rfl
  have a2 : i.args[2]? = some v2 := by rw [hargs]; rfl
  have h1k := h1
  have h2k := h2
  obtain ⟨l, rfl, _, _, wl⟩ := open_int Tryz.underlying3 (hval 1 3 v1 rfl a1) h1
  obtain ⟨wy, rfl, _, _, ww⟩ := open_int Tryz.underlying3 (hval 2 3 v2 rfl a2) h2
  have hv0 := hval 0 26 v0 rfl a0
  have h26 : fitB Tryz.prog tMiProgram 26 = true := by kernel_rfl
  obtain ⟨fs, f, fl, hu, _⟩ := fit_und h26
  obtain ⟨cs, rfl, _⟩ := okWide_struct hu hv0
  have h0k := h0
  obtain ⟨fuel, h0⟩ := h0
  obtain ⟨y, _, hfit, hrep⟩ := (trod_rep (ow := ow0 W) (fun b o v h => ow0_of h) tMiProgram).1 _ _ _ _ h26 (by decide) h0
  obtain ⟨m, hm, hm1⟩ := glob_shape hsh
  letI : MX := ⟨m⟩
  obtain ⟨k, hk⟩ := hP y l wy hfit wl ww
  have hM : Meets E ⟨3, t_TopTextsRefused_e, t_TopTextsRefused_o, _, none⟩ (y, l, wy) true := meets_of envOK instOK extOK (i := 3) rfl hk
  refine (hM (gh0 W) W i.args (by rw [hargs]; rfl) { box := (fun k cs _ h => by cases h), gr := (fun k g _ h => by cases h), lt := (fun b o h => by
    show b < W.heap.size
    by_cases hb : b < W.heap.size
    · exact hb
    · exact absurd (if_neg hb) h) } (fun q hq => ?_) (fun j hj => absurd hj (Nat.not_lt_zero j)) (globs hL m hm hm1)).mono ?_
  · rw [hargs]
    match q, hq with
    | 0, _ =>
      show RepV W (ow0 W) tMiProgram y (.agg cs)
      exact ⟨cs, rfl, hrep⟩
    | 1, _ => exact repV_int'
    | 2, _ => exact repV_int'
    | q + 3, h => exact absurd (show q + 3 < 3 from h) (by omega)
  · rintro e W' ⟨vs, G', rfl, hd⟩
    have hb : Below W.heap.size W W' := ⟨hd.fr.os, hd.fr.tape, hd.fr.output, hd.fr.size, fun b hb => hd.fr.block b hb fun o => by
      show ¬ Ow.owned (if b < W.heap.size then Ow.prot else Ow.none)
      rw [if_pos hb]
      exact id⟩
    have hv : resV vs = .bool true := by
      match vs, hd.vlen, hd.res 0 (by decide) with
      | [v], _, hr =>
        have hr' : Rep W' G'.ow .bool true [v] := hr
        have : v = .bool true := by simpa [Rep] using hr'
        exact this
    rw [hv]
    have hlt : ∀ x ∈ p0, x.block < W.heap.size := fun x hx => hW'.lt x (by simp [hx])
    obtain ⟨n1, _, e1, e2, _⟩ := open_int Tryz.underlying3 (hval 1 3 _ rfl a1) h1k
    obtain ⟨n2, _, e3, e4, _⟩ := open_int Tryz.underlying3 (hval 2 3 _ rfl a2) h2k
    have hT1 : DataW.Trod enc Tryz.prog W' 0 (fun b => decide (b < W.heap.size)) true 3 (.int .i64 l) d1 p1 := Below.trod laidOut (by kernel_rfl) (of_decide_eq_true (by kernel_rfl)) h1k hb (by rw [e2]; intro x hx; cases hx)
    have hT2 : DataW.Trod enc Tryz.prog W' 0 (fun b => decide (b < W.heap.size)) true 3 (.int .i64 wy) d2 p2 := Below.trod laidOut (by kernel_rfl) (of_decide_eq_true (by kernel_rfl)) h2k hb (by rw [e4]; intro x hx; cases hx)
    have hT0 : DataW.Trod enc Tryz.prog W' 0 (fun b => decide (b < W.heap.size)) true 26 (.agg cs) d0 p0 := Below.trod laidOut (by kernel_rfl) (of_decide_eq_true (by kernel_rfl)) h0k hb hlt
    refine ChangeSpec.post_blind (H := H) (enc := enc) (f := Tryz.f3) ⟨[d0, d1, d2], [], _, [], p0 ++ (p1 ++ p2), [], hW', ?_, ?_, rfl, hb.frame _, fun h => by cases h⟩
    · exact trodAll_mk1 (shut_bool Tryz.underlying4 true)
    · have hT := trodAll_mk3 hT0 hT1 hT2
      rw [Tryz.params3, hargs]
      exact hT
end Mini

/- The row and its card, from the plain law. -/
namespace Mini
open Go Go.RowKit Go.Proofs
set_option maxRecDepth 100000

theorem row_holds (hP : Plain) : YtapjdlcdgnochaaGreatDoor.Rows.TopTextsRefusedSaid :=
  OpenClaim.holds_of_wide 3 Tryz.f3 rfl rfl rfl rfl rfl rfl rfl ⟨rfl, rfl, rfl, rfl, rfl⟩ rfl rfl rfl rfl rfl (by kernel_rfl) Tryz.func3 (by kernel_rfl)
    (of_decide_eq_true (by kernel_rfl)) (by unfold Func.isWrapper; first | (rw [if_pos (by decide +kernel)]; kernel_rfl) | (rw [if_neg (by decide +kernel)]; exact ⟨rfl, rfl⟩))
    (fun os started H enc _ => lifted hP os started H enc)

theorem card_holds (hP : Plain) : YtapjdlcdgnochaaGreatDoor.Rows.TopTextsRefusedCardSaid :=
  Claim7.holds_tied_plain_at .later [] [.data, .data, .data, .data, .sentinel, .sentinel, .data, .widerDeep, .widerDeep, .pinned] true (true, "f410359e4579012227f49b7ec4e2bf189ec5cbd9a374f7787670073a02392029") true
    (row_holds hP) (fun _ h => by cases h) (by kernel_rfl) (fun _ h => by cases h) YtapjdlcdgnochaaGreatDoor.topTextsRefused_row_tie rfl ⟨rfl, rfl⟩ (by kernel_rfl) rfl
    (fun f fn hf hfn => by
      obtain rfl : f = 3 := Option.some.inj ((show Tryz.prog.funcNamed "midrange/midrangetop.TopTextsRefused" = some 3 by kernel_rfl).symm.trans hf) |>.symm
      obtain rfl : fn = Tryz.f3 := (Option.some.inj (Tryz.func3.symm.trans hfn)).symm
      exact ⟨by kernel_rfl, fun j t ht => by
        rw [Tryz.params3] at ht
        have hm : t ∈ [26, 3, 3] := by simpa using Array.mem_of_getElem? ht
        simp only [List.mem_cons, List.mem_nil_iff, or_false] at hm
        rcases hm with rfl | rfl | rfl
        · exact (show Tryz.prog.wantsStandIn 26 = false by kernel_rfl)
        · exact (show Tryz.prog.wantsStandIn 3 = false by kernel_rfl)
        · exact (show Tryz.prog.wantsStandIn 3 = false by kernel_rfl)⟩)
    (by kernel_rfl)
end Mini
