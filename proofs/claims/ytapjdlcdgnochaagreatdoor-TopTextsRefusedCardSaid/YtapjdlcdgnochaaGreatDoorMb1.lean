/- The tables of the evaluator for this program, and what its functions answer: equations by the kernel. -/
import Derived.Test.YtapjdlcdgnochaaGreatDoorMa1
import Derived.Lib.Split
import Derived.Lib.Repeat
import Derived.Lib.Replace
import Derived.Lib.Join
import Derived.Lib.Bytealg
import Derived.Lib.Strings
import Derived.Lib.SlTrimSet
import Derived.Lib.AtoiAll
import Derived.Lib.ItoaNum
import Derived.Lib.IndexMore
import Derived.Test.YtapjdlcdgnochaaGreatDoorProg
import Derived.KernelRfl
set_option linter.unusedSectionVars false
set_option linter.unusedSimpArgs false
set_option linter.unusedVariables false

/- What the functions of the library answer, on plain data. -/
namespace Mini
open Go

def xCut (s sep : List UInt8) : Option (List UInt8 × List UInt8 × Bool) := if s.length < 4294967281 then some (Lib.cut s sep) else none
def xHasPrefix (s p : List UInt8) : Option Bool := some (Lib.hasPrefix s p)
def xTrimPrefix (s p : List UInt8) : Option (List UInt8) := some (Lib.trimPrefix s p)
def xCutPrefix (s p : List UInt8) : Option (List UInt8 × Bool) := some (Lib.trimPrefix s p, Lib.hasPrefix s p)
def xCutSuffix (s p : List UInt8) : Option (List UInt8 × Bool) := if s.length ≤ 9223372036854775807 then some (Lib.trimSuffix s p, Lib.hasSuffix s p) else none
def xJoin (xs : List (List UInt8)) (sep : List UInt8) : Option (List UInt8) := if xs.length ≤ 140737488355328 ∧ (Lib.join xs sep).length ≤ 140737488355328 then some (Lib.join xs sep) else none
def xSplit (s sep : List UInt8) : Option (List (List UInt8)) :=
  if s.length < 4294967281 ∧ 1 ≤ sep.length then some ((Lib.splitB ⟨⟨sep⟩⟩ 0 (Lib.countB ⟨⟨s⟩⟩ ⟨⟨sep⟩⟩) ⟨⟨s⟩⟩).map (·.data.toList)) else none
def xReplaceAll (s old new : List UInt8) : Option (List UInt8) :=
  if s.length < 4294967281 ∧ 1 ≤ old.length ∧ s.length + Lib.countB ⟨⟨s⟩⟩ ⟨⟨old⟩⟩ * new.length ≤ 140737488355328 then some (Lib.replaceAll s old new) else none
def xRepeat (s : List UInt8) (c : Int) : Option (List UInt8) := if 0 ≤ c ∧ c ≤ 9223372036854775807 ∧ s.length * c.toNat ≤ 140737488355328 then some (Lib.repeatL s c.toNat) else none
def xTrimLeft (s cs : List UInt8) : Option (List UInt8) := match cs with
  | [c] => if c.toNat < 128 then some (Lib.trimLeftB s c) else none
  | _ => none
def xIndexByte (s : List UInt8) (c : Int) : Option Int := some (Lib.indexByte s c.toNat.toUInt8)
def xItoa (n : Int) : Option (List UInt8) := if -9223372036854775808 ≤ n ∧ n ≤ 9223372036854775807 then some (Lib.itoa n) else none
def xAtoi (s : List UInt8) : Option (Int × Bool) :=
  if s.length ≤ 281474976710656 then
    some (match Lib.atoiAll s with
      | .ok v => (v, true)
      | .range => (Lib.atoiSat s, false)
      | _ => (0, false))
  else none
def xFill (xs : List Int) (c : Int) : Option (List Int) :=
  if 0 ≤ c ∧ c ≤ 65536 ∧ xs.length = 1 then some (List.replicate c.toNat (xs.getD 0 0)) else none
end Mini

/- The tables of the evaluator for this program: types, instances, shapes. -/
namespace Mini
open Go

abbrev I : Ty := .int .i64
abbrev Str := List UInt8
abbrev w64 (n : Int) : Int := IntKind.i64.wrap n
abbrev tDataType : Ty := .pair (.int .i64) (.pair (.int .i64) (.pair (.int .i64) .unit))
abbrev DataType := Int × Int × Int × Unit
abbrev tVal : Ty := .pair (.int .i64) (.pair .str .unit)
abbrev Val := Int × Str × Unit
abbrev tMiOperand : Ty := .pair .str (.pair (.int .i64) (.pair tDataType (.pair tVal (.pair .str (.pair (.int .i64) (.pair (.int .i64) .unit))))))
abbrev MiOperand := Str × Int × DataType × Val × Str × Int × Int × Unit
abbrev tMiInstruction : Ty := .pair (.int .i64) (.pair (.sl (.int .i64)) .unit)
abbrev MiInstruction := Int × List Int × Unit
abbrev tTwo : Ty := .pair (.int .i64) (.pair (.int .i64) .unit)
abbrev Two := Int × Int × Unit
abbrev tMiMonitor : Ty := .pair (.int .i64) tDataType
abbrev MiMonitor := Int × DataType
abbrev tMiProgram : Ty := .pair (.sl tMiOperand) (.pair (.sl tMiInstruction) (.pair (.sl tMiMonitor) .unit))
abbrev MiProgram := List MiOperand × List MiInstruction × List MiMonitor × Unit
abbrev tLine : Ty := .pair (.int .i64) (.pair (.int .i64) (.pair tMiOperand (.pair (.int .i64) (.pair (.sl .str) (.pair tMiMonitor .unit)))))
abbrev Line := Int × Int × MiOperand × Int × List Str × MiMonitor × Unit
def gNames : List Str := [[77, 79, 86, 69], [77, 79, 86, 69, 72], [65, 68, 68], [83, 85, 66], [77, 85, 76], [68, 73, 86], [82, 69, 77], [73, 70, 69, 81], [73, 70, 76, 84], [71, 79, 84, 79], [65, 68, 68, 82], [77, 79, 86, 69, 80], [65, 68, 86, 65, 78, 67, 69], [67, 65, 76, 76], [82, 69, 84, 85, 82, 78], [83, 73, 71, 78, 65, 76], [69, 88, 67, 69, 80, 84, 73, 79, 78], [80, 82, 73, 78, 84], [69, 78, 68]]
def gOperations : List (List Int) := [[0, 4], [2, 3], [2, 3, 3], [2, 3, 3], [2, 3, 3], [2, 3, 3], [2, 3, 3], [1, 4, 6], [1, 4, 6], [6], [5, 0], [5, 5], [5, 3], [6], [], [3], [2], [1], []]
def gTypes : List Str := [[67, 72, 65, 82], [80, 65, 67, 75, 69, 68], [90, 79, 78, 69, 68], [66, 73, 78, 65, 82, 89]]
class MX where
  m : Int
variable [MX]
def t_TopTextsRefused_e : Shape := ⟨[.d tMiProgram, .d I, .d I], []⟩
def t_TopTextsRefused_o : Shape := ⟨[.d .bool], []⟩
def t_TopTextsRefused_c32 : Shape := ⟨[.u, .u, .d I, .u, .u, .u, .u, .d .str, .u, .a 0 0, .u, .d (.sl I), .d I, .d I], [[.d (.sl tMiOperand), .d (.sl tMiInstruction), .d (.sl tMiMonitor)]]⟩
def t_TopTextsRefused_c56 : Shape := ⟨[.u, .u, .u, .u, .u, .u, .u, .u, .u, .a 0 0, .u, .u, .u, .u, .d .str, .d I], [[.d (.sl tMiOperand), .d (.sl tMiInstruction), .d (.sl tMiMonitor)]]⟩
def t_TopTextsRefused_c62 : Shape := ⟨[.u, .u, .u, .u, .u, .u, .u, .u, .u, .a 0 0, .u, .u, .u, .u, .d .str, .d I, .d I], [[.d (.sl tMiOperand), .d (.sl tMiInstruction), .d (.sl tMiMonitor)]]⟩
def l_Few_e : Shape := ⟨[.d tMiProgram], []⟩
def l_Few_o : Shape := ⟨[.d .bool], []⟩
def l_Few_c9 : Shape := ⟨[.u, .a 0 0, .u, .d I], [[.d (.sl tMiOperand), .d (.sl tMiInstruction), .d (.sl tMiMonitor)]]⟩
def l_Few_c21 : Shape := ⟨[.u, .a 0 0, .u, .u, .u, .d I], [[.d (.sl tMiOperand), .d (.sl tMiInstruction), .d (.sl tMiMonitor)]]⟩
def r_Err_e : Shape := ⟨[.d tMiProgram], []⟩
def r_Err_o : Shape := ⟨[.d I], []⟩
def b_Within_e : Shape := ⟨[.d I, .d I, .d I], []⟩
def b_Within_o : Shape := ⟨[.d .bool], []⟩
def p_FormatProgram_e : Shape := ⟨[.d tMiProgram], []⟩
def p_FormatProgram_o : Shape := ⟨[.d .str, .d I], []⟩
def p_FormatProgram_c13 : Shape := ⟨[.u, .a 0 0, .u, .u, .u, .o .str true, .u, .u, .u, .u, .u, .u, .u, .u, .u, .u, .u, .u, .u, .u, .u, .u, .d (.sl tMiOperand), .d I, .d I], [[.d (.sl tMiOperand), .d (.sl tMiInstruction), .d (.sl tMiMonitor)]]⟩
def p_FormatProgram_c23 : Shape := ⟨[.u, .a 0 0, .u, .u, .u, .o .str true, .u, .u, .u, .u, .u, .u, .u, .u, .u, .u, .u, .u, .u, .u, .u, .u, .u, .u, .u, .u, .u, .u, .u, .u, .u, .u, .u, .u, .u, .d (.sl tMiInstruction), .d I, .d I], [[.d (.sl tMiOperand), .d (.sl tMiInstruction), .d (.sl tMiMonitor)]]⟩
def p_FormatProgram_c31 : Shape := ⟨[.u, .a 0 0, .u, .u, .u, .o .str true, .u, .u, .u, .a 1 0, .o .str true, .u, .u, .u, .u, .u, .u, .u, .u, .u, .u, .u, .u, .u, .u, .u, .u, .u, .u, .u, .u, .u, .u, .u, .u, .d (.sl tMiInstruction), .d I, .d I, .u, .u, .u, .u, .d (.sl I), .d I, .d I], [[.d (.sl tMiOperand), .d (.sl tMiInstruction), .d (.sl tMiMonitor)], [.d I, .d (.sl I)]]⟩
def p_FormatProgram_c45 : Shape := ⟨[.u, .u, .u, .u, .u, .o .str true, .u, .u, .u, .u, .u, .u, .u, .u, .u, .u, .u, .u, .u, .u, .u, .u, .u, .u, .u, .u, .u, .u, .u, .u, .u, .u, .u, .u, .u, .u, .u, .u, .u, .u, .u, .u, .u, .u, .u, .u, .u, .u, .u, .u, .u, .u, .u, .u, .u, .u, .u, .u, .u, .u, .u, .u, .u, .u, .u, .u, .u, .d (.sl tMiMonitor), .d I, .d I], []⟩
def r_Own_e : Shape := ⟨[.d tMiProgram], []⟩
def r_Own_o : Shape := ⟨[.d tMiProgram], []⟩
def r_Own_c7 : Shape := ⟨[.u, .a 0 0, .a 1 0, .a 2 0, .d I], [[.d (.sl tMiOperand), .d (.sl tMiInstruction), .d (.sl tMiMonitor)], [.o tMiOperand true, .o tMiInstruction true, .o tMiMonitor true], [.o tMiOperand true, .o tMiInstruction true, .o tMiMonitor true]]⟩
def r_Format_e : Shape := ⟨[.d tMiProgram], []⟩
def r_Format_o : Shape := ⟨[.d .str], []⟩
def r_Format_c7 : Shape := ⟨[.u, .a 0 0, .u, .d .str, .d I], [[.d (.sl tMiOperand), .d (.sl tMiInstruction), .d (.sl tMiMonitor)]]⟩
def r_Format_c15 : Shape := ⟨[.u, .a 0 0, .u, .d .str, .u, .d I], [[.d (.sl tMiOperand), .d (.sl tMiInstruction), .d (.sl tMiMonitor)]]⟩
def r_Format_c25 : Shape := ⟨[.u, .a 0 0, .u, .d .str, .u, .d I, .a 1 0, .d I], [[.d (.sl tMiOperand), .d (.sl tMiInstruction), .d (.sl tMiMonitor)], [.d I, .d (.sl I)]]⟩
def r_Format_c34 : Shape := ⟨[.u, .a 0 0, .u, .d .str, .u, .d I, .a 1 0, .d I, .d .str], [[.d (.sl tMiOperand), .d (.sl tMiInstruction), .d (.sl tMiMonitor)], [.d I, .d (.sl I)]]⟩
def r_Format_c41 : Shape := ⟨[.u, .a 0 0, .u, .d .str, .u, .u, .u, .u, .u, .d I], [[.d (.sl tMiOperand), .d (.sl tMiInstruction), .d (.sl tMiMonitor)]]⟩
def p_ParseProgram_e : Shape := ⟨[.d .str], []⟩
def p_ParseProgram_o : Shape := ⟨[.d tMiProgram, .d I, .d I], []⟩
def p_ParseProgram_c11 : Shape := ⟨[.d .str, .u, .a 0 0, .u, .u, .o tLine true, .d I, .d I], [[.o tMiOperand true, .o tMiInstruction true, .o tMiMonitor true]]⟩
def r_Same_e : Shape := ⟨[.d tMiProgram, .d tMiProgram], []⟩
def r_Same_o : Shape := ⟨[.d .bool], []⟩
def r_Same_c9 : Shape := ⟨[.u, .u, .a 0 0, .a 1 0, .u, .d I], [[.d (.sl tMiOperand), .d (.sl tMiInstruction), .d (.sl tMiMonitor)], [.d (.sl tMiOperand), .d (.sl tMiInstruction), .d (.sl tMiMonitor)]]⟩
def r_Same_c19 : Shape := ⟨[.u, .u, .a 0 0, .a 1 0, .u, .u, .d I], [[.d (.sl tMiOperand), .d (.sl tMiInstruction), .d (.sl tMiMonitor)], [.d (.sl tMiOperand), .d (.sl tMiInstruction), .d (.sl tMiMonitor)]]⟩
def r_Same_c29 : Shape := ⟨[.u, .u, .a 0 0, .a 1 0, .u, .u, .u, .d I], [[.d (.sl tMiOperand), .d (.sl tMiInstruction), .d (.sl tMiMonitor)], [.d (.sl tMiOperand), .d (.sl tMiInstruction), .d (.sl tMiMonitor)]]⟩
def t_startsOf_e : Shape := ⟨[.d .str], []⟩
def t_startsOf_o : Shape := ⟨[.d (.sl I)], []⟩
def t_startsOf_c7 : Shape := ⟨[.d .str, .u, .u, .o I true, .d I], []⟩
def r_Check_e : Shape := ⟨[.d tMiProgram], []⟩
def r_Check_o : Shape := ⟨[.d tTwo, .d I], []⟩
def r_Check_c13 : Shape := ⟨[.u, .a 0 0, .a 1 0, .u, .d I], [[.d (.sl tMiOperand), .d (.sl tMiInstruction), .d (.sl tMiMonitor)], [.d I, .d I]]⟩
def r_Check_c31 : Shape := ⟨[.u, .a 0 0, .a 1 0, .u, .u, .u, .u, .u, .d I], [[.d (.sl tMiOperand), .d (.sl tMiInstruction), .d (.sl tMiMonitor)], [.d I, .d I]]⟩
def r_Check_c43 : Shape := ⟨[.u, .a 0 0, .a 1 0, .u, .u, .u, .u, .u, .u, .u, .d I], [[.d (.sl tMiOperand), .d (.sl tMiInstruction), .d (.sl tMiMonitor)], [.d I, .d I]]⟩
def p_programErr_e : Shape := ⟨[.d tMiProgram], []⟩
def p_programErr_o : Shape := ⟨[.d I], []⟩
def p_operandLine_e : Shape := ⟨[.d tMiOperand], []⟩
def p_operandLine_o : Shape := ⟨[.d .str], []⟩
def p_instructionLine_e : Shape := ⟨[.d I, .d (.sl .str)], []⟩
def p_instructionLine_o : Shape := ⟨[.d .str], []⟩
def p_monitorLine_e : Shape := ⟨[.d tMiMonitor], []⟩
def p_monitorLine_o : Shape := ⟨[.d .str], []⟩
def p_monitorLine_c7 : Shape := ⟨[.u, .u, .u, .d .str, .u, .u, .u, .u, .u, .u, .u, .u, .u, .u, .o I true, .d I, .d I], []⟩
def s_Join_e : Shape := ⟨[.d (.sl .str), .d .str], []⟩
def s_Join_o : Shape := ⟨[.d .str], []⟩
def b_CopyInts_e : Shape := ⟨[.d (.sl I)], []⟩
def b_CopyInts_o : Shape := ⟨[.d (.sl I)], []⟩
def r_operandText_e : Shape := ⟨[.d tMiOperand], []⟩
def r_operandText_o : Shape := ⟨[.d .str], []⟩
def r_names_e : Shape := ⟨[], []⟩
def r_names_o : Shape := ⟨[.d (.sl .str)], []⟩
def b_Digits_e : Shape := ⟨[.d I], []⟩
def b_Digits_o : Shape := ⟨[.d .str], []⟩
def s_Cut_e : Shape := ⟨[.d .str, .d .str], []⟩
def s_Cut_o : Shape := ⟨[.d .str, .d .str, .d .bool], []⟩
def s_HasPrefix_e : Shape := ⟨[.d .str, .d .str], []⟩
def s_HasPrefix_o : Shape := ⟨[.d .bool], []⟩
def p_read_e : Shape := ⟨[.d .str], []⟩
def p_read_o : Shape := ⟨[.d tLine, .d .bool], []⟩
def p_read_c19 : Shape := ⟨[.u, .u, .a 0 0, .u, .u, .u, .u, .u, .u, .u, .u, .o I true, .u, .u, .u, .u, .u, .u, .u, .u, .u, .u, .u, .u, .u, .u, .u, .u, .u, .u, .u, .u, .u, .u, .u, .u, .u, .u, .u, .u, .u, .u, .u, .u, .u, .u, .u, .u, .u, .u, .u, .d (.sl .str), .d I, .d I], [[.d I, .d I, .d .str, .d I, .d I, .d I, .d I, .d I, .d .str, .d .str, .d I, .d I, .d I, .o .str true, .d I, .d I, .d I, .d I]]⟩
def p_read_c44 : Shape := ⟨[.u, .u, .a 0 0, .u, .u, .u, .u, .u, .u, .u, .u, .u, .u, .u, .u, .u, .a 1 0], [[.d I, .d I, .d .str, .d I, .d I, .d I, .d I, .d I, .d .str, .d .str, .d I, .d I, .d I, .o .str true, .d I, .d I, .d I, .d I], [.d I, .d I, .d .str, .d I, .d I, .d I, .d I, .d I, .d .str, .d .str, .d I, .d I, .d I, .d (.sl .str), .d I, .d I, .d I, .d I]]⟩
def p_programOf_e : Shape := ⟨[.d (.sl tLine)], []⟩
def p_programOf_o : Shape := ⟨[.d tMiProgram, .d I, .d I], []⟩
def p_programOf_c9 : Shape := ⟨[.d (.sl tLine), .u, .a 0 0, .u, .u, .a 1 0, .a 2 0, .u, .u, .u, .u, .u, .u, .u, .u, .u, .u, .u, .u, .d (.sl tLine), .d I, .d I], [[.o tMiOperand true, .o tMiInstruction true, .o tMiMonitor true], [.o tMiOperand true, .o tMiInstruction true, .o tMiMonitor true], [.o I true, .o I true, .o I true, .o I true]]⟩
def p_programOf_c29 : Shape := ⟨[.u, .u, .a 0 0, .u, .u, .a 1 0, .a 2 0, .u, .u, .u, .u, .u, .u, .u, .u, .u, .u, .u, .u, .u, .u, .u, .u, .u, .u, .u, .u, .u, .u, .u, .u, .u, .u, .u, .u, .u, .u, .u, .u, .u, .u, .u, .u, .u, .u, .u, .u, .u, .u, .u, .u, .u, .u, .u, .u, .u, .u, .d (.sl tLine), .d I, .d I], [[.o tMiOperand true, .o tMiInstruction true, .o tMiMonitor true], [.o tMiOperand false, .o tMiInstruction true, .o tMiMonitor true], [.o I true, .o I true, .o I true, .o I true]]⟩
def p_programOf_c43 : Shape := ⟨[.u, .u, .a 0 0, .u, .u, .a 1 0, .a 2 0, .u, .u, .u, .a 3 0, .a 4 0, .u, .u, .u, .u, .u, .u, .u, .u, .u, .u, .u, .u, .u, .u, .u, .u, .u, .u, .u, .u, .u, .u, .u, .u, .u, .u, .u, .u, .u, .u, .u, .u, .u, .u, .u, .u, .u, .u, .u, .u, .u, .u, .u, .u, .u, .d (.sl tLine), .d I, .d I, .u, .u, .u, .u, .u, .u, .u, .u, .u, .u, .u, .u, .u, .u, .u, .u, .u, .u, .u, .u, .u, .u, .d (.sl .str), .d I, .d I], [[.o tMiOperand true, .o tMiInstruction true, .o tMiMonitor true], [.o tMiOperand false, .o tMiInstruction true, .o tMiMonitor true], [.o I true, .o I true, .o I true, .o I true], [.d I, .d I, .d .str, .d I, .d I, .d I, .d I, .d I, .d .str, .d .str, .d I, .d I, .d I, .d (.sl .str), .d I, .d I, .d I, .d I], [.d I, .o I true]]⟩
def b_Ints_e : Shape := ⟨[.d (.sl I), .d (.sl I)], []⟩
def b_Ints_o : Shape := ⟨[.d .bool], []⟩
def b_Ints_c9 : Shape := ⟨[.d (.sl I), .d (.sl I), .u, .u, .u, .d I], []⟩
def r_operandErr_e : Shape := ⟨[.d tMiProgram, .d I], []⟩
def r_operandErr_o : Shape := ⟨[.d I], []⟩
def r_operandErr_c32 : Shape := ⟨[.u, .d I, .a 0 0, .u, .u, .a 1 0], [[.d (.sl tMiOperand), .d (.sl tMiInstruction), .d (.sl tMiMonitor)], [.d .str, .d I, .d I, .d I, .d I, .d I, .d .str, .d .str, .d I, .d I]]⟩
def r_Layout_e : Shape := ⟨[.d tMiProgram], []⟩
def r_Layout_o : Shape := ⟨[.d (.sl I), .d I], []⟩
def r_Layout_c9 : Shape := ⟨[.u, .a 0 0, .u, .u, .o I true, .d I, .d I], [[.d (.sl tMiOperand), .d (.sl tMiInstruction), .d (.sl tMiMonitor)]]⟩
def r_Layout_c23 : Shape := ⟨[.u, .a 0 0, .u, .u, .o I true, .d I, .u, .d I], [[.d (.sl tMiOperand), .d (.sl tMiInstruction), .d (.sl tMiMonitor)]]⟩
def r_Layout_c37 : Shape := ⟨[.u, .a 0 0, .u, .u, .o I true, .d I, .u, .u, .u, .d I], [[.d (.sl tMiOperand), .d (.sl tMiInstruction), .d (.sl tMiMonitor)]]⟩
def r_instructionErr_e : Shape := ⟨[.d tMiProgram, .d tMiInstruction], []⟩
def r_instructionErr_o : Shape := ⟨[.d I], []⟩
def r_instructionErr_c15 : Shape := ⟨[.u, .u, .a 0 0, .a 1 0, .u, .d (.sl I), .d I], [[.d (.sl tMiOperand), .d (.sl tMiInstruction), .d (.sl tMiMonitor)], [.d I, .d (.sl I)]]⟩
def p_CheckProgram_e : Shape := ⟨[.d tMiProgram], []⟩
def p_CheckProgram_o : Shape := ⟨[.d tTwo, .d I], []⟩
def p_CheckProgram_c13 : Shape := ⟨[.u, .a 0 0, .a 1 0, .u, .u, .u, .u, .u, .u, .u, .u, .u, .u, .u, .u, .u, .u, .u, .u, .u, .u, .u, .u, .u, .u, .u, .u, .u, .u, .u, .u, .u, .u, .u, .u, .u, .u, .u, .u, .u, .u, .u, .u, .u, .u, .u, .u, .d I, .d I], [[.d (.sl tMiOperand), .d (.sl tMiInstruction), .d (.sl tMiMonitor)], [.d I, .d I]]⟩
def p_CheckProgram_c33 : Shape := ⟨[.u, .a 0 0, .a 1 0, .u, .u, .u, .u, .u, .u, .u, .u, .u, .u, .u, .u, .u, .u, .u, .u, .u, .u, .u, .u, .u, .u, .u, .u, .u, .u, .u, .u, .u, .u, .u, .u, .u, .u, .u, .u, .u, .u, .u, .u, .u, .u, .u, .u, .u, .u, .u, .u, .u, .u, .u, .u, .u, .u, .u, .u, .u, .u, .u, .u, .u, .u, .u, .u, .u, .u, .u, .d (.sl tMiInstruction), .d I, .d I], [[.d (.sl tMiOperand), .d (.sl tMiInstruction), .d (.sl tMiMonitor)], [.d I, .d I]]⟩
def p_CheckProgram_c47 : Shape := ⟨[.u, .a 0 0, .a 1 0, .u, .u, .u, .u, .u, .u, .u, .u, .u, .u, .u, .u, .u, .u, .u, .u, .u, .u, .u, .u, .u, .u, .u, .u, .u, .u, .u, .u, .u, .u, .u, .u, .u, .u, .u, .u, .u, .u, .u, .u, .u, .u, .u, .u, .u, .u, .u, .u, .u, .u, .u, .u, .u, .u, .u, .u, .u, .u, .u, .u, .u, .u, .u, .u, .u, .u, .u, .u, .u, .u, .u, .u, .u, .u, .u, .u, .u, .u, .u, .u, .u, .u, .u, .u, .d (.sl tMiMonitor), .d I, .d I], [[.d (.sl tMiOperand), .d (.sl tMiInstruction), .d (.sl tMiMonitor)], [.d I, .d I]]⟩
def p_typeText_e : Shape := ⟨[.d tDataType], []⟩
def p_typeText_o : Shape := ⟨[.d .str], []⟩
def p_valueText_e : Shape := ⟨[.d tDataType, .d tVal], []⟩
def p_valueText_o : Shape := ⟨[.d .str], []⟩
def p_valueText_c17 : Shape := ⟨[.u, .u, .u, .u, .u, .u, .u, .o (.int .u8) true, .u, .u, .u, .u, .u, .u, .u, .u, .u, .u, .u, .u, .u, .u, .u, .u, .u, .u, .u, .u, .u, .u, .u, .u, .u, .u, .u, .o (.int .u8) true, .d I, .d I], []⟩
def c_Itoa_e : Shape := ⟨[.d I], []⟩
def c_Itoa_o : Shape := ⟨[.d .str], []⟩
def r_typeText_e : Shape := ⟨[.d tDataType], []⟩
def r_typeText_o : Shape := ⟨[.d .str], []⟩
def r_valueText_e : Shape := ⟨[.d tDataType, .d tVal], []⟩
def r_valueText_o : Shape := ⟨[.d .str], []⟩
def r_valueText_c15 : Shape := ⟨[.u, .u, .u, .a 0 0, .u, .d .str, .d I], [[.d I, .d .str]]⟩
def r_valueText_c22 : Shape := ⟨[.u, .u, .u, .a 0 0, .u, .d .str, .d I], [[.d I, .d .str]]⟩
def s_CutPrefix_e : Shape := ⟨[.d .str, .d .str], []⟩
def s_CutPrefix_o : Shape := ⟨[.d .str, .d .bool], []⟩
def p_declared_e : Shape := ⟨[.d .str], []⟩
def p_declared_o : Shape := ⟨[.d tMiOperand, .d .bool], []⟩
def p_declared_c32 : Shape := ⟨[.u, .u, .a 0 0, .u, .d .str, .d .str, .u, .u, .u, .a 1 0], [[.d .str, .d I, .d I, .d I, .d I, .d I, .d .str, .d .str, .d I, .d I], [.d .str, .d I, .d I, .d I, .d I, .d I, .d .str, .d .str, .d I, .d I]]⟩
def p_declared_c52 : Shape := ⟨[.u, .u, .a 0 0, .u, .u, .u, .u, .u, .u, .a 1 0, .u, .u, .u, .a 2 0, .u, .u, .d .str], [[.d .str, .d I, .d I, .d I, .d I, .d I, .d .str, .d .str, .d I, .d I], [.d .str, .d I, .d I, .d I, .d I, .d I, .d .str, .d .str, .d I, .d I], [.d I, .d I, .d I]]⟩
def p_declared_c72 : Shape := ⟨[.u, .u, .a 0 0, .u, .d .str, .u, .u, .u, .u, .a 1 0, .u, .u, .u, .u, .d .bool, .u, .u, .u, .u, .d .str], [[.d .str, .d I, .d I, .d I, .d I, .d I, .d .str, .d .str, .d I, .d I], [.d .str, .d I, .d I, .d I, .d I, .d I, .d .str, .d .str, .d I, .d I]]⟩
def p_isName_e : Shape := ⟨[.d .str], []⟩
def p_isName_o : Shape := ⟨[.d .bool], []⟩
def p_isName_c9 : Shape := ⟨[.u, .u, .u, .u, .u, .u, .u, .u, .u, .u, .u, .u, .u, .u, .u, .o (.int .u8) true, .d I, .d I], []⟩
def s_Split_e : Shape := ⟨[.d .str, .d .str], []⟩
def s_Split_o : Shape := ⟨[.d (.sl .str)], []⟩
def p_natural_e : Shape := ⟨[.d .str], []⟩
def p_natural_o : Shape := ⟨[.d I, .d .bool], []⟩
def x_Index_e : Shape := ⟨[.d (.sl .str), .d .str], []⟩
def x_Index_o : Shape := ⟨[.d I], []⟩
def x_Index_c5 : Shape := ⟨[.d (.sl .str), .d .str, .u, .u, .u, .u, .u, .d I, .d I], []⟩
def p_read_1_e : Shape := ⟨[.d .str], []⟩
def p_read_1_o : Shape := ⟨[.d .bool], []⟩
def p_named_e : Shape := ⟨[.d (.sl tMiOperand), .d .str], []⟩
def p_named_o : Shape := ⟨[.d I], []⟩
def b_IsName_e : Shape := ⟨[.d .str], []⟩
def b_IsName_o : Shape := ⟨[.d .bool], []⟩
def b_IsName_c9 : Shape := ⟨[.d .str, .u, .u, .d I], []⟩
def r_At_e : Shape := ⟨[.d tMiProgram, .d .str], []⟩
def r_At_o : Shape := ⟨[.d I], []⟩
def r_At_c5 : Shape := ⟨[.u, .d .str, .a 0 0, .u, .u, .d I], [[.d (.sl tMiOperand), .d (.sl tMiInstruction), .d (.sl tMiMonitor)]]⟩
def r_hasExtra_e : Shape := ⟨[.d tMiOperand], []⟩
def r_hasExtra_o : Shape := ⟨[.d .bool], []⟩
def r_hasExtra_c22 : Shape := ⟨[.u, .a 0 0, .u, .d .bool, .d .bool], [[.d .str, .d I, .d I, .d I, .d I, .d I, .d .str, .d .str, .d I, .d I]]⟩
def r_IsData_e : Shape := ⟨[.d I], []⟩
def r_IsData_o : Shape := ⟨[.d .bool], []⟩
def q_TypeErr_e : Shape := ⟨[.d tDataType], []⟩
def q_TypeErr_o : Shape := ⟨[.d I], []⟩
def q_TypeErr_c24 : Shape := ⟨[.u, .a 0 0, .u, .d .bool], [[.d I, .d I, .d I]]⟩
def q_ValueErr_e : Shape := ⟨[.d tDataType, .d tVal], []⟩
def q_ValueErr_o : Shape := ⟨[.d I], []⟩
def b_Size_e : Shape := ⟨[.d tDataType], []⟩
def b_Size_o : Shape := ⟨[.d I], []⟩
def r_roles_e : Shape := ⟨[.d I], []⟩
def r_roles_o : Shape := ⟨[.d (.sl I)], []⟩
def r_IsScalar_e : Shape := ⟨[.d I], []⟩
def r_IsScalar_o : Shape := ⟨[.d .bool], []⟩
def r_isNumeric_e : Shape := ⟨[.d tMiOperand], []⟩
def r_isNumeric_o : Shape := ⟨[.d .bool], []⟩
def p_first_e : Shape := ⟨[.d (.sl I)], []⟩
def p_first_o : Shape := ⟨[.d I], []⟩
def p_first_c5 : Shape := ⟨[.u, .u, .u, .u, .u, .d (.sl I), .d I, .d I], []⟩
def p_cond_e : Shape := ⟨[.d .bool, .d I], []⟩
def p_cond_o : Shape := ⟨[.d I], []⟩
def p_operandErr_e : Shape := ⟨[.d tMiProgram, .d I], []⟩
def p_operandErr_o : Shape := ⟨[.d I], []⟩
def p_operandErr_c18 : Shape := ⟨[.u, .u, .a 0 0, .u, .u, .a 1 0, .d (.sl tMiOperand)], [[.d (.sl tMiOperand), .d (.sl tMiInstruction), .d (.sl tMiMonitor)], [.d .str, .d I, .d I, .d I, .d I, .d I, .d .str, .d .str, .d I, .d I]]⟩
def p_layout_e : Shape := ⟨[.d (.sl tMiOperand)], []⟩
def p_layout_o : Shape := ⟨[.d (.sl I), .d I], []⟩
def p_layout_c9 : Shape := ⟨[.d (.sl tMiOperand), .u, .u, .u, .o I true, .d I, .u, .u, .u, .u, .u, .u, .u, .u, .u, .u, .d (.sl tMiOperand), .d I, .d I], []⟩
def p_layout_c21 : Shape := ⟨[.d (.sl tMiOperand), .u, .u, .u, .o I true, .d I, .u, .u, .u, .u, .u, .u, .u, .u, .u, .u, .u, .u, .u, .u, .u, .u, .u, .u, .u, .u, .u, .u, .u, .u, .u, .u, .u, .d (.sl tMiOperand), .d I, .d I], []⟩
def p_layout_c33 : Shape := ⟨[.d (.sl tMiOperand), .u, .u, .u, .o I true, .d I, .u, .u, .u, .u, .u, .u, .u, .u, .u, .u, .u, .u, .u, .u, .u, .u, .u, .u, .u, .u, .u, .u, .u, .u, .u, .u, .u, .u, .u, .u, .u, .u, .u, .u, .u, .u, .u, .u, .u, .u, .u, .u, .u, .u, .u, .u, .d (.sl tMiOperand), .d I, .d I], []⟩
def p_instructionErr_e : Shape := ⟨[.d tMiProgram, .d tMiInstruction], []⟩
def p_instructionErr_o : Shape := ⟨[.d I], []⟩
def p_instructionErr_c15 : Shape := ⟨[.u, .u, .a 0 0, .a 1 0, .u, .a 2 0, .u, .u, .u, .u, .u, .u, .u, .u, .u, .u, .u, .u, .u, .u, .u, .u, .d (.sl I), .d I, .d I], [[.d (.sl tMiOperand), .d (.sl tMiInstruction), .d (.sl tMiMonitor)], [.d I, .d (.sl I)], [.d .str, .d I, .d I, .d I, .d I, .d I, .d .str, .d .str, .d I, .d I]]⟩
def p_monitorErr_e : Shape := ⟨[.d tMiProgram, .d tMiMonitor], []⟩
def p_monitorErr_o : Shape := ⟨[.d I], []⟩
def n_FormatNumber_e : Shape := ⟨[.d tTwo], []⟩
def n_FormatNumber_o : Shape := ⟨[.d .str, .d I], []⟩
def n_FormatNumber_c14 : Shape := ⟨[.u, .a 0 0, .u, .u, .u, .d .str], [[.d I, .d I]]⟩
def p_isShown_e : Shape := ⟨[.d .str], []⟩
def p_isShown_o : Shape := ⟨[.d .bool], []⟩
def s_ReplaceAll_e : Shape := ⟨[.d .str, .d .str, .d .str], []⟩
def s_ReplaceAll_o : Shape := ⟨[.d .str], []⟩
def q_Text_e : Shape := ⟨[.d tTwo], []⟩
def q_Text_o : Shape := ⟨[.d .str], []⟩
def q_Text_c5 : Shape := ⟨[.u, .a 0 0, .u, .d .str], [[.d I, .d I]]⟩
def r_isPlain_e : Shape := ⟨[.d .str], []⟩
def r_isPlain_o : Shape := ⟨[.d .bool], []⟩
def r_isPlain_c5 : Shape := ⟨[.d .str, .u, .u, .d I], []⟩
def r_hexDigits_e : Shape := ⟨[.d .str], []⟩
def r_hexDigits_o : Shape := ⟨[.d .str], []⟩
def r_hexDigits_c7 : Shape := ⟨[.d .str, .u, .u, .o (.int .u8) true, .d I], []⟩
def p_typeOf_e : Shape := ⟨[.d .str], []⟩
def p_typeOf_o : Shape := ⟨[.d tDataType, .d .bool], []⟩
def s_CutSuffix_e : Shape := ⟨[.d .str, .d .str], []⟩
def s_CutSuffix_o : Shape := ⟨[.d .str, .d .bool], []⟩
def p_valueOf_e : Shape := ⟨[.d tDataType, .d .str], []⟩
def p_valueOf_o : Shape := ⟨[.d tVal, .d .bool], []⟩
def c_Atoi_e : Shape := ⟨[.d .str], []⟩
def c_Atoi_o : Shape := ⟨[.d I, .d .err], []⟩
def p_named_1_e : Shape := ⟨[.d tMiOperand, .a 0 0], [[.d .str]]⟩
def p_named_1_o : Shape := ⟨[.d .bool], [[.d .str]]⟩
def b_IsUpper_e : Shape := ⟨[.d (.int .u8)], []⟩
def b_IsUpper_o : Shape := ⟨[.d .bool], []⟩
def b_IsDigit_e : Shape := ⟨[.d (.int .u8)], []⟩
def b_IsDigit_o : Shape := ⟨[.d .bool], []⟩
def q_IsNumeric_e : Shape := ⟨[.d I], []⟩
def q_IsNumeric_o : Shape := ⟨[.d .bool], []⟩
def b_Count_e : Shape := ⟨[.d .bool], []⟩
def b_Count_o : Shape := ⟨[.d I], []⟩
def q_Most_e : Shape := ⟨[.d tDataType], []⟩
def q_Most_o : Shape := ⟨[.d I], []⟩
def p_in_e : Shape := ⟨[.d I, .d I, .d I], []⟩
def p_in_o : Shape := ⟨[.d .bool], []⟩
def p_kept_e : Shape := ⟨[.d tMiOperand], []⟩
def p_kept_o : Shape := ⟨[.d tMiOperand], []⟩
def p_kept_c8 : Shape := ⟨[.u, .a 0 0, .a 1 0, .a 2 0], [[.d .str, .d I, .d I, .d I, .d I, .d I, .d .str, .d .str, .d I, .d I], [.d .str, .d I, .d I, .d I, .d I, .d I, .d .str, .d .str, .d I, .d I], [.d .str, .d I, .d I, .d I, .d I, .d I, .d .str, .d .str, .d I, .d I]]⟩
def p_isData_e : Shape := ⟨[.d tMiOperand], []⟩
def p_isData_o : Shape := ⟨[.d .bool], []⟩
def n_CheckType_e : Shape := ⟨[.d tDataType], []⟩
def n_CheckType_o : Shape := ⟨[.d I], []⟩
def n_CheckValue_e : Shape := ⟨[.d tDataType, .d tVal], []⟩
def n_CheckValue_o : Shape := ⟨[.d I], []⟩
def p_baseErr_e : Shape := ⟨[.d tMiOperand, .d (.sl tMiOperand)], []⟩
def p_baseErr_o : Shape := ⟨[.d I], []⟩
def x_Repeat_e : Shape := ⟨[.d (.sl I), .d I], []⟩
def x_Repeat_o : Shape := ⟨[.o I true], []⟩
def p_size_e : Shape := ⟨[.d tMiOperand], []⟩
def p_size_o : Shape := ⟨[.d I], []⟩
def p_fits_e : Shape := ⟨[.d tMiOperand, .d tMiOperand, .d I], []⟩
def p_fits_o : Shape := ⟨[.d .bool], []⟩
def n_CheckNumber_e : Shape := ⟨[.d tTwo], []⟩
def n_CheckNumber_o : Shape := ⟨[.d I], []⟩
def s_Repeat_e : Shape := ⟨[.d .str, .d I], []⟩
def s_Repeat_o : Shape := ⟨[.d .str], []⟩
def p_isShown_1_e : Shape := ⟨[.d (.int .u8)], []⟩
def p_isShown_1_o : Shape := ⟨[.d .bool], []⟩
def q_Amount_e : Shape := ⟨[.d I], []⟩
def q_Amount_o : Shape := ⟨[.d I], []⟩
def n_ParseNumber_e : Shape := ⟨[.d .str], []⟩
def n_ParseNumber_o : Shape := ⟨[.d tTwo, .d I, .d I], []⟩
def n_ParseNumber_c27 : Shape := ⟨[.d .str, .u, .a 0 0, .u, .u, .u, .d I, .u, .u, .u, .d .str, .u, .u, .d I, .u, .u, .u, .u, .u, .u, .u, .u, .u, .u, .u, .u, .u, .u, .u, .u, .u, .u, .u, .u, .u, .u, .u, .u, .u, .u, .u, .u, .u, .u, .u, .u, .u, .u, .u, .u, .u, .u, .u, .u, .u, .u, .u, .o (.int .u8) true, .d I, .d I], [[.d I, .d I]]⟩
def s_TrimPrefix_e : Shape := ⟨[.d .str, .d .str], []⟩
def s_TrimPrefix_o : Shape := ⟨[.d .str], []⟩
def p_bytesOf_e : Shape := ⟨[.d .str], []⟩
def p_bytesOf_o : Shape := ⟨[.d .str, .d .bool], []⟩
def p_bytesOf_c5 : Shape := ⟨[.d .str, .u, .u, .u, .o (.int .u8) true], []⟩
def b_Power_e : Shape := ⟨[.d I], []⟩
def b_Power_o : Shape := ⟨[.d I], []⟩
def b_Power_c7 : Shape := ⟨[.d I, .u, .u, .d I, .d I], []⟩
def n_in_e : Shape := ⟨[.d I, .d I, .d I], []⟩
def n_in_o : Shape := ⟨[.d .bool], []⟩
def n_first_e : Shape := ⟨[.d (.sl I)], []⟩
def n_first_o : Shape := ⟨[.d I], []⟩
def n_first_c5 : Shape := ⟨[.u, .u, .u, .u, .u, .d (.sl I), .d I, .d I], []⟩
def n_cond_e : Shape := ⟨[.d .bool, .d I], []⟩
def n_cond_o : Shape := ⟨[.d I], []⟩
def n_power_e : Shape := ⟨[.d I], []⟩
def n_power_o : Shape := ⟨[.d I], []⟩
def n_power_c7 : Shape := ⟨[.u, .u, .u, .d I, .u, .d I, .d I], []⟩
def n_SizeOf_e : Shape := ⟨[.d tDataType], []⟩
def n_SizeOf_o : Shape := ⟨[.d I, .d I], []⟩
def p_isNumeric_e : Shape := ⟨[.d tMiOperand], []⟩
def p_isNumeric_o : Shape := ⟨[.d .bool], []⟩
def n_layout_e : Shape := ⟨[.d .str], []⟩
def n_layout_o : Shape := ⟨[.d I, .d I, .d I], []⟩
def n_layout_c6 : Shape := ⟨[.d .str, .u, .d I], []⟩
def n_layout_c30 : Shape := ⟨[.u, .u, .d I, .d I, .d I, .d I], []⟩
def s_TrimLeft_e : Shape := ⟨[.d .str, .d .str], []⟩
def s_TrimLeft_o : Shape := ⟨[.d .str], []⟩
def s_IndexByte_e : Shape := ⟨[.d .str, .d (.int .u8)], []⟩
def s_IndexByte_o : Shape := ⟨[.d I], []⟩
def n_size_e : Shape := ⟨[.d tDataType], []⟩
def n_size_o : Shape := ⟨[.d I], []⟩
def n_run_e : Shape := ⟨[.d .str, .d I], []⟩
def n_run_o : Shape := ⟨[.d I, .d I], []⟩
def n_run_c11 : Shape := ⟨[.d .str, .d I], []⟩
def n_isDigit_e : Shape := ⟨[.d .str, .d I], []⟩
def n_isDigit_o : Shape := ⟨[.d .bool], []⟩
def x_ContainsFunc_e : Shape := ⟨[.d (.sl .str), .c 49 []], []⟩
def x_ContainsFunc_o : Shape := ⟨[.d .bool], []⟩
def x_IndexFunc_e : Shape := ⟨[.d (.sl tMiOperand), .c 85 [(0, 0)]], [[.d .str]]⟩
def x_IndexFunc_o : Shape := ⟨[.d I], [[.d .str]]⟩
def x_IndexFunc_c5 : Shape := ⟨[.d (.sl tMiOperand), .c 85 [(0, 0)], .u, .u, .u, .u, .u, .d I, .d I], [[.d .str]]⟩
def x_IndexFunc2_e : Shape := ⟨[.d (.sl .str), .c 49 []], []⟩
def x_IndexFunc2_o : Shape := ⟨[.d I], []⟩
def x_IndexFunc2_c5 : Shape := ⟨[.d (.sl .str), .c 49 [], .u, .u, .u, .u, .u, .d I, .d I], []⟩
def x_ContainsFunc2_e : Shape := ⟨[.d (.sl (.int .u8)), .c 103 []], []⟩
def x_ContainsFunc2_o : Shape := ⟨[.d .bool], []⟩
def x_IndexFunc3_e : Shape := ⟨[.d (.sl (.int .u8)), .c 103 []], []⟩
def x_IndexFunc3_o : Shape := ⟨[.d I], []⟩
def x_IndexFunc3_c5 : Shape := ⟨[.d (.sl (.int .u8)), .c 103 [], .u, .u, .u, .u, .u, .d I, .d I], []⟩
def tyL : List (Nat × Ty) := [(3, I), (4, .bool), (5, .int .u8), (9, .str), (22, .sl tMiOperand), (23, .sl tMiInstruction), (24, .sl tMiMonitor), (26, tMiProgram), (30, I), (38, .sl I), (42, tDataType), (44, tVal), (46, tMiOperand), (48, tMiInstruction), (50, tTwo), (54, .sl .str), (58, tMiMonitor), (64, .sl tLine), (69, tLine), (82, .arr 19 .str), (84, .sl (.int .u8)), (89, .err), (103, .arr 4 (.sl I)), (104, .arr 19 (.sl I)), (120, tTwo), (136, .sl I)]
def oneL : List Nat := []
def eqsL : List Nat := [42, 44, 46, 58]
def celL : List (Nat × Nat) := [(26, 1055744), (48, 19926016), (103, 2099200)]
def instL : List (Nat × List Nat × Nat) := [(3, [], 3), (4, [], 4), (5, [], 5), (6, [], 6), (7, [], 7), (8, [], 8), (9, [], 9), (10, [], 10), (11, [], 11), (12, [], 12), (13, [], 13), (14, [], 14), (15, [], 15), (16, [], 16), (17, [], 17), (18, [], 18), (19, [], 19), (20, [], 20), (21, [], 21), (22, [], 22), (23, [], 23), (24, [], 24), (25, [], 25), (26, [], 26), (27, [], 27), (28, [], 28), (29, [], 29), (30, [], 30), (31, [], 31), (32, [], 32), (33, [], 33), (34, [], 34), (38, [], 38), (39, [], 39), (42, [], 42), (43, [], 43), (44, [], 44), (45, [], 45), (46, [], 46), (47, [], 47), (48, [49], 1000), (49, [], 49), (50, [], 50), (51, [], 51), (52, [], 52), (53, [], 53), (54, [], 54), (55, [], 55), (56, [], 56), (57, [], 57), (58, [], 58), (59, [], 59), (60, [], 60), (61, [], 61), (62, [], 62), (63, [], 63), (64, [], 64), (65, [], 65), (66, [], 66), (67, [], 67), (68, [], 68), (69, [], 69), (73, [], 73), (74, [], 74), (75, [], 75), (78, [], 78), (79, [], 79), (80, [], 80), (82, [], 82), (83, [49], 1002), (84, [85], 1001), (85, [], 85), (86, [], 86), (87, [], 87), (88, [], 88), (89, [], 89), (90, [], 90), (91, [], 91), (92, [], 92), (93, [], 93), (94, [], 94), (95, [], 95), (96, [], 96), (97, [], 97), (98, [], 98), (99, [], 99), (100, [], 100), (101, [], 101), (102, [103], 1003), (103, [], 103), (108, [], 108), (114, [], 114), (115, [], 115), (116, [], 116), (122, [], 122), (123, [], 123), (124, [], 124), (125, [], 125), (126, [], 126), (128, [], 128), (129, [], 129), (131, [103], 1004), (140, [], 140), (141, [], 141), (143, [], 143), (153, [], 153), (160, [], 160), (170, [], 170)]
def sigL : List (Nat × Sig) := [
  (3, ⟨3, t_TopTextsRefused_e, t_TopTextsRefused_o, (lk [(32, t_TopTextsRefused_c32), (56, t_TopTextsRefused_c56), (62, t_TopTextsRefused_c62)]), none⟩),
  (4, ⟨4, l_Few_e, l_Few_o, (lk [(9, l_Few_c9), (21, l_Few_c21)]), none⟩),
  (5, ⟨5, r_Err_e, r_Err_o, (fun _ => none), none⟩),
  (6, ⟨6, b_Within_e, b_Within_o, (fun _ => none), none⟩),
  (7, ⟨7, p_FormatProgram_e, p_FormatProgram_o, (lk [(13, p_FormatProgram_c13), (23, p_FormatProgram_c23), (31, p_FormatProgram_c31), (45, p_FormatProgram_c45)]), none⟩),
  (8, ⟨8, r_Own_e, r_Own_o, (lk [(7, r_Own_c7)]), none⟩),
  (9, ⟨9, r_Format_e, r_Format_o, (lk [(7, r_Format_c7), (15, r_Format_c15), (25, r_Format_c25), (34, r_Format_c34), (41, r_Format_c41)]), none⟩),
  (10, ⟨10, p_ParseProgram_e, p_ParseProgram_o, (lk [(11, p_ParseProgram_c11)]), none⟩),
  (11, ⟨11, r_Same_e, r_Same_o, (lk [(9, r_Same_c9), (19, r_Same_c19), (29, r_Same_c29)]), none⟩),
  (12, ⟨12, t_startsOf_e, t_startsOf_o, (lk [(7, t_startsOf_c7)]), none⟩),
  (13, ⟨13, r_Check_e, r_Check_o, (lk [(13, r_Check_c13), (31, r_Check_c31), (43, r_Check_c43)]), none⟩),
  (14, ⟨14, p_programErr_e, p_programErr_o, (fun _ => none), none⟩),
  (15, ⟨15, p_operandLine_e, p_operandLine_o, (fun _ => none), none⟩),
  (16, ⟨16, p_instructionLine_e, p_instructionLine_o, (fun _ => none), none⟩),
  (17, ⟨17, p_monitorLine_e, p_monitorLine_o, (lk [(7, p_monitorLine_c7)]), none⟩),
  (18, ⟨18, s_Join_e, s_Join_o, (fun _ => none), (some fun x => xJoin x.1 x.2)⟩),
  (19, ⟨19, b_CopyInts_e, b_CopyInts_o, (fun _ => none), none⟩),
  (20, ⟨20, r_operandText_e, r_operandText_o, (fun _ => none), none⟩),
  (21, ⟨21, r_names_e, r_names_o, (fun _ => none), none⟩),
  (22, ⟨22, b_Digits_e, b_Digits_o, (fun _ => none), none⟩),
  (23, ⟨23, s_Cut_e, s_Cut_o, (fun _ => none), (some fun x => xCut x.1 x.2)⟩),
  (24, ⟨24, s_HasPrefix_e, s_HasPrefix_o, (fun _ => none), (some fun x => xHasPrefix x.1 x.2)⟩),
  (25, ⟨25, p_read_e, p_read_o, (lk [(19, p_read_c19), (44, p_read_c44)]), none⟩),
  (26, ⟨26, p_programOf_e, p_programOf_o, (lk [(9, p_programOf_c9), (29, p_programOf_c29), (43, p_programOf_c43)]), none⟩),
  (27, ⟨27, b_Ints_e, b_Ints_o, (lk [(9, b_Ints_c9)]), none⟩),
  (28, ⟨28, r_operandErr_e, r_operandErr_o, (lk [(32, r_operandErr_c32)]), none⟩),
  (29, ⟨29, r_Layout_e, r_Layout_o, (lk [(9, r_Layout_c9), (23, r_Layout_c23), (37, r_Layout_c37)]), none⟩),
  (30, ⟨30, r_instructionErr_e, r_instructionErr_o, (lk [(15, r_instructionErr_c15)]), none⟩),
  (31, ⟨31, p_CheckProgram_e, p_CheckProgram_o, (lk [(13, p_CheckProgram_c13), (33, p_CheckProgram_c33), (47, p_CheckProgram_c47)]), none⟩),
  (32, ⟨32, p_typeText_e, p_typeText_o, (fun _ => none), none⟩),
  (33, ⟨33, p_valueText_e, p_valueText_o, (lk [(17, p_valueText_c17)]), none⟩),
  (34, ⟨34, c_Itoa_e, c_Itoa_o, (fun _ => none), (some fun x => xItoa x)⟩),
  (38, ⟨38, r_typeText_e, r_typeText_o, (fun _ => none), none⟩),
  (39, ⟨39, r_valueText_e, r_valueText_o, (lk [(15, r_valueText_c15), (22, r_valueText_c22)]), none⟩),
  (42, ⟨42, s_CutPrefix_e, s_CutPrefix_o, (fun _ => none), (some fun x => xCutPrefix x.1 x.2)⟩),
  (43, ⟨43, p_declared_e, p_declared_o, (lk [(32, p_declared_c32), (52, p_declared_c52), (72, p_declared_c72)]), none⟩),
  (44, ⟨44, p_isName_e, p_isName_o, (lk [(9, p_isName_c9)]), none⟩),
  (45, ⟨45, s_Split_e, s_Split_o, (fun _ => none), (some fun x => xSplit x.1 x.2)⟩),
  (46, ⟨46, p_natural_e, p_natural_o, (fun _ => none), none⟩),
  (47, ⟨47, x_Index_e, x_Index_o, (lk [(5, x_Index_c5)]), none⟩),
  (49, ⟨49, p_read_1_e, p_read_1_o, (fun _ => none), none⟩),
  (50, ⟨50, p_named_e, p_named_o, (fun _ => none), none⟩),
  (51, ⟨51, b_IsName_e, b_IsName_o, (lk [(9, b_IsName_c9)]), none⟩),
  (52, ⟨52, r_At_e, r_At_o, (lk [(5, r_At_c5)]), none⟩),
  (53, ⟨53, r_hasExtra_e, r_hasExtra_o, (lk [(22, r_hasExtra_c22)]), none⟩),
  (54, ⟨54, r_IsData_e, r_IsData_o, (fun _ => none), none⟩),
  (55, ⟨55, q_TypeErr_e, q_TypeErr_o, (lk [(24, q_TypeErr_c24)]), none⟩),
  (56, ⟨56, q_ValueErr_e, q_ValueErr_o, (fun _ => none), none⟩),
  (57, ⟨57, b_Size_e, b_Size_o, (fun _ => none), none⟩),
  (58, ⟨58, r_roles_e, r_roles_o, (fun _ => none), none⟩),
  (59, ⟨59, r_IsScalar_e, r_IsScalar_o, (fun _ => none), none⟩),
  (60, ⟨60, r_isNumeric_e, r_isNumeric_o, (fun _ => none), none⟩),
  (61, ⟨61, p_first_e, p_first_o, (lk [(5, p_first_c5)]), none⟩),
  (62, ⟨62, p_cond_e, p_cond_o, (fun _ => none), none⟩),
  (63, ⟨63, p_operandErr_e, p_operandErr_o, (lk [(18, p_operandErr_c18)]), none⟩),
  (64, ⟨64, p_layout_e, p_layout_o, (lk [(9, p_layout_c9), (21, p_layout_c21), (33, p_layout_c33)]), none⟩),
  (65, ⟨65, p_instructionErr_e, p_instructionErr_o, (lk [(15, p_instructionErr_c15)]), none⟩),
  (66, ⟨66, p_monitorErr_e, p_monitorErr_o, (fun _ => none), none⟩),
  (67, ⟨67, n_FormatNumber_e, n_FormatNumber_o, (lk [(14, n_FormatNumber_c14)]), none⟩),
  (68, ⟨68, p_isShown_e, p_isShown_o, (fun _ => none), none⟩),
  (69, ⟨69, s_ReplaceAll_e, s_ReplaceAll_o, (fun _ => none), (some fun x => xReplaceAll x.1 x.2.1 x.2.2)⟩),
  (73, ⟨73, q_Text_e, q_Text_o, (lk [(5, q_Text_c5)]), none⟩),
  (74, ⟨74, r_isPlain_e, r_isPlain_o, (lk [(5, r_isPlain_c5)]), none⟩),
  (75, ⟨75, r_hexDigits_e, r_hexDigits_o, (lk [(7, r_hexDigits_c7)]), none⟩),
  (78, ⟨78, p_typeOf_e, p_typeOf_o, (fun _ => none), none⟩),
  (79, ⟨79, s_CutSuffix_e, s_CutSuffix_o, (fun _ => none), (some fun x => xCutSuffix x.1 x.2)⟩),
  (80, ⟨80, p_valueOf_e, p_valueOf_o, (fun _ => none), none⟩),
  (82, ⟨82, c_Atoi_e, c_Atoi_o, (fun _ => none), (some fun x => xAtoi x)⟩),
  (85, ⟨85, p_named_1_e, p_named_1_o, (fun _ => none), none⟩),
  (86, ⟨86, b_IsUpper_e, b_IsUpper_o, (fun _ => none), none⟩),
  (87, ⟨87, b_IsDigit_e, b_IsDigit_o, (fun _ => none), none⟩),
  (88, ⟨88, q_IsNumeric_e, q_IsNumeric_o, (fun _ => none), none⟩),
  (89, ⟨89, b_Count_e, b_Count_o, (fun _ => none), none⟩),
  (90, ⟨90, q_Most_e, q_Most_o, (fun _ => none), none⟩),
  (91, ⟨91, p_in_e, p_in_o, (fun _ => none), none⟩),
  (92, ⟨92, p_kept_e, p_kept_o, (lk [(8, p_kept_c8)]), none⟩),
  (93, ⟨93, p_isData_e, p_isData_o, (fun _ => none), none⟩),
  (94, ⟨94, n_CheckType_e, n_CheckType_o, (fun _ => none), none⟩),
  (95, ⟨95, n_CheckValue_e, n_CheckValue_o, (fun _ => none), none⟩),
  (96, ⟨96, p_baseErr_e, p_baseErr_o, (fun _ => none), none⟩),
  (97, ⟨97, x_Repeat_e, x_Repeat_o, (fun _ => none), (some fun x => xFill x.1 x.2)⟩),
  (98, ⟨98, p_size_e, p_size_o, (fun _ => none), none⟩),
  (99, ⟨99, p_fits_e, p_fits_o, (fun _ => none), none⟩),
  (100, ⟨100, n_CheckNumber_e, n_CheckNumber_o, (fun _ => none), none⟩),
  (101, ⟨101, s_Repeat_e, s_Repeat_o, (fun _ => none), (some fun x => xRepeat x.1 x.2)⟩),
  (103, ⟨103, p_isShown_1_e, p_isShown_1_o, (fun _ => none), none⟩),
  (108, ⟨108, q_Amount_e, q_Amount_o, (fun _ => none), none⟩),
  (114, ⟨114, n_ParseNumber_e, n_ParseNumber_o, (lk [(27, n_ParseNumber_c27)]), none⟩),
  (115, ⟨115, s_TrimPrefix_e, s_TrimPrefix_o, (fun _ => none), (some fun x => xTrimPrefix x.1 x.2)⟩),
  (116, ⟨116, p_bytesOf_e, p_bytesOf_o, (lk [(5, p_bytesOf_c5)]), none⟩),
  (122, ⟨122, b_Power_e, b_Power_o, (lk [(7, b_Power_c7)]), none⟩),
  (123, ⟨123, n_in_e, n_in_o, (fun _ => none), none⟩),
  (124, ⟨124, n_first_e, n_first_o, (lk [(5, n_first_c5)]), none⟩),
  (125, ⟨125, n_cond_e, n_cond_o, (fun _ => none), none⟩),
  (126, ⟨126, n_power_e, n_power_o, (lk [(7, n_power_c7)]), none⟩),
  (128, ⟨128, n_SizeOf_e, n_SizeOf_o, (fun _ => none), none⟩),
  (129, ⟨129, p_isNumeric_e, p_isNumeric_o, (fun _ => none), none⟩),
  (140, ⟨140, n_layout_e, n_layout_o, (lk [(6, n_layout_c6), (30, n_layout_c30)]), none⟩),
  (141, ⟨141, s_TrimLeft_e, s_TrimLeft_o, (fun _ => none), (some fun x => xTrimLeft x.1 x.2)⟩),
  (143, ⟨143, s_IndexByte_e, s_IndexByte_o, (fun _ => none), (some fun x => xIndexByte x.1 x.2)⟩),
  (153, ⟨153, n_size_e, n_size_o, (fun _ => none), none⟩),
  (160, ⟨160, n_run_e, n_run_o, (lk [(11, n_run_c11)]), none⟩),
  (170, ⟨170, n_isDigit_e, n_isDigit_o, (fun _ => none), none⟩),
  (1000, ⟨48, x_ContainsFunc_e, x_ContainsFunc_o, (fun _ => none), none⟩),
  (1001, ⟨84, x_IndexFunc_e, x_IndexFunc_o, (lk [(5, x_IndexFunc_c5)]), none⟩),
  (1002, ⟨83, x_IndexFunc2_e, x_IndexFunc2_o, (lk [(5, x_IndexFunc2_c5)]), none⟩),
  (1003, ⟨102, x_ContainsFunc2_e, x_ContainsFunc2_o, (fun _ => none), none⟩),
  (1004, ⟨131, x_IndexFunc3_e, x_IndexFunc3_o, (lk [(5, x_IndexFunc3_c5)]), none⟩)]
def memN : List Nat → Nat → Bool
  | [], _ => false
  | x :: l, n => Nat.beq x n || memN l n
def memP : List (Nat × Nat) → Nat → Nat → Bool
  | [], _, _ => false
  | (x, y) :: l, n, m => (Nat.beq x n && Nat.beq y m) || memP l n m
def eqL : List Nat → List Nat → Bool
  | [], [] => true
  | x :: l, y :: m => Nat.beq x y && eqL l m
  | _, _ => false
def lkI : List (Nat × List Nat × Nat) → Nat → List Nat → Option Nat
  | [], _, _ => none
  | (f, c, i) :: l, n, d => if (Nat.beq f n && eqL c d) = true then some i else lkI l n d
def globL : List (Nat × (Σ t : Ty, El t)) := [(0, ⟨.arr 19 .str, gNames⟩), (1, ⟨.arr 19 (.sl I), gOperations⟩), (2, ⟨.sl .str, gTypes⟩), (3, ⟨I, MX.m⟩), (4, ⟨.arr 20 (.int .u64), Lib.pow10Tab⟩), (5, ⟨.err, false⟩), (6, ⟨.err, false⟩)]
noncomputable def E : Env := { P := Go.Proofs.Tryz.prog, ty := lk tyL, one := memN oneL, eqs := memN eqsL, cel := memP celL, glob := lk globL, inst := lkI instL, sig := lk sigL }
noncomputable def t_TopTextsRefused (k : Nat) (x0 : MiProgram) (x1 : Int) (x2 : Int) : Option Bool := sem E k 3 none t_TopTextsRefused_e.ty t_TopTextsRefused_o.ty (x0, x1, x2)
noncomputable def t_TopTextsRefused_32 (k : Nat) (x2 : Int) (x7 : Str) (x11 : List Int) (x12 : Int) (x13 : Int) (b0_0 : List MiOperand) (b0_1 : List MiInstruction) (b0_2 : List MiMonitor) : Option Bool := sem E k 3 (some 32) t_TopTextsRefused_c32.ty t_TopTextsRefused_o.ty (x2, x7, x11, x12, x13, b0_0, b0_1, b0_2)
noncomputable def t_TopTextsRefused_56 (k : Nat) (x14 : Str) (x15 : Int) (b0_0 : List MiOperand) (b0_1 : List MiInstruction) (b0_2 : List MiMonitor) : Option Bool := sem E k 3 (some 56) t_TopTextsRefused_c56.ty t_TopTextsRefused_o.ty (x14, x15, b0_0, b0_1, b0_2)
noncomputable def t_TopTextsRefused_62 (k : Nat) (x14 : Str) (x15 : Int) (x16 : Int) (b0_0 : List MiOperand) (b0_1 : List MiInstruction) (b0_2 : List MiMonitor) : Option Bool := sem E k 3 (some 62) t_TopTextsRefused_c62.ty t_TopTextsRefused_o.ty (x14, x15, x16, b0_0, b0_1, b0_2)
noncomputable def l_Few (k : Nat) (x0 : MiProgram) : Option Bool := sem E k 4 none l_Few_e.ty l_Few_o.ty (x0)
noncomputable def l_Few_9 (k : Nat) (x3 : Int) (b0_0 : List MiOperand) (b0_1 : List MiInstruction) (b0_2 : List MiMonitor) : Option Bool := sem E k 4 (some 9) l_Few_c9.ty l_Few_o.ty (x3, b0_0, b0_1, b0_2)
noncomputable def l_Few_21 (k : Nat) (x5 : Int) (b0_0 : List MiOperand) (b0_1 : List MiInstruction) (b0_2 : List MiMonitor) : Option Bool := sem E k 4 (some 21) l_Few_c21.ty l_Few_o.ty (x5, b0_0, b0_1, b0_2)
noncomputable def r_Err (k : Nat) (p : MiProgram) : Option Int := sem E k 5 none r_Err_e.ty r_Err_o.ty (p)
noncomputable def b_Within (k : Nat) (n : Int) (least : Int) (most : Int) : Option Bool := sem E k 6 none b_Within_e.ty b_Within_o.ty (n, least, most)
noncomputable def p_FormatProgram (k : Nat) (x0 : MiProgram) : Option (Str × Int) := sem E k 7 none p_FormatProgram_e.ty p_FormatProgram_o.ty (x0)
noncomputable def p_FormatProgram_13 (k : Nat) (x5 : List Str) (x22 : List MiOperand) (x23 : Int) (x24 : Int) (b0_0 : List MiOperand) (b0_1 : List MiInstruction) (b0_2 : List MiMonitor) : Option (Str × Int) := sem E k 7 (some 13) p_FormatProgram_c13.ty p_FormatProgram_o.ty (x5, x22, x23, x24, b0_0, b0_1, b0_2)
noncomputable def p_FormatProgram_23 (k : Nat) (x5 : List Str) (x35 : List MiInstruction) (x36 : Int) (x37 : Int) (b0_0 : List MiOperand) (b0_1 : List MiInstruction) (b0_2 : List MiMonitor) : Option (Str × Int) := sem E k 7 (some 23) p_FormatProgram_c23.ty p_FormatProgram_o.ty (x5, x35, x36, x37, b0_0, b0_1, b0_2)
noncomputable def p_FormatProgram_31 (k : Nat) (x5 : List Str) (x10 : List Str) (x35 : List MiInstruction) (x36 : Int) (x37 : Int) (x42 : List Int) (x43 : Int) (x44 : Int) (b0_0 : List MiOperand) (b0_1 : List MiInstruction) (b0_2 : List MiMonitor) (b1_0 : Int) (b1_1 : List Int) : Option (Str × Int) := sem E k 7 (some 31) p_FormatProgram_c31.ty p_FormatProgram_o.ty (x5, x10, x35, x36, x37, x42, x43, x44, b0_0, b0_1, b0_2, b1_0, b1_1)
noncomputable def p_FormatProgram_45 (k : Nat) (x5 : List Str) (x67 : List MiMonitor) (x68 : Int) (x69 : Int) : Option (Str × Int) := sem E k 7 (some 45) p_FormatProgram_c45.ty p_FormatProgram_o.ty (x5, x67, x68, x69)
noncomputable def r_Own (k : Nat) (p : MiProgram) : Option MiProgram := sem E k 8 none r_Own_e.ty r_Own_o.ty (p)
noncomputable def r_Own_7 (k : Nat) (i : Int) (b0_0 : List MiOperand) (b0_1 : List MiInstruction) (b0_2 : List MiMonitor) (b1_0 : List MiOperand) (b1_1 : List MiInstruction) (b1_2 : List MiMonitor) (b2_0 : List MiOperand) (b2_1 : List MiInstruction) (b2_2 : List MiMonitor) : Option MiProgram := sem E k 8 (some 7) r_Own_c7.ty r_Own_o.ty (i, b0_0, b0_1, b0_2, b1_0, b1_1, b1_2, b2_0, b2_1, b2_2)
noncomputable def r_Format (k : Nat) (x0 : MiProgram) : Option Str := sem E k 9 none r_Format_e.ty r_Format_o.ty (x0)
noncomputable def r_Format_7 (k : Nat) (x3 : Str) (x4 : Int) (b0_0 : List MiOperand) (b0_1 : List MiInstruction) (b0_2 : List MiMonitor) : Option Str := sem E k 9 (some 7) r_Format_c7.ty r_Format_o.ty (x3, x4, b0_0, b0_1, b0_2)
noncomputable def r_Format_15 (k : Nat) (x3 : Str) (x5 : Int) (b0_0 : List MiOperand) (b0_1 : List MiInstruction) (b0_2 : List MiMonitor) : Option Str := sem E k 9 (some 15) r_Format_c15.ty r_Format_o.ty (x3, x5, b0_0, b0_1, b0_2)
noncomputable def r_Format_25 (k : Nat) (x3 : Str) (x5 : Int) (x7 : Int) (b0_0 : List MiOperand) (b0_1 : List MiInstruction) (b0_2 : List MiMonitor) (b1_0 : Int) (b1_1 : List Int) : Option Str := sem E k 9 (some 25) r_Format_c25.ty r_Format_o.ty (x3, x5, x7, b0_0, b0_1, b0_2, b1_0, b1_1)
noncomputable def r_Format_34 (k : Nat) (x3 : Str) (x5 : Int) (x7 : Int) (x8 : Str) (b0_0 : List MiOperand) (b0_1 : List MiInstruction) (b0_2 : List MiMonitor) (b1_0 : Int) (b1_1 : List Int) : Option Str := sem E k 9 (some 34) r_Format_c34.ty r_Format_o.ty (x3, x5, x7, x8, b0_0, b0_1, b0_2, b1_0, b1_1)
noncomputable def r_Format_41 (k : Nat) (x3 : Str) (x9 : Int) (b0_0 : List MiOperand) (b0_1 : List MiInstruction) (b0_2 : List MiMonitor) : Option Str := sem E k 9 (some 41) r_Format_c41.ty r_Format_o.ty (x3, x9, b0_0, b0_1, b0_2)
noncomputable def p_ParseProgram (k : Nat) (x0 : Str) : Option (MiProgram × Int × Int) := sem E k 10 none p_ParseProgram_e.ty p_ParseProgram_o.ty (x0)
noncomputable def p_ParseProgram_11 (k : Nat) (x0 : Str) (x5 : List Line) (x6 : Int) (x7 : Int) (b0_0 : List MiOperand) (b0_1 : List MiInstruction) (b0_2 : List MiMonitor) : Option (MiProgram × Int × Int) := sem E k 10 (some 11) p_ParseProgram_c11.ty p_ParseProgram_o.ty (x0, x5, x6, x7, b0_0, b0_1, b0_2)
noncomputable def r_Same (k : Nat) (x0 : MiProgram) (x1 : MiProgram) : Option Bool := sem E k 11 none r_Same_e.ty r_Same_o.ty (x0, x1)
noncomputable def r_Same_9 (k : Nat) (x5 : Int) (b0_0 : List MiOperand) (b0_1 : List MiInstruction) (b0_2 : List MiMonitor) (b1_0 : List MiOperand) (b1_1 : List MiInstruction) (b1_2 : List MiMonitor) : Option Bool := sem E k 11 (some 9) r_Same_c9.ty r_Same_o.ty (x5, b0_0, b0_1, b0_2, b1_0, b1_1, b1_2)
noncomputable def r_Same_19 (k : Nat) (x6 : Int) (b0_0 : List MiOperand) (b0_1 : List MiInstruction) (b0_2 : List MiMonitor) (b1_0 : List MiOperand) (b1_1 : List MiInstruction) (b1_2 : List MiMonitor) : Option Bool := sem E k 11 (some 19) r_Same_c19.ty r_Same_o.ty (x6, b0_0, b0_1, b0_2, b1_0, b1_1, b1_2)
noncomputable def r_Same_29 (k : Nat) (x7 : Int) (b0_0 : List MiOperand) (b0_1 : List MiInstruction) (b0_2 : List MiMonitor) (b1_0 : List MiOperand) (b1_1 : List MiInstruction) (b1_2 : List MiMonitor) : Option Bool := sem E k 11 (some 29) r_Same_c29.ty r_Same_o.ty (x7, b0_0, b0_1, b0_2, b1_0, b1_1, b1_2)
noncomputable def t_startsOf (k : Nat) (s : Str) : Option (List Int) := sem E k 12 none t_startsOf_e.ty t_startsOf_o.ty (s)
noncomputable def t_startsOf_7 (k : Nat) (s : Str) (out : List Int) (i : Int) : Option (List Int) := sem E k 12 (some 7) t_startsOf_c7.ty t_startsOf_o.ty (s, out, i)
noncomputable def r_Check (k : Nat) (x0 : MiProgram) : Option (Two × Int) := sem E k 13 none r_Check_e.ty r_Check_o.ty (x0)
noncomputable def r_Check_13 (k : Nat) (x4 : Int) (b0_0 : List MiOperand) (b0_1 : List MiInstruction) (b0_2 : List MiMonitor) (b1_0 : Int) (b1_1 : Int) : Option (Two × Int) := sem E k 13 (some 13) r_Check_c13.ty r_Check_o.ty (x4, b0_0, b0_1, b0_2, b1_0, b1_1)
noncomputable def r_Check_31 (k : Nat) (x8 : Int) (b0_0 : List MiOperand) (b0_1 : List MiInstruction) (b0_2 : List MiMonitor) (b1_0 : Int) (b1_1 : Int) : Option (Two × Int) := sem E k 13 (some 31) r_Check_c31.ty r_Check_o.ty (x8, b0_0, b0_1, b0_2, b1_0, b1_1)
noncomputable def r_Check_43 (k : Nat) (x10 : Int) (b0_0 : List MiOperand) (b0_1 : List MiInstruction) (b0_2 : List MiMonitor) (b1_0 : Int) (b1_1 : Int) : Option (Two × Int) := sem E k 13 (some 43) r_Check_c43.ty r_Check_o.ty (x10, b0_0, b0_1, b0_2, b1_0, b1_1)
noncomputable def p_programErr (k : Nat) (p : MiProgram) : Option Int := sem E k 14 none p_programErr_e.ty p_programErr_o.ty (p)
noncomputable def p_operandLine (k : Nat) (x0 : MiOperand) : Option Str := sem E k 15 none p_operandLine_e.ty p_operandLine_o.ty (x0)
noncomputable def p_instructionLine (k : Nat) (op : Int) (args : List Str) : Option Str := sem E k 16 none p_instructionLine_e.ty p_instructionLine_o.ty (op, args)
noncomputable def p_monitorLine (k : Nat) (m : MiMonitor) : Option Str := sem E k 17 none p_monitorLine_e.ty p_monitorLine_o.ty (m)
noncomputable def p_monitorLine_7 (k : Nat) (s : Str) (x14 : List Int) (x15 : Int) (x16 : Int) : Option Str := sem E k 17 (some 7) p_monitorLine_c7.ty p_monitorLine_o.ty (s, x14, x15, x16)
noncomputable def s_Join (k : Nat) (x0 : List Str) (x1 : Str) : Option Str := sem E k 18 none s_Join_e.ty s_Join_o.ty (x0, x1)
noncomputable def b_CopyInts (k : Nat) (l : List Int) : Option (List Int) := sem E k 19 none b_CopyInts_e.ty b_CopyInts_o.ty (l)
noncomputable def r_operandText (k : Nat) (x0 : MiOperand) : Option Str := sem E k 20 none r_operandText_e.ty r_operandText_o.ty (x0)
noncomputable def r_names (k : Nat) : Option (List Str) := sem E k 21 none r_names_e.ty r_names_o.ty ()
noncomputable def b_Digits (k : Nat) (n : Int) : Option Str := sem E k 22 none b_Digits_e.ty b_Digits_o.ty (n)
noncomputable def s_Cut (k : Nat) (s : Str) (sep : Str) : Option (Str × Str × Bool) := sem E k 23 none s_Cut_e.ty s_Cut_o.ty (s, sep)
noncomputable def s_HasPrefix (k : Nat) (s : Str) (prefix_ : Str) : Option Bool := sem E k 24 none s_HasPrefix_e.ty s_HasPrefix_o.ty (s, prefix_)
noncomputable def p_read (k : Nat) (x0 : Str) : Option (Line × Bool) := sem E k 25 none p_read_e.ty p_read_o.ty (x0)
noncomputable def p_read_19 (k : Nat) (x11 : List Int) (x51 : List Str) (x52 : Int) (x53 : Int) (b0_0 : Int) (b0_1 : Int) (b0_2 : Str) (b0_3 : Int) (b0_4 : Int) (b0_5 : Int) (b0_6 : Int) (b0_7 : Int) (b0_8 : Str) (b0_9 : Str) (b0_10 : Int) (b0_11 : Int) (b0_12 : Int) (b0_13 : List Str) (b0_14 : Int) (b0_15 : Int) (b0_16 : Int) (b0_17 : Int) : Option (Line × Bool) := sem E k 25 (some 19) p_read_c19.ty p_read_o.ty (x11, x51, x52, x53, b0_0, b0_1, b0_2, b0_3, b0_4, b0_5, b0_6, b0_7, b0_8, b0_9, b0_10, b0_11, b0_12, b0_13, b0_14, b0_15, b0_16, b0_17)
noncomputable def p_read_44 (k : Nat) (b0_0 : Int) (b0_1 : Int) (b0_2 : Str) (b0_3 : Int) (b0_4 : Int) (b0_5 : Int) (b0_6 : Int) (b0_7 : Int) (b0_8 : Str) (b0_9 : Str) (b0_10 : Int) (b0_11 : Int) (b0_12 : Int) (b0_13 : List Str) (b0_14 : Int) (b0_15 : Int) (b0_16 : Int) (b0_17 : Int) (b1_0 : Int) (b1_1 : Int) (b1_2 : Str) (b1_3 : Int) (b1_4 : Int) (b1_5 : Int) (b1_6 : Int) (b1_7 : Int) (b1_8 : Str) (b1_9 : Str) (b1_10 : Int) (b1_11 : Int) (b1_12 : Int) (b1_13 : List Str) (b1_14 : Int) (b1_15 : Int) (b1_16 : Int) (b1_17 : Int) : Option (Line × Bool) := sem E k 25 (some 44) p_read_c44.ty p_read_o.ty (b0_0, b0_1, b0_2, b0_3, b0_4, b0_5, b0_6, b0_7, b0_8, b0_9, b0_10, b0_11, b0_12, b0_13, b0_14, b0_15, b0_16, b0_17, b1_0, b1_1, b1_2, b1_3, b1_4, b1_5, b1_6, b1_7, b1_8, b1_9, b1_10, b1_11, b1_12, b1_13, b1_14, b1_15, b1_16, b1_17)
noncomputable def p_programOf (k : Nat) (x0 : List Line) : Option (MiProgram × Int × Int) := sem E k 26 none p_programOf_e.ty p_programOf_o.ty (x0)
noncomputable def p_programOf_9 (k : Nat) (x0 : List Line) (x19 : List Line) (x20 : Int) (x21 : Int) (b0_0 : List MiOperand) (b0_1 : List MiInstruction) (b0_2 : List MiMonitor) (b1_0 : List MiOperand) (b1_1 : List MiInstruction) (b1_2 : List MiMonitor) (b2_0 : List Int) (b2_1 : List Int) (b2_2 : List Int) (b2_3 : List Int) : Option (MiProgram × Int × Int) := sem E k 26 (some 9) p_programOf_c9.ty p_programOf_o.ty (x0, x19, x20, x21, b0_0, b0_1, b0_2, b1_0, b1_1, b1_2, b2_0, b2_1, b2_2, b2_3)
noncomputable def p_programOf_29 (k : Nat) (x57 : List Line) (x58 : Int) (x59 : Int) (b0_0 : List MiOperand) (b0_1 : List MiInstruction) (b0_2 : List MiMonitor) (b1_0 : List MiOperand) (b1_1 : List MiInstruction) (b1_2 : List MiMonitor) (b2_0 : List Int) (b2_1 : List Int) (b2_2 : List Int) (b2_3 : List Int) : Option (MiProgram × Int × Int) := sem E k 26 (some 29) p_programOf_c29.ty p_programOf_o.ty (x57, x58, x59, b0_0, b0_1, b0_2, b1_0, b1_1, b1_2, b2_0, b2_1, b2_2, b2_3)
noncomputable def p_programOf_43 (k : Nat) (x57 : List Line) (x58 : Int) (x59 : Int) (x82 : List Str) (x83 : Int) (x84 : Int) (b0_0 : List MiOperand) (b0_1 : List MiInstruction) (b0_2 : List MiMonitor) (b1_0 : List MiOperand) (b1_1 : List MiInstruction) (b1_2 : List MiMonitor) (b2_0 : List Int) (b2_1 : List Int) (b2_2 : List Int) (b2_3 : List Int) (b3_0 : Int) (b3_1 : Int) (b3_2 : Str) (b3_3 : Int) (b3_4 : Int) (b3_5 : Int) (b3_6 : Int) (b3_7 : Int) (b3_8 : Str) (b3_9 : Str) (b3_10 : Int) (b3_11 : Int) (b3_12 : Int) (b3_13 : List Str) (b3_14 : Int) (b3_15 : Int) (b3_16 : Int) (b3_17 : Int) (b4_0 : Int) (b4_1 : List Int) : Option (MiProgram × Int × Int) := sem E k 26 (some 43) p_programOf_c43.ty p_programOf_o.ty (x57, x58, x59, x82, x83, x84, b0_0, b0_1, b0_2, b1_0, b1_1, b1_2, b2_0, b2_1, b2_2, b2_3, b3_0, b3_1, b3_2, b3_3, b3_4, b3_5, b3_6, b3_7, b3_8, b3_9, b3_10, b3_11, b3_12, b3_13, b3_14, b3_15, b3_16, b3_17, b4_0, b4_1)
noncomputable def b_Ints (k : Nat) (a : List Int) (b : List Int) : Option Bool := sem E k 27 none b_Ints_e.ty b_Ints_o.ty (a, b)
noncomputable def b_Ints_9 (k : Nat) (a : List Int) (b : List Int) (i : Int) : Option Bool := sem E k 27 (some 9) b_Ints_c9.ty b_Ints_o.ty (a, b, i)
noncomputable def r_operandErr (k : Nat) (x0 : MiProgram) (x1 : Int) : Option Int := sem E k 28 none r_operandErr_e.ty r_operandErr_o.ty (x0, x1)
noncomputable def r_operandErr_32 (k : Nat) (x1 : Int) (b0_0 : List MiOperand) (b0_1 : List MiInstruction) (b0_2 : List MiMonitor) (b1_0 : Str) (b1_1 : Int) (b1_2 : Int) (b1_3 : Int) (b1_4 : Int) (b1_5 : Int) (b1_6 : Str) (b1_7 : Str) (b1_8 : Int) (b1_9 : Int) : Option Int := sem E k 28 (some 32) r_operandErr_c32.ty r_operandErr_o.ty (x1, b0_0, b0_1, b0_2, b1_0, b1_1, b1_2, b1_3, b1_4, b1_5, b1_6, b1_7, b1_8, b1_9)
noncomputable def r_Layout (k : Nat) (x0 : MiProgram) : Option (List Int × Int) := sem E k 29 none r_Layout_e.ty r_Layout_o.ty (x0)
noncomputable def r_Layout_9 (k : Nat) (x4 : List Int) (x5 : Int) (x6 : Int) (b0_0 : List MiOperand) (b0_1 : List MiInstruction) (b0_2 : List MiMonitor) : Option (List Int × Int) := sem E k 29 (some 9) r_Layout_c9.ty r_Layout_o.ty (x4, x5, x6, b0_0, b0_1, b0_2)
noncomputable def r_Layout_23 (k : Nat) (x4 : List Int) (x5 : Int) (x7 : Int) (b0_0 : List MiOperand) (b0_1 : List MiInstruction) (b0_2 : List MiMonitor) : Option (List Int × Int) := sem E k 29 (some 23) r_Layout_c23.ty r_Layout_o.ty (x4, x5, x7, b0_0, b0_1, b0_2)
noncomputable def r_Layout_37 (k : Nat) (x4 : List Int) (x5 : Int) (x9 : Int) (b0_0 : List MiOperand) (b0_1 : List MiInstruction) (b0_2 : List MiMonitor) : Option (List Int × Int) := sem E k 29 (some 37) r_Layout_c37.ty r_Layout_o.ty (x4, x5, x9, b0_0, b0_1, b0_2)
noncomputable def r_instructionErr (k : Nat) (x0 : MiProgram) (x1 : MiInstruction) : Option Int := sem E k 30 none r_instructionErr_e.ty r_instructionErr_o.ty (x0, x1)
noncomputable def r_instructionErr_15 (k : Nat) (x5 : List Int) (x6 : Int) (b0_0 : List MiOperand) (b0_1 : List MiInstruction) (b0_2 : List MiMonitor) (b1_0 : Int) (b1_1 : List Int) : Option Int := sem E k 30 (some 15) r_instructionErr_c15.ty r_instructionErr_o.ty (x5, x6, b0_0, b0_1, b0_2, b1_0, b1_1)
noncomputable def p_CheckProgram (k : Nat) (x0 : MiProgram) : Option (Two × Int) := sem E k 31 none p_CheckProgram_e.ty p_CheckProgram_o.ty (x0)
noncomputable def p_CheckProgram_13 (k : Nat) (x47 : Int) (x48 : Int) (b0_0 : List MiOperand) (b0_1 : List MiInstruction) (b0_2 : List MiMonitor) (b1_0 : Int) (b1_1 : Int) : Option (Two × Int) := sem E k 31 (some 13) p_CheckProgram_c13.ty p_CheckProgram_o.ty (x47, x48, b0_0, b0_1, b0_2, b1_0, b1_1)
noncomputable def p_CheckProgram_33 (k : Nat) (x70 : List MiInstruction) (x71 : Int) (x72 : Int) (b0_0 : List MiOperand) (b0_1 : List MiInstruction) (b0_2 : List MiMonitor) (b1_0 : Int) (b1_1 : Int) : Option (Two × Int) := sem E k 31 (some 33) p_CheckProgram_c33.ty p_CheckProgram_o.ty (x70, x71, x72, b0_0, b0_1, b0_2, b1_0, b1_1)
noncomputable def p_CheckProgram_47 (k : Nat) (x87 : List MiMonitor) (x88 : Int) (x89 : Int) (b0_0 : List MiOperand) (b0_1 : List MiInstruction) (b0_2 : List MiMonitor) (b1_0 : Int) (b1_1 : Int) : Option (Two × Int) := sem E k 31 (some 47) p_CheckProgram_c47.ty p_CheckProgram_o.ty (x87, x88, x89, b0_0, b0_1, b0_2, b1_0, b1_1)
noncomputable def p_typeText (k : Nat) (t : DataType) : Option Str := sem E k 32 none p_typeText_e.ty p_typeText_o.ty (t)
noncomputable def p_valueText (k : Nat) (t : DataType) (v : Val) : Option Str := sem E k 33 none p_valueText_e.ty p_valueText_o.ty (t, v)
noncomputable def p_valueText_17 (k : Nat) (out : List Int) (x35 : List Int) (x36 : Int) (x37 : Int) : Option Str := sem E k 33 (some 17) p_valueText_c17.ty p_valueText_o.ty (out, x35, x36, x37)
noncomputable def c_Itoa (k : Nat) (i : Int) : Option Str := sem E k 34 none c_Itoa_e.ty c_Itoa_o.ty (i)
noncomputable def r_typeText (k : Nat) (t : DataType) : Option Str := sem E k 38 none r_typeText_e.ty r_typeText_o.ty (t)
noncomputable def r_valueText (k : Nat) (t : DataType) (v : Val) : Option Str := sem E k 39 none r_valueText_e.ty r_valueText_o.ty (t, v)
noncomputable def r_valueText_15 (k : Nat) (out : Str) (i : Int) (b0_0 : Int) (b0_1 : Str) : Option Str := sem E k 39 (some 15) r_valueText_c15.ty r_valueText_o.ty (out, i, b0_0, b0_1)
noncomputable def r_valueText_22 (k : Nat) (out : Str) (i : Int) (b0_0 : Int) (b0_1 : Str) : Option Str := sem E k 39 (some 22) r_valueText_c22.ty r_valueText_o.ty (out, i, b0_0, b0_1)
noncomputable def s_CutPrefix (k : Nat) (s : Str) (prefix_ : Str) : Option (Str × Bool) := sem E k 42 none s_CutPrefix_e.ty s_CutPrefix_o.ty (s, prefix_)
noncomputable def p_declared (k : Nat) (x0 : Str) : Option (MiOperand × Bool) := sem E k 43 none p_declared_e.ty p_declared_o.ty (x0)
noncomputable def p_declared_32 (k : Nat) (x4 : Str) (x5 : Str) (b0_0 : Str) (b0_1 : Int) (b0_2 : Int) (b0_3 : Int) (b0_4 : Int) (b0_5 : Int) (b0_6 : Str) (b0_7 : Str) (b0_8 : Int) (b0_9 : Int) (b1_0 : Str) (b1_1 : Int) (b1_2 : Int) (b1_3 : Int) (b1_4 : Int) (b1_5 : Int) (b1_6 : Str) (b1_7 : Str) (b1_8 : Int) (b1_9 : Int) : Option (MiOperand × Bool) := sem E k 43 (some 32) p_declared_c32.ty p_declared_o.ty (x4, x5, b0_0, b0_1, b0_2, b0_3, b0_4, b0_5, b0_6, b0_7, b0_8, b0_9, b1_0, b1_1, b1_2, b1_3, b1_4, b1_5, b1_6, b1_7, b1_8, b1_9)
noncomputable def p_declared_52 (k : Nat) (x16 : Str) (b0_0 : Str) (b0_1 : Int) (b0_2 : Int) (b0_3 : Int) (b0_4 : Int) (b0_5 : Int) (b0_6 : Str) (b0_7 : Str) (b0_8 : Int) (b0_9 : Int) (b1_0 : Str) (b1_1 : Int) (b1_2 : Int) (b1_3 : Int) (b1_4 : Int) (b1_5 : Int) (b1_6 : Str) (b1_7 : Str) (b1_8 : Int) (b1_9 : Int) (b2_0 : Int) (b2_1 : Int) (b2_2 : Int) : Option (MiOperand × Bool) := sem E k 43 (some 52) p_declared_c52.ty p_declared_o.ty (x16, b0_0, b0_1, b0_2, b0_3, b0_4, b0_5, b0_6, b0_7, b0_8, b0_9, b1_0, b1_1, b1_2, b1_3, b1_4, b1_5, b1_6, b1_7, b1_8, b1_9, b2_0, b2_1, b2_2)
noncomputable def p_declared_72 (k : Nat) (x4 : Str) (x14 : Bool) (x19 : Str) (b0_0 : Str) (b0_1 : Int) (b0_2 : Int) (b0_3 : Int) (b0_4 : Int) (b0_5 : Int) (b0_6 : Str) (b0_7 : Str) (b0_8 : Int) (b0_9 : Int) (b1_0 : Str) (b1_1 : Int) (b1_2 : Int) (b1_3 : Int) (b1_4 : Int) (b1_5 : Int) (b1_6 : Str) (b1_7 : Str) (b1_8 : Int) (b1_9 : Int) : Option (MiOperand × Bool) := sem E k 43 (some 72) p_declared_c72.ty p_declared_o.ty (x4, x14, x19, b0_0, b0_1, b0_2, b0_3, b0_4, b0_5, b0_6, b0_7, b0_8, b0_9, b1_0, b1_1, b1_2, b1_3, b1_4, b1_5, b1_6, b1_7, b1_8, b1_9)
noncomputable def p_isName (k : Nat) (x0 : Str) : Option Bool := sem E k 44 none p_isName_e.ty p_isName_o.ty (x0)
noncomputable def p_isName_9 (k : Nat) (x15 : List Int) (x16 : Int) (x17 : Int) : Option Bool := sem E k 44 (some 9) p_isName_c9.ty p_isName_o.ty (x15, x16, x17)
noncomputable def s_Split (k : Nat) (s : Str) (sep : Str) : Option (List Str) := sem E k 45 none s_Split_e.ty s_Split_o.ty (s, sep)
noncomputable def p_natural (k : Nat) (s : Str) : Option (Int × Bool) := sem E k 46 none p_natural_e.ty p_natural_o.ty (s)
noncomputable def x_Index (k : Nat) (s : List Str) (v : Str) : Option Int := sem E k 47 none x_Index_e.ty x_Index_o.ty (s, v)
noncomputable def x_Index_5 (k : Nat) (s : List Str) (v : Str) (x7 : Int) (x8 : Int) : Option Int := sem E k 47 (some 5) x_Index_c5.ty x_Index_o.ty (s, v, x7, x8)
noncomputable def p_read_1 (k : Nat) (a : Str) : Option Bool := sem E k 49 none p_read_1_e.ty p_read_1_o.ty (a)
noncomputable def p_named (k : Nat) (l : List MiOperand) (name_ : Str) : Option Int := sem E k 50 none p_named_e.ty p_named_o.ty (l, name_)
noncomputable def b_IsName (k : Nat) (s : Str) : Option Bool := sem E k 51 none b_IsName_e.ty b_IsName_o.ty (s)
noncomputable def b_IsName_9 (k : Nat) (s : Str) (i : Int) : Option Bool := sem E k 51 (some 9) b_IsName_c9.ty b_IsName_o.ty (s, i)
noncomputable def r_At (k : Nat) (p : MiProgram) (name_ : Str) : Option Int := sem E k 52 none r_At_e.ty r_At_o.ty (p, name_)
noncomputable def r_At_5 (k : Nat) (name_ : Str) (i : Int) (b0_0 : List MiOperand) (b0_1 : List MiInstruction) (b0_2 : List MiMonitor) : Option Int := sem E k 52 (some 5) r_At_c5.ty r_At_o.ty (name_, i, b0_0, b0_1, b0_2)
noncomputable def r_hasExtra (k : Nat) (x0 : MiOperand) : Option Bool := sem E k 53 none r_hasExtra_e.ty r_hasExtra_o.ty (x0)
noncomputable def r_hasExtra_22 (k : Nat) (x3 : Bool) (x4 : Bool) (b0_0 : Str) (b0_1 : Int) (b0_2 : Int) (b0_3 : Int) (b0_4 : Int) (b0_5 : Int) (b0_6 : Str) (b0_7 : Str) (b0_8 : Int) (b0_9 : Int) : Option Bool := sem E k 53 (some 22) r_hasExtra_c22.ty r_hasExtra_o.ty (x3, x4, b0_0, b0_1, b0_2, b0_3, b0_4, b0_5, b0_6, b0_7, b0_8, b0_9)
noncomputable def r_IsData (k : Nat) (kind : Int) : Option Bool := sem E k 54 none r_IsData_e.ty r_IsData_o.ty (kind)
noncomputable def q_TypeErr (k : Nat) (t : DataType) : Option Int := sem E k 55 none q_TypeErr_e.ty q_TypeErr_o.ty (t)
noncomputable def q_TypeErr_24 (k : Nat) (length : Bool) (b0_0 : Int) (b0_1 : Int) (b0_2 : Int) : Option Int := sem E k 55 (some 24) q_TypeErr_c24.ty q_TypeErr_o.ty (length, b0_0, b0_1, b0_2)
noncomputable def q_ValueErr (k : Nat) (t : DataType) (v : Val) : Option Int := sem E k 56 none q_ValueErr_e.ty q_ValueErr_o.ty (t, v)
noncomputable def b_Size (k : Nat) (t : DataType) : Option Int := sem E k 57 none b_Size_e.ty b_Size_o.ty (t)
noncomputable def r_roles (k : Nat) (op : Int) : Option (List Int) := sem E k 58 none r_roles_e.ty r_roles_o.ty (op)
noncomputable def r_IsScalar (k : Nat) (kind : Int) : Option Bool := sem E k 59 none r_IsScalar_e.ty r_IsScalar_o.ty (kind)
noncomputable def r_isNumeric (k : Nat) (o : MiOperand) : Option Bool := sem E k 60 none r_isNumeric_e.ty r_isNumeric_o.ty (o)
noncomputable def p_first (k : Nat) (l : List Int) : Option Int := sem E k 61 none p_first_e.ty p_first_o.ty (l)
noncomputable def p_first_5 (k : Nat) (x5 : List Int) (x6 : Int) (x7 : Int) : Option Int := sem E k 61 (some 5) p_first_c5.ty p_first_o.ty (x5, x6, x7)
noncomputable def p_cond (k : Nat) (is_ : Bool) (e : Int) : Option Int := sem E k 62 none p_cond_e.ty p_cond_o.ty (is_, e)
noncomputable def p_operandErr (k : Nat) (x0 : MiProgram) (x1 : Int) : Option Int := sem E k 63 none p_operandErr_e.ty p_operandErr_o.ty (x0, x1)
noncomputable def p_operandErr_18 (k : Nat) (x6 : List MiOperand) (b0_0 : List MiOperand) (b0_1 : List MiInstruction) (b0_2 : List MiMonitor) (b1_0 : Str) (b1_1 : Int) (b1_2 : Int) (b1_3 : Int) (b1_4 : Int) (b1_5 : Int) (b1_6 : Str) (b1_7 : Str) (b1_8 : Int) (b1_9 : Int) : Option Int := sem E k 63 (some 18) p_operandErr_c18.ty p_operandErr_o.ty (x6, b0_0, b0_1, b0_2, b1_0, b1_1, b1_2, b1_3, b1_4, b1_5, b1_6, b1_7, b1_8, b1_9)
noncomputable def p_layout (k : Nat) (x0 : List MiOperand) : Option (List Int × Int) := sem E k 64 none p_layout_e.ty p_layout_o.ty (x0)
noncomputable def p_layout_9 (k : Nat) (x0 : List MiOperand) (x4 : List Int) (x5 : Int) (x16 : List MiOperand) (x17 : Int) (x18 : Int) : Option (List Int × Int) := sem E k 64 (some 9) p_layout_c9.ty p_layout_o.ty (x0, x4, x5, x16, x17, x18)
noncomputable def p_layout_21 (k : Nat) (x0 : List MiOperand) (x4 : List Int) (x5 : Int) (x33 : List MiOperand) (x34 : Int) (x35 : Int) : Option (List Int × Int) := sem E k 64 (some 21) p_layout_c21.ty p_layout_o.ty (x0, x4, x5, x33, x34, x35)
noncomputable def p_layout_33 (k : Nat) (x0 : List MiOperand) (x4 : List Int) (x5 : Int) (x52 : List MiOperand) (x53 : Int) (x54 : Int) : Option (List Int × Int) := sem E k 64 (some 33) p_layout_c33.ty p_layout_o.ty (x0, x4, x5, x52, x53, x54)
noncomputable def p_instructionErr (k : Nat) (p : MiProgram) (x : MiInstruction) : Option Int := sem E k 65 none p_instructionErr_e.ty p_instructionErr_o.ty (p, x)
noncomputable def p_instructionErr_15 (k : Nat) (x22 : List Int) (x23 : Int) (x24 : Int) (b0_0 : List MiOperand) (b0_1 : List MiInstruction) (b0_2 : List MiMonitor) (b1_0 : Int) (b1_1 : List Int) (b2_0 : Str) (b2_1 : Int) (b2_2 : Int) (b2_3 : Int) (b2_4 : Int) (b2_5 : Int) (b2_6 : Str) (b2_7 : Str) (b2_8 : Int) (b2_9 : Int) : Option Int := sem E k 65 (some 15) p_instructionErr_c15.ty p_instructionErr_o.ty (x22, x23, x24, b0_0, b0_1, b0_2, b1_0, b1_1, b2_0, b2_1, b2_2, b2_3, b2_4, b2_5, b2_6, b2_7, b2_8, b2_9)
noncomputable def p_monitorErr (k : Nat) (p : MiProgram) (m : MiMonitor) : Option Int := sem E k 66 none p_monitorErr_e.ty p_monitorErr_o.ty (p, m)
noncomputable def n_FormatNumber (k : Nat) (x : Two) : Option (Str × Int) := sem E k 67 none n_FormatNumber_e.ty n_FormatNumber_o.ty (x)
noncomputable def n_FormatNumber_14 (k : Nat) (s : Str) (b0_0 : Int) (b0_1 : Int) : Option (Str × Int) := sem E k 67 (some 14) n_FormatNumber_c14.ty n_FormatNumber_o.ty (s, b0_0, b0_1)
noncomputable def p_isShown (k : Nat) (s : Str) : Option Bool := sem E k 68 none p_isShown_e.ty p_isShown_o.ty (s)
noncomputable def s_ReplaceAll (k : Nat) (s : Str) (old : Str) (new : Str) : Option Str := sem E k 69 none s_ReplaceAll_e.ty s_ReplaceAll_o.ty (s, old, new)
noncomputable def q_Text (k : Nat) (x : Two) : Option Str := sem E k 73 none q_Text_e.ty q_Text_o.ty (x)
noncomputable def q_Text_5 (k : Nat) (s : Str) (b0_0 : Int) (b0_1 : Int) : Option Str := sem E k 73 (some 5) q_Text_c5.ty q_Text_o.ty (s, b0_0, b0_1)
noncomputable def r_isPlain (k : Nat) (s : Str) : Option Bool := sem E k 74 none r_isPlain_e.ty r_isPlain_o.ty (s)
noncomputable def r_isPlain_5 (k : Nat) (s : Str) (i : Int) : Option Bool := sem E k 74 (some 5) r_isPlain_c5.ty r_isPlain_o.ty (s, i)
noncomputable def r_hexDigits (k : Nat) (s : Str) : Option Str := sem E k 75 none r_hexDigits_e.ty r_hexDigits_o.ty (s)
noncomputable def r_hexDigits_7 (k : Nat) (s : Str) (out : List Int) (i : Int) : Option Str := sem E k 75 (some 7) r_hexDigits_c7.ty r_hexDigits_o.ty (s, out, i)
noncomputable def p_typeOf (k : Nat) (x0 : Str) : Option (DataType × Bool) := sem E k 78 none p_typeOf_e.ty p_typeOf_o.ty (x0)
noncomputable def s_CutSuffix (k : Nat) (s : Str) (suffix : Str) : Option (Str × Bool) := sem E k 79 none s_CutSuffix_e.ty s_CutSuffix_o.ty (s, suffix)
noncomputable def p_valueOf (k : Nat) (x0 : DataType) (x1 : Str) : Option (Val × Bool) := sem E k 80 none p_valueOf_e.ty p_valueOf_o.ty (x0, x1)
noncomputable def c_Atoi (k : Nat) (s : Str) : Option (Int × Bool) := sem E k 82 none c_Atoi_e.ty c_Atoi_o.ty (s)
noncomputable def p_named_1 (k : Nat) (o : MiOperand) (b0_0 : Str) : Option (Bool × Str) := sem E k 85 none p_named_1_e.ty p_named_1_o.ty (o, b0_0)
noncomputable def b_IsUpper (k : Nat) (c : Int) : Option Bool := sem E k 86 none b_IsUpper_e.ty b_IsUpper_o.ty (c)
noncomputable def b_IsDigit (k : Nat) (c : Int) : Option Bool := sem E k 87 none b_IsDigit_e.ty b_IsDigit_o.ty (c)
noncomputable def q_IsNumeric (k : Nat) (kind : Int) : Option Bool := sem E k 88 none q_IsNumeric_e.ty q_IsNumeric_o.ty (kind)
noncomputable def b_Count (k : Nat) (holds : Bool) : Option Int := sem E k 89 none b_Count_e.ty b_Count_o.ty (holds)
noncomputable def q_Most (k : Nat) (t : DataType) : Option Int := sem E k 90 none q_Most_e.ty q_Most_o.ty (t)
noncomputable def p_in (k : Nat) (n : Int) (lo : Int) (hi : Int) : Option Bool := sem E k 91 none p_in_e.ty p_in_o.ty (n, lo, hi)
noncomputable def p_kept (k : Nat) (o : MiOperand) : Option MiOperand := sem E k 92 none p_kept_e.ty p_kept_o.ty (o)
noncomputable def p_kept_8 (k : Nat) (b0_0 : Str) (b0_1 : Int) (b0_2 : Int) (b0_3 : Int) (b0_4 : Int) (b0_5 : Int) (b0_6 : Str) (b0_7 : Str) (b0_8 : Int) (b0_9 : Int) (b1_0 : Str) (b1_1 : Int) (b1_2 : Int) (b1_3 : Int) (b1_4 : Int) (b1_5 : Int) (b1_6 : Str) (b1_7 : Str) (b1_8 : Int) (b1_9 : Int) (b2_0 : Str) (b2_1 : Int) (b2_2 : Int) (b2_3 : Int) (b2_4 : Int) (b2_5 : Int) (b2_6 : Str) (b2_7 : Str) (b2_8 : Int) (b2_9 : Int) : Option MiOperand := sem E k 92 (some 8) p_kept_c8.ty p_kept_o.ty (b0_0, b0_1, b0_2, b0_3, b0_4, b0_5, b0_6, b0_7, b0_8, b0_9, b1_0, b1_1, b1_2, b1_3, b1_4, b1_5, b1_6, b1_7, b1_8, b1_9, b2_0, b2_1, b2_2, b2_3, b2_4, b2_5, b2_6, b2_7, b2_8, b2_9)
noncomputable def p_isData (k : Nat) (o : MiOperand) : Option Bool := sem E k 93 none p_isData_e.ty p_isData_o.ty (o)
noncomputable def n_CheckType (k : Nat) (t : DataType) : Option Int := sem E k 94 none n_CheckType_e.ty n_CheckType_o.ty (t)
noncomputable def n_CheckValue (k : Nat) (t : DataType) (v : Val) : Option Int := sem E k 95 none n_CheckValue_e.ty n_CheckValue_o.ty (t, v)
noncomputable def p_baseErr (k : Nat) (o : MiOperand) (before : List MiOperand) : Option Int := sem E k 96 none p_baseErr_e.ty p_baseErr_o.ty (o, before)
noncomputable def x_Repeat (k : Nat) (x : List Int) (count : Int) : Option (List Int) := sem E k 97 none x_Repeat_e.ty x_Repeat_o.ty (x, count)
noncomputable def p_size (k : Nat) (o : MiOperand) : Option Int := sem E k 98 none p_size_e.ty p_size_o.ty (o)
noncomputable def p_fits (k : Nat) (o : MiOperand) (before : MiOperand) (class_ : Int) : Option Bool := sem E k 99 none p_fits_e.ty p_fits_o.ty (o, before, class_)
noncomputable def n_CheckNumber (k : Nat) (x : Two) : Option Int := sem E k 100 none n_CheckNumber_e.ty n_CheckNumber_o.ty (x)
noncomputable def s_Repeat (k : Nat) (x0 : Str) (x1 : Int) : Option Str := sem E k 101 none s_Repeat_e.ty s_Repeat_o.ty (x0, x1)
noncomputable def p_isShown_1 (k : Nat) (c : Int) : Option Bool := sem E k 103 none p_isShown_1_e.ty p_isShown_1_o.ty (c)
noncomputable def q_Amount (k : Nat) (n : Int) : Option Int := sem E k 108 none q_Amount_e.ty q_Amount_o.ty (n)
noncomputable def n_ParseNumber (k : Nat) (x0 : Str) : Option (Two × Int × Int) := sem E k 114 none n_ParseNumber_e.ty n_ParseNumber_o.ty (x0)
noncomputable def n_ParseNumber_27 (k : Nat) (x0 : Str) (x6 : Int) (x10 : Str) (x13 : Int) (x57 : List Int) (x58 : Int) (x59 : Int) (b0_0 : Int) (b0_1 : Int) : Option (Two × Int × Int) := sem E k 114 (some 27) n_ParseNumber_c27.ty n_ParseNumber_o.ty (x0, x6, x10, x13, x57, x58, x59, b0_0, b0_1)
noncomputable def s_TrimPrefix (k : Nat) (s : Str) (prefix_ : Str) : Option Str := sem E k 115 none s_TrimPrefix_e.ty s_TrimPrefix_o.ty (s, prefix_)
noncomputable def p_bytesOf (k : Nat) (s : Str) : Option (Str × Bool) := sem E k 116 none p_bytesOf_e.ty p_bytesOf_o.ty (s)
noncomputable def p_bytesOf_5 (k : Nat) (s : Str) (out : List Int) : Option (Str × Bool) := sem E k 116 (some 5) p_bytesOf_c5.ty p_bytesOf_o.ty (s, out)
noncomputable def b_Power (k : Nat) (n : Int) : Option Int := sem E k 122 none b_Power_e.ty b_Power_o.ty (n)
noncomputable def b_Power_7 (k : Nat) (n : Int) (out : Int) (i : Int) : Option Int := sem E k 122 (some 7) b_Power_c7.ty b_Power_o.ty (n, out, i)
noncomputable def n_in (k : Nat) (n : Int) (lo : Int) (hi : Int) : Option Bool := sem E k 123 none n_in_e.ty n_in_o.ty (n, lo, hi)
noncomputable def n_first (k : Nat) (l : List Int) : Option Int := sem E k 124 none n_first_e.ty n_first_o.ty (l)
noncomputable def n_first_5 (k : Nat) (x5 : List Int) (x6 : Int) (x7 : Int) : Option Int := sem E k 124 (some 5) n_first_c5.ty n_first_o.ty (x5, x6, x7)
noncomputable def n_cond (k : Nat) (is_ : Bool) (e : Int) : Option Int := sem E k 125 none n_cond_e.ty n_cond_o.ty (is_, e)
noncomputable def n_power (k : Nat) (n : Int) : Option Int := sem E k 126 none n_power_e.ty n_power_o.ty (n)
noncomputable def n_power_7 (k : Nat) (out : Int) (x5 : Int) (x6 : Int) : Option Int := sem E k 126 (some 7) n_power_c7.ty n_power_o.ty (out, x5, x6)
noncomputable def n_SizeOf (k : Nat) (t : DataType) : Option (Int × Int) := sem E k 128 none n_SizeOf_e.ty n_SizeOf_o.ty (t)
noncomputable def p_isNumeric (k : Nat) (o : MiOperand) : Option Bool := sem E k 129 none p_isNumeric_e.ty p_isNumeric_o.ty (o)
noncomputable def n_layout (k : Nat) (s : Str) : Option (Int × Int × Int) := sem E k 140 none n_layout_e.ty n_layout_o.ty (s)
noncomputable def n_layout_6 (k : Nat) (s : Str) (from_ : Int) : Option (Int × Int × Int) := sem E k 140 (some 6) n_layout_c6.ty n_layout_o.ty (s, from_)
noncomputable def n_layout_30 (k : Nat) (from_ : Int) (to_ : Int) (e : Int) (end_ : Int) : Option (Int × Int × Int) := sem E k 140 (some 30) n_layout_c30.ty n_layout_o.ty (from_, to_, e, end_)
noncomputable def s_TrimLeft (k : Nat) (s : Str) (cutset : Str) : Option Str := sem E k 141 none s_TrimLeft_e.ty s_TrimLeft_o.ty (s, cutset)
noncomputable def s_IndexByte (k : Nat) (s : Str) (c : Int) : Option Int := sem E k 143 none s_IndexByte_e.ty s_IndexByte_o.ty (s, c)
noncomputable def n_size (k : Nat) (t : DataType) : Option Int := sem E k 153 none n_size_e.ty n_size_o.ty (t)
noncomputable def n_run (k : Nat) (s : Str) (at_ : Int) : Option (Int × Int) := sem E k 160 none n_run_e.ty n_run_o.ty (s, at_)
noncomputable def n_run_11 (k : Nat) (s : Str) (at_ : Int) : Option (Int × Int) := sem E k 160 (some 11) n_run_c11.ty n_run_o.ty (s, at_)
noncomputable def n_isDigit (k : Nat) (s : Str) (at_ : Int) : Option Bool := sem E k 170 none n_isDigit_e.ty n_isDigit_o.ty (s, at_)
noncomputable def x_ContainsFunc (k : Nat) (s : List Str) : Option Bool := sem E k 1000 none x_ContainsFunc_e.ty x_ContainsFunc_o.ty (s)
noncomputable def x_IndexFunc (k : Nat) (s : List MiOperand) (b0_0 : Str) : Option (Int × Str) := sem E k 1001 none x_IndexFunc_e.ty x_IndexFunc_o.ty (s, b0_0)
noncomputable def x_IndexFunc_5 (k : Nat) (s : List MiOperand) (x7 : Int) (x8 : Int) (b0_0 : Str) : Option (Int × Str) := sem E k 1001 (some 5) x_IndexFunc_c5.ty x_IndexFunc_o.ty (s, x7, x8, b0_0)
noncomputable def x_IndexFunc2 (k : Nat) (s : List Str) : Option Int := sem E k 1002 none x_IndexFunc2_e.ty x_IndexFunc2_o.ty (s)
noncomputable def x_IndexFunc2_5 (k : Nat) (s : List Str) (x7 : Int) (x8 : Int) : Option Int := sem E k 1002 (some 5) x_IndexFunc2_c5.ty x_IndexFunc2_o.ty (s, x7, x8)
noncomputable def x_ContainsFunc2 (k : Nat) (s : List Int) : Option Bool := sem E k 1003 none x_ContainsFunc2_e.ty x_ContainsFunc2_o.ty (s)
noncomputable def x_IndexFunc3 (k : Nat) (s : List Int) : Option Int := sem E k 1004 none x_IndexFunc3_e.ty x_IndexFunc3_o.ty (s)
noncomputable def x_IndexFunc3_5 (k : Nat) (s : List Int) (x7 : Int) (x8 : Int) : Option Int := sem E k 1004 (some 5) x_IndexFunc3_c5.ty x_IndexFunc3_o.ty (s, x7, x8)
end Mini

/- What the functions answer: equations, by the kernel. -/
namespace Mini
open Go
variable [MX]
set_option maxRecDepth 100000
theorem l_Few_eq (k : Nat) (x0 : MiProgram) : l_Few (k + 1) x0 =
  bsel (bsel (bsel (decide (28 < (x0.1.length : Int))) true (decide (44 < (x0.2.1.length : Int)))) true (decide (9 < (x0.2.2.1.length : Int))))
  (some false)
  (l_Few_9 k 0 x0.1 x0.2.1 x0.2.2.1) := by kernel_rfl
theorem l_Few_9_eq (k : Nat) (x3 : Int) (b0_0 : List MiOperand) (b0_1 : List MiInstruction) (b0_2 : List MiMonitor) : l_Few_9 (k + 1) x3 b0_0 b0_1 b0_2 =
  bsel (decide (x3 < (b0_0.length : Int)))
  ((rd b0_0 x3).bind fun y1 =>
  bsel (bsel (bsel (decide (100 < (y1.1.length : Int))) true (decide (100 < (y1.2.2.2.2.1.length : Int)))) true (decide (600 < (y1.2.2.2.1.2.1.length : Int))))
  (some false)
  (l_Few_9 k (w64 (x3 + 1)) b0_0 b0_1 b0_2))
  (l_Few_21 k 0 b0_0 b0_1 b0_2) := by kernel_rfl
theorem l_Few_21_eq (k : Nat) (x5 : Int) (b0_0 : List MiOperand) (b0_1 : List MiInstruction) (b0_2 : List MiMonitor) : l_Few_21 (k + 1) x5 b0_0 b0_1 b0_2 =
  bsel (decide (x5 < (b0_1.length : Int)))
  ((rd b0_1 x5).bind fun y1 =>
  bsel (decide (6 < (y1.2.1.length : Int)))
  (some false)
  (l_Few_21 k (w64 (x5 + 1)) b0_0 b0_1 b0_2))
  (some true) := by kernel_rfl
theorem r_Same_eq (k : Nat) (x0 : MiProgram) (x1 : MiProgram) : r_Same (k + 1) x0 x1 =
  bsel (bsel (bsel (!decide ((x0.1.length : Int) = (x1.1.length : Int))) true (!decide ((x0.2.1.length : Int) = (x1.2.1.length : Int)))) true (!decide ((x0.2.2.1.length : Int) = (x1.2.2.1.length : Int))))
  (some false)
  (r_Same_9 k 0 x0.1 x0.2.1 x0.2.2.1 x1.1 x1.2.1 x1.2.2.1) := by kernel_rfl
theorem r_Same_9_eq (k : Nat) (x5 : Int) (b0_0 : List MiOperand) (b0_1 : List MiInstruction) (b0_2 : List MiMonitor) (b1_0 : List MiOperand) (b1_1 : List MiInstruction) (b1_2 : List MiMonitor) : r_Same_9 (k + 1) x5 b0_0 b0_1 b0_2 b1_0 b1_1 b1_2 =
  bsel (decide (x5 < (b0_0.length : Int)))
  ((rd b0_0 x5).bind fun y1 =>
  (rd b1_0 x5).bind fun y2 =>
  bsel (nt (eqS y1.1 y2.1 && (eqI y1.2.1 y2.2.1 && ((eqI y1.2.2.1.1 y2.2.2.1.1 && (eqI y1.2.2.1.2.1 y2.2.2.1.2.1 && (eqI y1.2.2.1.2.2.1 y2.2.2.1.2.2.1 && true))) && ((eqI y1.2.2.2.1.1 y2.2.2.2.1.1 && (eqS y1.2.2.2.1.2.1 y2.2.2.2.1.2.1 && true)) && (eqS y1.2.2.2.2.1 y2.2.2.2.2.1 && (eqI y1.2.2.2.2.2.1 y2.2.2.2.2.2.1 && (eqI y1.2.2.2.2.2.2.1 y2.2.2.2.2.2.2.1 && true))))))))
  (some false)
  (r_Same_9 k (w64 (x5 + 1)) b0_0 b0_1 b0_2 b1_0 b1_1 b1_2))
  (r_Same_19 k 0 b0_0 b0_1 b0_2 b1_0 b1_1 b1_2) := by kernel_rfl
theorem r_Same_19_eq (k : Nat) (x6 : Int) (b0_0 : List MiOperand) (b0_1 : List MiInstruction) (b0_2 : List MiMonitor) (b1_0 : List MiOperand) (b1_1 : List MiInstruction) (b1_2 : List MiMonitor) : r_Same_19 (k + 1) x6 b0_0 b0_1 b0_2 b1_0 b1_1 b1_2 =
  bsel (decide (x6 < (b0_1.length : Int)))
  ((rd b0_1 x6).bind fun y1 =>
  (rd b1_1 x6).bind fun y2 =>
  (bsel (!(!decide (y1.1 = y2.1))) (rd b0_1 x6) (some (0, [], ()))).bind fun y3 =>
  (bsel (!(!decide (y1.1 = y2.1))) (rd b1_1 x6) (some (0, [], ()))).bind fun y4 =>
  (bsel (!(!decide (y1.1 = y2.1))) (b_Ints k y3.2.1 y4.2.1) (some false)).bind fun y5 =>
  bsel (bsel (!decide (y1.1 = y2.1)) true (nt y5))
  (some false)
  (r_Same_19 k (w64 (x6 + 1)) b0_0 b0_1 b0_2 b1_0 b1_1 b1_2))
  (r_Same_29 k 0 b0_0 b0_1 b0_2 b1_0 b1_1 b1_2) := by kernel_rfl
theorem r_Same_29_eq (k : Nat) (x7 : Int) (b0_0 : List MiOperand) (b0_1 : List MiInstruction) (b0_2 : List MiMonitor) (b1_0 : List MiOperand) (b1_1 : List MiInstruction) (b1_2 : List MiMonitor) : r_Same_29 (k + 1) x7 b0_0 b0_1 b0_2 b1_0 b1_1 b1_2 =
  bsel (decide (x7 < (b0_2.length : Int)))
  ((rd b0_2 x7).bind fun y1 =>
  (rd b1_2 x7).bind fun y2 =>
  bsel (nt (eqI y1.1 y2.1 && (eqI y1.2.1 y2.2.1 && (eqI y1.2.2.1 y2.2.2.1 && (eqI y1.2.2.2.1 y2.2.2.2.1 && true)))))
  (some false)
  (r_Same_29 k (w64 (x7 + 1)) b0_0 b0_1 b0_2 b1_0 b1_1 b1_2))
  (some true) := by kernel_rfl
theorem p_read_eq (k : Nat) (x0 : Str) : p_read (k + 1) x0 =
  (s_CutPrefix k x0 ([68, 67, 76, 32] : Str)).bind fun y1 =>
  bsel y1.2
  ((p_declared k y1.1).bind fun y2 =>
  (bsel y2.2 (p_isName k y2.1.1) (some false)).bind fun y3 =>
  (bsel (bsel y2.2 y3 false) (p_operandLine k y2.1) (some [])).bind fun y4 =>
  some ((0, 1, y2.1, 0, [], (0, 0, 0, 0, ()), ()), bsel (bsel y2.2 y3 false) (eqS y4 x0) false))
  ((s_Cut k x0 ([32] : Str)).bind fun y5 =>
  bsel (eqS y5.1 [77, 79, 78, 73, 84, 79, 82])
  ((s_Split k y5.2.1 ([32] : Str)).bind fun y6 =>
  p_read_19 k ([] : List Int) y6 (y6.length : Int) 0 0 0 ([] : Str) 0 0 0 0 0 ([] : Str) ([] : Str) 0 0 0 ([] : List Str) 0 0 0 0)
  ((subL (gNames : List Str) 0 (gNames.length : Int)).bind fun y7 =>
  (x_Index k y7 y5.1).bind fun y8 =>
  bsel y5.2.2
  ((s_Split k y5.2.1 ([44] : Str)).bind fun y9 =>
  p_read_44 k 0 0 ([] : Str) 0 0 0 0 0 ([] : Str) ([] : Str) 0 0 0 ([] : List Str) 0 0 0 0 0 2 ([] : Str) 0 0 0 0 0 ([] : Str) ([] : Str) 0 0 y8 y9 0 0 0 0)
  (p_read_44 k 0 0 ([] : Str) 0 0 0 0 0 ([] : Str) ([] : Str) 0 0 0 ([] : List Str) 0 0 0 0 0 2 ([] : Str) 0 0 0 0 0 ([] : Str) ([] : Str) 0 0 y8 ([] : List Str) 0 0 0 0))) := by kernel_rfl
theorem p_read_19_eq (k : Nat) (x11 : List Int) (x51 : List Str) (x52 : Int) (x53 : Int) (b0_0 : Int) (b0_1 : Int) (b0_2 : Str) (b0_3 : Int) (b0_4 : Int) (b0_5 : Int) (b0_6 : Int) (b0_7 : Int) (b0_8 : Str) (b0_9 : Str) (b0_10 : Int) (b0_11 : Int) (b0_12 : Int) (b0_13 : List Str) (b0_14 : Int) (b0_15 : Int) (b0_16 : Int) (b0_17 : Int) : p_read_19 (k + 1) x11 x51 x52 x53 b0_0 b0_1 b0_2 b0_3 b0_4 b0_5 b0_6 b0_7 b0_8 b0_9 b0_10 b0_11 b0_12 b0_13 b0_14 b0_15 b0_16 b0_17 =
  bsel (decide (x53 < x52))
  ((rd x51 x53).bind fun y1 =>
  (p_natural k y1).bind fun y2 =>
  bsel (nt y2.2)
  (some ((0, 0, ([], 0, (0, 0, 0, ()), (0, [], ()), [], 0, 0, ()), 0, [], (0, 0, 0, 0, ()), ()), false))
  ((catL (x11 : List Int) [y2.1]).bind fun y3 =>
  p_read_19 k y3 x51 x52 (w64 (x53 + 1)) b0_0 b0_1 b0_2 b0_3 b0_4 b0_5 b0_6 b0_7 b0_8 b0_9 b0_10 b0_11 b0_12 b0_13 b0_14 b0_15 b0_16 b0_17))
  (bsel (!decide ((x11.length : Int) = 4))
  (some ((0, 0, ([], 0, (0, 0, 0, ()), (0, [], ()), [], 0, 0, ()), 0, [], (0, 0, 0, 0, ()), ()), false))
  ((rd x11 0).bind fun y4 =>
  (rd x11 1).bind fun y5 =>
  (rd x11 2).bind fun y6 =>
  (rd x11 3).bind fun y7 =>
  some ((0, 3, ([], 0, (0, 0, 0, ()), (0, [], ()), [], 0, 0, ()), 0, [], (y4, y5, y6, y7, ()), ()), true))) := by kernel_rfl
theorem p_read_44_eq (k : Nat) (b0_0 : Int) (b0_1 : Int) (b0_2 : Str) (b0_3 : Int) (b0_4 : Int) (b0_5 : Int) (b0_6 : Int) (b0_7 : Int) (b0_8 : Str) (b0_9 : Str) (b0_10 : Int) (b0_11 : Int) (b0_12 : Int) (b0_13 : List Str) (b0_14 : Int) (b0_15 : Int) (b0_16 : Int) (b0_17 : Int) (b1_0 : Int) (b1_1 : Int) (b1_2 : Str) (b1_3 : Int) (b1_4 : Int) (b1_5 : Int) (b1_6 : Int) (b1_7 : Int) (b1_8 : Str) (b1_9 : Str) (b1_10 : Int) (b1_11 : Int) (b1_12 : Int) (b1_13 : List Str) (b1_14 : Int) (b1_15 : Int) (b1_16 : Int) (b1_17 : Int) : p_read_44 (k + 1) b0_0 b0_1 b0_2 b0_3 b0_4 b0_5 b0_6 b0_7 b0_8 b0_9 b0_10 b0_11 b0_12 b0_13 b0_14 b0_15 b0_16 b0_17 b1_0 b1_1 b1_2 b1_3 b1_4 b1_5 b1_6 b1_7 b1_8 b1_9 b1_10 b1_11 b1_12 b1_13 b1_14 b1_15 b1_16 b1_17 =
  (bsel (decide (0 ≤ b1_12)) (x_ContainsFunc k b1_13) (some false)).bind fun y1 =>
  some ((b1_0, b1_1, (b1_2, b1_3, (b1_4, b1_5, b1_6, ()), (b1_7, b1_8, ()), b1_9, b1_10, b1_11, ()), b1_12, b1_13, (b1_14, b1_15, b1_16, b1_17, ()), ()), bsel (decide (0 ≤ b1_12)) (nt y1) false) := by kernel_rfl
theorem p_programOf_eq (k : Nat) (x0 : List Line) : p_programOf (k + 1) x0 =
  p_programOf_9 k x0 x0 (x0.length : Int) 0 ([] : List MiOperand) ([] : List MiInstruction) ([] : List MiMonitor) ([] : List MiOperand) ([] : List MiInstruction) ([] : List MiMonitor) ([0] : List Int) ([] : List Int) ([] : List Int) ([] : List Int) := by kernel_rfl
theorem p_programOf_9_eq (k : Nat) (x0 : List Line) (x19 : List Line) (x20 : Int) (x21 : Int) (b0_0 : List MiOperand) (b0_1 : List MiInstruction) (b0_2 : List MiMonitor) (b1_0 : List MiOperand) (b1_1 : List MiInstruction) (b1_2 : List MiMonitor) (b2_0 : List Int) (b2_1 : List Int) (b2_2 : List Int) (b2_3 : List Int) : p_programOf_9 (k + 1) x0 x19 x20 x21 b0_0 b0_1 b0_2 b1_0 b1_1 b1_2 b2_0 b2_1 b2_2 b2_3 =
  bsel (decide (x21 < x20))
  ((rd x19 x21).bind fun y1 =>
  bsel (decide (y1.2.1 = 0))
  ((catL (b2_0 : List Int) [y1.1]).bind fun y2 =>
  bsel (decide (y1.2.1 = 0))
  (bsel (decide (y1.2.1 = 1))
  ((catL (b1_0 : List MiOperand) [y1.2.2.1]).bind fun y3 =>
  p_programOf_9 k x0 x19 x20 (w64 (x21 + 1)) b0_0 b0_1 b0_2 y3 b1_1 b1_2 y2 b2_1 b2_2 b2_3)
  (bsel (decide (y1.2.1 = 3))
  ((catL (b1_2 : List MiMonitor) [y1.2.2.2.2.2.1]).bind fun y4 =>
  p_programOf_9 k x0 x19 x20 (w64 (x21 + 1)) b0_0 b0_1 b0_2 b1_0 b1_1 y4 y2 b2_1 b2_2 b2_3)
  (p_programOf_9 k x0 x19 x20 (w64 (x21 + 1)) b0_0 b0_1 b0_2 b1_0 b1_1 b1_2 y2 b2_1 b2_2 b2_3)))
  (bsel (decide (y1.2.1 = 1))
  (bsel (decide (y1.2.1 = 1))
  ((catL (b1_0 : List MiOperand) [y1.2.2.1]).bind fun y5 =>
  none)
  (bsel (decide (y1.2.1 = 3))
  ((catL (b1_2 : List MiMonitor) [y1.2.2.2.2.2.1]).bind fun y6 =>
  none)
  (none)))
  (bsel (decide (y1.2.1 = 2))
  (bsel (decide (y1.2.1 = 1))
  ((catL (b1_0 : List MiOperand) [y1.2.2.1]).bind fun y7 =>
  none)
  (bsel (decide (y1.2.1 = 3))
  ((catL (b1_2 : List MiMonitor) [y1.2.2.2.2.2.1]).bind fun y8 =>
  none)
  (none)))
  (bsel (decide (y1.2.1 = 3))
  (bsel (decide (y1.2.1 = 1))
  ((catL (b1_0 : List MiOperand) [y1.2.2.1]).bind fun y9 =>
  none)
  (bsel (decide (y1.2.1 = 3))
  ((catL (b1_2 : List MiMonitor) [y1.2.2.2.2.2.1]).bind fun y10 =>
  none)
  (none)))
  (none)))))
  (bsel (decide (y1.2.1 = 1))
  ((catL (b2_1 : List Int) [y1.1]).bind fun y11 =>
  bsel (decide (y1.2.1 = 0))
  (bsel (decide (y1.2.1 = 1))
  ((catL (b1_0 : List MiOperand) [y1.2.2.1]).bind fun y12 =>
  none)
  (bsel (decide (y1.2.1 = 3))
  ((catL (b1_2 : List MiMonitor) [y1.2.2.2.2.2.1]).bind fun y13 =>
  none)
  (none)))
  (bsel (decide (y1.2.1 = 1))
  (bsel (decide (y1.2.1 = 1))
  ((catL (b1_0 : List MiOperand) [y1.2.2.1]).bind fun y14 =>
  p_programOf_9 k x0 x19 x20 (w64 (x21 + 1)) b0_0 b0_1 b0_2 y14 b1_1 b1_2 b2_0 y11 b2_2 b2_3)
  (bsel (decide (y1.2.1 = 3))
  ((catL (b1_2 : List MiMonitor) [y1.2.2.2.2.2.1]).bind fun y15 =>
  p_programOf_9 k x0 x19 x20 (w64 (x21 + 1)) b0_0 b0_1 b0_2 b1_0 b1_1 y15 b2_0 y11 b2_2 b2_3)
  (p_programOf_9 k x0 x19 x20 (w64 (x21 + 1)) b0_0 b0_1 b0_2 b1_0 b1_1 b1_2 b2_0 y11 b2_2 b2_3)))
  (bsel (decide (y1.2.1 = 2))
  (bsel (decide (y1.2.1 = 1))
  ((catL (b1_0 : List MiOperand) [y1.2.2.1]).bind fun y16 =>
  none)
  (bsel (decide (y1.2.1 = 3))
  ((catL (b1_2 : List MiMonitor) [y1.2.2.2.2.2.1]).bind fun y17 =>
  none)
  (none)))
  (bsel (decide (y1.2.1 = 3))
  (bsel (decide (y1.2.1 = 1))
  ((catL (b1_0 : List MiOperand) [y1.2.2.1]).bind fun y18 =>
  none)
  (bsel (decide (y1.2.1 = 3))
  ((catL (b1_2 : List MiMonitor) [y1.2.2.2.2.2.1]).bind fun y19 =>
  none)
  (none)))
  (none)))))
  (bsel (decide (y1.2.1 = 2))
  ((catL (b2_2 : List Int) [y1.1]).bind fun y20 =>
  bsel (decide (y1.2.1 = 0))
  (bsel (decide (y1.2.1 = 1))
  ((catL (b1_0 : List MiOperand) [y1.2.2.1]).bind fun y21 =>
  none)
  (bsel (decide (y1.2.1 = 3))
  ((catL (b1_2 : List MiMonitor) [y1.2.2.2.2.2.1]).bind fun y22 =>
  none)
  (none)))
  (bsel (decide (y1.2.1 = 1))
  (bsel (decide (y1.2.1 = 1))
  ((catL (b1_0 : List MiOperand) [y1.2.2.1]).bind fun y23 =>
  none)
  (bsel (decide (y1.2.1 = 3))
  ((catL (b1_2 : List MiMonitor) [y1.2.2.2.2.2.1]).bind fun y24 =>
  none)
  (none)))
  (bsel (decide (y1.2.1 = 2))
  (bsel (decide (y1.2.1 = 1))
  ((catL (b1_0 : List MiOperand) [y1.2.2.1]).bind fun y25 =>
  p_programOf_9 k x0 x19 x20 (w64 (x21 + 1)) b0_0 b0_1 b0_2 y25 b1_1 b1_2 b2_0 b2_1 y20 b2_3)
  (bsel (decide (y1.2.1 = 3))
  ((catL (b1_2 : List MiMonitor) [y1.2.2.2.2.2.1]).bind fun y26 =>
  p_programOf_9 k x0 x19 x20 (w64 (x21 + 1)) b0_0 b0_1 b0_2 b1_0 b1_1 y26 b2_0 b2_1 y20 b2_3)
  (p_programOf_9 k x0 x19 x20 (w64 (x21 + 1)) b0_0 b0_1 b0_2 b1_0 b1_1 b1_2 b2_0 b2_1 y20 b2_3)))
  (bsel (decide (y1.2.1 = 3))
  (bsel (decide (y1.2.1 = 1))
  ((catL (b1_0 : List MiOperand) [y1.2.2.1]).bind fun y27 =>
  none)
  (bsel (decide (y1.2.1 = 3))
  ((catL (b1_2 : List MiMonitor) [y1.2.2.2.2.2.1]).bind fun y28 =>
  none)
  (none)))
  (none)))))
  (bsel (decide (y1.2.1 = 3))
  ((catL (b2_3 : List Int) [y1.1]).bind fun y29 =>
  bsel (decide (y1.2.1 = 0))
  (bsel (decide (y1.2.1 = 1))
  ((catL (b1_0 : List MiOperand) [y1.2.2.1]).bind fun y30 =>
  none)
  (bsel (decide (y1.2.1 = 3))
  ((catL (b1_2 : List MiMonitor) [y1.2.2.2.2.2.1]).bind fun y31 =>
  none)
  (none)))
  (bsel (decide (y1.2.1 = 1))
  (bsel (decide (y1.2.1 = 1))
  ((catL (b1_0 : List MiOperand) [y1.2.2.1]).bind fun y32 =>
  none)
  (bsel (decide (y1.2.1 = 3))
  ((catL (b1_2 : List MiMonitor) [y1.2.2.2.2.2.1]).bind fun y33 =>
  none)
  (none)))
  (bsel (decide (y1.2.1 = 2))
  (bsel (decide (y1.2.1 = 1))
  ((catL (b1_0 : List MiOperand) [y1.2.2.1]).bind fun y34 =>
  none)
  (bsel (decide (y1.2.1 = 3))
  ((catL (b1_2 : List MiMonitor) [y1.2.2.2.2.2.1]).bind fun y35 =>
  none)
  (none)))
  (bsel (decide (y1.2.1 = 3))
  (bsel (decide (y1.2.1 = 1))
  ((catL (b1_0 : List MiOperand) [y1.2.2.1]).bind fun y36 =>
  p_programOf_9 k x0 x19 x20 (w64 (x21 + 1)) b0_0 b0_1 b0_2 y36 b1_1 b1_2 b2_0 b2_1 b2_2 y29)
  (bsel (decide (y1.2.1 = 3))
  ((catL (b1_2 : List MiMonitor) [y1.2.2.2.2.2.1]).bind fun y37 =>
  p_programOf_9 k x0 x19 x20 (w64 (x21 + 1)) b0_0 b0_1 b0_2 b1_0 b1_1 y37 b2_0 b2_1 b2_2 y29)
  (p_programOf_9 k x0 x19 x20 (w64 (x21 + 1)) b0_0 b0_1 b0_2 b1_0 b1_1 b1_2 b2_0 b2_1 b2_2 y29)))
  (none)))))
  (none)))))
  (p_programOf_29 k x0 (x0.length : Int) 0 b0_0 b0_1 b0_2 b1_0 b1_1 b1_2 b2_0 b2_1 b2_2 b2_3) := by kernel_rfl
theorem p_programOf_29_eq (k : Nat) (x57 : List Line) (x58 : Int) (x59 : Int) (b0_0 : List MiOperand) (b0_1 : List MiInstruction) (b0_2 : List MiMonitor) (b1_0 : List MiOperand) (b1_1 : List MiInstruction) (b1_2 : List MiMonitor) (b2_0 : List Int) (b2_1 : List Int) (b2_2 : List Int) (b2_3 : List Int) : p_programOf_29 (k + 1) x57 x58 x59 b0_0 b0_1 b0_2 b1_0 b1_1 b1_2 b2_0 b2_1 b2_2 b2_3 =
  bsel (decide (x59 < x58))
  ((rd x57 x59).bind fun y1 =>
  bsel (!decide (y1.2.1 = 2))
  (p_programOf_29 k x57 x58 (w64 (x59 + 1)) b0_0 b0_1 b0_2 b1_0 b1_1 b1_2 b2_0 b2_1 b2_2 b2_3)
  ((rd gOperations y1.2.2.2.1).bind fun y2 =>
  bsel (!decide ((y1.2.2.2.2.1.length : Int) = (y2.length : Int)))
  (some (([], [], [], ()), y1.1, 37))
  (p_programOf_43 k x57 x58 x59 y1.2.2.2.2.1 (y1.2.2.2.2.1.length : Int) 0 b0_0 b0_1 b0_2 b1_0 b1_1 b1_2 b2_0 b2_1 b2_2 b2_3 y1.1 y1.2.1 y1.2.2.1.1 y1.2.2.1.2.1 y1.2.2.1.2.2.1.1 y1.2.2.1.2.2.1.2.1 y1.2.2.1.2.2.1.2.2.1 y1.2.2.1.2.2.2.1.1 y1.2.2.1.2.2.2.1.2.1 y1.2.2.1.2.2.2.2.1 y1.2.2.1.2.2.2.2.2.1 y1.2.2.1.2.2.2.2.2.2.1 y1.2.2.2.1 y1.2.2.2.2.1 y1.2.2.2.2.2.1.1 y1.2.2.2.2.2.1.2.1 y1.2.2.2.2.2.1.2.2.1 y1.2.2.2.2.2.1.2.2.2.1 y1.2.2.2.1 ([] : List Int))))
  ((p_CheckProgram k (b1_0, b1_1, b1_2, ())).bind fun y3 =>
  bsel (!decide (y3.2 = 0))
  (bsel (decide (y3.1.1 = 0))
  ((rd b2_0 y3.1.2.1).bind fun y4 =>
  some (([], [], [], ()), y4, y3.2))
  (bsel (decide (y3.1.1 = 1))
  ((rd b2_1 y3.1.2.1).bind fun y5 =>
  some (([], [], [], ()), y5, y3.2))
  (bsel (decide (y3.1.1 = 2))
  ((rd b2_2 y3.1.2.1).bind fun y6 =>
  some (([], [], [], ()), y6, y3.2))
  (bsel (decide (y3.1.1 = 3))
  ((rd b2_3 y3.1.2.1).bind fun y7 =>
  some (([], [], [], ()), y7, y3.2))
  (none)))))
  (some ((b1_0, b1_1, b1_2, ()), 0, 0))) := by kernel_rfl
theorem p_programOf_43_eq (k : Nat) (x57 : List Line) (x58 : Int) (x59 : Int) (x82 : List Str) (x83 : Int) (x84 : Int) (b0_0 : List MiOperand) (b0_1 : List MiInstruction) (b0_2 : List MiMonitor) (b1_0 : List MiOperand) (b1_1 : List MiInstruction) (b1_2 : List MiMonitor) (b2_0 : List Int) (b2_1 : List Int) (b2_2 : List Int) (b2_3 : List Int) (b3_0 : Int) (b3_1 : Int) (b3_2 : Str) (b3_3 : Int) (b3_4 : Int) (b3_5 : Int) (b3_6 : Int) (b3_7 : Int) (b3_8 : Str) (b3_9 : Str) (b3_10 : Int) (b3_11 : Int) (b3_12 : Int) (b3_13 : List Str) (b3_14 : Int) (b3_15 : Int) (b3_16 : Int) (b3_17 : Int) (b4_0 : Int) (b4_1 : List Int) : p_programOf_43 (k + 1) x57 x58 x59 x82 x83 x84 b0_0 b0_1 b0_2 b1_0 b1_1 b1_2 b2_0 b2_1 b2_2 b2_3 b3_0 b3_1 b3_2 b3_3 b3_4 b3_5 b3_6 b3_7 b3_8 b3_9 b3_10 b3_11 b3_12 b3_13 b3_14 b3_15 b3_16 b3_17 b4_0 b4_1 =
  bsel (decide (x84 < x83))
  ((rd x82 x84).bind fun y1 =>
  (p_named k b1_0 y1).bind fun y2 =>
  bsel (decide (y2 < 0))
  (some (([], [], [], ()), b3_0, 11))
  ((catL (b4_1 : List Int) [y2]).bind fun y3 =>
  p_programOf_43 k x57 x58 x59 x82 x83 (w64 (x84 + 1)) b0_0 b0_1 b0_2 b1_0 b1_1 b1_2 b2_0 b2_1 b2_2 b2_3 b3_0 b3_1 b3_2 b3_3 b3_4 b3_5 b3_6 b3_7 b3_8 b3_9 b3_10 b3_11 b3_12 b3_13 b3_14 b3_15 b3_16 b3_17 b4_0 y3))
  ((catL (b1_1 : List MiInstruction) [(b4_0, b4_1, ())]).bind fun y4 =>
  p_programOf_29 k x57 x58 (w64 (x59 + 1)) b0_0 b0_1 b0_2 b1_0 y4 b1_2 b2_0 b2_1 b2_2 b2_3) := by kernel_rfl
theorem b_Ints_eq (k : Nat) (a : List Int) (b : List Int) : b_Ints (k + 1) a b =
  bsel (!decide ((a.length : Int) = (b.length : Int)))
  (some false)
  (b_Ints_9 k a b 0) := by kernel_rfl
theorem b_Ints_9_eq (k : Nat) (a : List Int) (b : List Int) (i : Int) : b_Ints_9 (k + 1) a b i =
  bsel (decide (i < (a.length : Int)))
  ((rd a i).bind fun y1 =>
  (rd b i).bind fun y2 =>
  bsel (!decide (y1 = y2))
  (some false)
  (b_Ints_9 k a b (w64 (i + 1))))
  (some true) := by kernel_rfl
theorem p_CheckProgram_eq (k : Nat) (x0 : MiProgram) : p_CheckProgram (k + 1) x0 =
  (p_cond k (bsel (bsel (decide (24 < (x0.1.length : Int))) true (decide (40 < (x0.2.1.length : Int)))) true (decide (6 < (x0.2.2.1.length : Int)))) 2).bind fun y1 =>
  (p_cond k (decide ((x0.2.1.length : Int) = 0)) 1).bind fun y2 =>
  (p_first k ([y1, y2] : List Int)).bind fun y3 =>
  bsel (!decide (y3 = 0))
  (some ((0, 0, ()), y3))
  (p_CheckProgram_13 k (x0.1.length : Int) 0 x0.1 x0.2.1 x0.2.2.1 0 0) := by kernel_rfl
theorem p_CheckProgram_13_eq (k : Nat) (x47 : Int) (x48 : Int) (b0_0 : List MiOperand) (b0_1 : List MiInstruction) (b0_2 : List MiMonitor) (b1_0 : Int) (b1_1 : Int) : p_CheckProgram_13 (k + 1) x47 x48 b0_0 b0_1 b0_2 b1_0 b1_1 =
  bsel (decide (x48 < x47))
  ((p_operandErr k (b0_0, b0_1, b0_2, ()) x48).bind fun y1 =>
  bsel (!decide (y1 = 0))
  (some ((1, x48, ()), y1))
  (p_CheckProgram_13 k x47 (w64 (x48 + 1)) b0_0 b0_1 b0_2 b1_0 b1_1))
  ((p_layout k b0_0).bind fun y2 =>
  bsel (decide (24 < y2.2))
  (some ((0, 0, ()), 30))
  (p_CheckProgram_33 k b0_1 (b0_1.length : Int) 0 b0_0 b0_1 b0_2 b1_0 b1_1)) := by kernel_rfl
theorem p_CheckProgram_33_eq (k : Nat) (x70 : List MiInstruction) (x71 : Int) (x72 : Int) (b0_0 : List MiOperand) (b0_1 : List MiInstruction) (b0_2 : List MiMonitor) (b1_0 : Int) (b1_1 : Int) : p_CheckProgram_33 (k + 1) x70 x71 x72 b0_0 b0_1 b0_2 b1_0 b1_1 =
  bsel (decide (x72 < x71))
  ((rd x70 x72).bind fun y1 =>
  (p_instructionErr k (b0_0, b0_1, b0_2, ()) y1).bind fun y2 =>
  bsel (!decide (y2 = 0))
  (some ((2, x72, ()), y2))
  (p_CheckProgram_33 k x70 x71 (w64 (x72 + 1)) b0_0 b0_1 b0_2 b1_0 b1_1))
  (p_CheckProgram_47 k b0_2 (b0_2.length : Int) 0 b0_0 b0_1 b0_2 b1_0 b1_1) := by kernel_rfl
theorem p_CheckProgram_47_eq (k : Nat) (x87 : List MiMonitor) (x88 : Int) (x89 : Int) (b0_0 : List MiOperand) (b0_1 : List MiInstruction) (b0_2 : List MiMonitor) (b1_0 : Int) (b1_1 : Int) : p_CheckProgram_47 (k + 1) x87 x88 x89 b0_0 b0_1 b0_2 b1_0 b1_1 =
  bsel (decide (x89 < x88))
  ((rd x87 x89).bind fun y1 =>
  (p_monitorErr k (b0_0, b0_1, b0_2, ()) y1).bind fun y2 =>
  bsel (!decide (y2 = 0))
  (some ((3, x89, ()), y2))
  (p_CheckProgram_47 k x87 x88 (w64 (x89 + 1)) b0_0 b0_1 b0_2 b1_0 b1_1))
  (some ((0, 0, ()), 0)) := by kernel_rfl
theorem p_natural_eq (k : Nat) (s : Str) : p_natural (k + 1) s =
  (c_Atoi k s).bind fun y1 =>
  (bsel (bsel y1.2 (decide ((s.length : Int) ≤ 15)) false) (c_Itoa k y1.1) (some [])).bind fun y2 =>
  some (y1.1, bsel (bsel (bsel y1.2 (decide ((s.length : Int) ≤ 15)) false) (eqS y2 s) false) (decide (0 ≤ y1.1)) false) := by kernel_rfl
theorem b_IsName_eq (k : Nat) (s : Str) : b_IsName (k + 1) s =
  (b_Within k (s.length : Int) 1 10).bind fun y1 =>
  bsel (nt y1)
  (some false)
  (b_IsName_9 k s 0) := by kernel_rfl
theorem b_IsName_9_eq (k : Nat) (s : Str) (i : Int) : b_IsName_9 (k + 1) s i =
  bsel (decide (i < (s.length : Int)))
  ((rdb s i).bind fun y1 =>
  (b_IsUpper k y1).bind fun y2 =>
  (bsel ((nt (bsel (bsel (bsel y2 true (decide (y1 = 36))) true (decide (y1 = 35))) true (decide (y1 = 64)))) && (!(decide (i = 0)))) (b_IsDigit k y1) (some false)).bind fun y3 =>
  bsel (bsel (nt (bsel (bsel (bsel y2 true (decide (y1 = 36))) true (decide (y1 = 35))) true (decide (y1 = 64)))) (bsel (decide (i = 0)) true (bsel (bsel (nt y3) (!decide (y1 = 95)) false) (!decide (y1 = 46)) false)) false)
  (some false)
  (b_IsName_9 k s (w64 (i + 1))))
  (some true) := by kernel_rfl
theorem r_IsData_eq (k : Nat) (kind : Int) : r_IsData (k + 1) kind =
  (r_IsScalar k kind).bind fun y1 =>
  some (bsel y1 true (decide (kind = 4))) := by kernel_rfl
theorem q_TypeErr_eq (k : Nat) (t : DataType) : q_TypeErr (k + 1) t =
  (b_Within k t.1 0 4).bind fun y1 =>
  bsel (nt y1)
  (some 4)
  (bsel (decide (t.1 = 0))
  ((b_Within k t.2.1 1 256).bind fun y2 =>
  q_TypeErr_24 k y2 t.1 t.2.1 t.2.2.1)
  (bsel (decide (t.1 = 1))
  (bsel (decide (t.1 = 1))
  ((b_Within k t.2.1 1 15).bind fun y3 =>
  q_TypeErr_24 k y3 t.1 t.2.1 t.2.2.1)
  (bsel (decide (t.1 = 3))
  (q_TypeErr_24 k (bsel (decide (t.2.1 = 4)) true (decide (t.2.1 = 9))) t.1 t.2.1 t.2.2.1)
  (q_TypeErr_24 k (decide (t.2.1 = 0)) t.1 t.2.1 t.2.2.1)))
  (bsel (decide (t.1 = 2))
  ((b_Within k t.2.1 1 15).bind fun y4 =>
  q_TypeErr_24 k y4 t.1 t.2.1 t.2.2.1)
  (bsel (decide (t.1 = 3))
  (q_TypeErr_24 k (bsel (decide (t.2.1 = 4)) true (decide (t.2.1 = 9))) t.1 t.2.1 t.2.2.1)
  (q_TypeErr_24 k (decide (t.2.1 = 0)) t.1 t.2.1 t.2.2.1))))) := by kernel_rfl
theorem q_TypeErr_24_eq (k : Nat) (length : Bool) (b0_0 : Int) (b0_1 : Int) (b0_2 : Int) : q_TypeErr_24 (k + 1) length b0_0 b0_1 b0_2 =
  bsel (nt length)
  (some 18)
  ((q_IsNumeric k b0_0).bind fun y1 =>
  bsel y1
  ((b_Within k b0_2 0 b0_1).bind fun y2 =>
  (b_Count k (nt y2)).bind fun y3 =>
  some (w64 (3 * y3)))
  ((b_Within k b0_2 0 0).bind fun y4 =>
  (b_Count k (nt y4)).bind fun y5 =>
  some (w64 (3 * y5)))) := by kernel_rfl
theorem q_ValueErr_eq (k : Nat) (t : DataType) (v : Val) : q_ValueErr (k + 1) t v =
  (q_TypeErr k t).bind fun y1 =>
  bsel (!decide (y1 = 0))
  (some y1)
  (bsel (decide (t.1 = 4))
  (some 17)
  (bsel (bsel (bsel (decide (t.1 = 0)) (!decide (v.1 = 0)) false) true (bsel (!decide (t.1 = 0)) (!eqS v.2.1 []) false))
  (some 5)
  (bsel (decide (t.1 = 0))
  ((b_Count k (!decide ((v.2.1.length : Int) = t.2.1))).bind fun y2 =>
  some (w64 (18 * y2)))
  ((q_Most k t).bind fun y3 =>
  (q_Most k t).bind fun y4 =>
  (b_Within k v.1 (negI .i64 y3) y4).bind fun y5 =>
  (b_Count k (nt y5)).bind fun y6 =>
  some (w64 (19 * y6)))))) := by kernel_rfl
theorem r_isNumeric_eq (k : Nat) (o : MiOperand) : r_isNumeric (k + 1) o =
  (q_IsNumeric k o.2.2.1.1).bind fun y1 =>
  some y1 := by kernel_rfl
theorem p_cond_eq (k : Nat) (is_ : Bool) (e : Int) : p_cond (k + 1) is_ e =
  bsel is_
  (some e)
  (some 0) := by kernel_rfl
theorem p_typeOf_eq (k : Nat) (x0 : Str) : p_typeOf (k + 1) x0 =
  (s_Cut k x0 ([40] : Str)).bind fun y1 =>
  (x_Index k gTypes y1.1).bind fun y2 =>
  (s_CutSuffix k y1.2.1 ([41] : Str)).bind fun y3 =>
  bsel (bsel (decide (y2 < 0)) true (nt y3.2))
  (some ((0, 0, 0, ()), false))
  (bsel (decide (y2 = 0))
  ((p_natural k y3.1).bind fun y4 =>
  some ((y2, y4.1, 0, ()), y4.2))
  ((s_Cut k y3.1 ([44] : Str)).bind fun y5 =>
  (p_natural k y5.1).bind fun y6 =>
  (p_natural k y5.2.1).bind fun y7 =>
  some ((y2, y6.1, y7.1, ()), bsel y6.2 y7.2 false))) := by kernel_rfl
theorem q_IsNumeric_eq (k : Nat) (kind : Int) : q_IsNumeric (k + 1) kind =
  (b_Within k kind 1 3).bind fun y1 =>
  some y1 := by kernel_rfl
theorem b_Count_eq (k : Nat) (holds : Bool) : b_Count (k + 1) holds =
  bsel holds
  (some 1)
  (some 0) := by kernel_rfl
theorem p_isData_eq (k : Nat) (o : MiOperand) : p_isData (k + 1) o =
  some (bsel (bsel (bsel (decide (o.2.1 = 0)) true (decide (o.2.1 = 1))) true (decide (o.2.1 = 2))) true (decide (o.2.1 = 4))) := by kernel_rfl
theorem p_isShown_1_eq (k : Nat) (c : Int) : p_isShown_1 (k + 1) c =
  some (bsel (decide (c < 32)) true (decide (126 < c))) := by kernel_rfl
theorem n_ParseNumber_eq (k : Nat) (x0 : Str) : n_ParseNumber (k + 1) x0 =
  (n_cond k (decide (40 < (x0.length : Int))) 2).bind fun y1 =>
  (n_cond k (eqS x0 []) 1).bind fun y2 =>
  (n_first k ([y1, y2] : List Int)).bind fun y3 =>
  bsel (!decide (y3 = 0))
  (some ((0, 0, ()), 0, y3))
  ((n_layout k x0).bind fun y4 =>
  bsel (!decide (y4.2.2 = 0))
  (some ((0, 0, ()), y4.2.1, y4.2.2))
  ((subL (x0 : Str) y4.1 (x0.length : Int)).bind fun y5 =>
  (s_Cut k y5 ([46] : Str)).bind fun y6 =>
  (s_TrimLeft k y6.1 ([48] : Str)).bind fun y7 =>
  (catL (y7 : Str) y6.2.1).bind fun y8 =>
  bsel (decide (15 < (y8.length : Int)))
  (some ((0, 0, ()), 0, 19))
  ((bytesL y8).bind fun y9 =>
  n_ParseNumber_27 k x0 y4.1 y6.2.1 0 y9 (y9.length : Int) 0 0 0))) := by kernel_rfl
theorem n_ParseNumber_27_eq (k : Nat) (x0 : Str) (x6 : Int) (x10 : Str) (x13 : Int) (x57 : List Int) (x58 : Int) (x59 : Int) (b0_0 : Int) (b0_1 : Int) : n_ParseNumber_27 (k + 1) x0 x6 x10 x13 x57 x58 x59 b0_0 b0_1 =
  bsel (decide (x59 < x58))
  ((rd x57 x59).bind fun y1 =>
  n_ParseNumber_27 k x0 x6 x10 (w64 ((w64 (x13 * 10)) + (w64 (IntKind.u8.wrap (y1 - 48))))) x57 x58 (w64 (x59 + 1)) b0_0 b0_1)
  (bsel (decide (x6 = 1))
  (some ((negI .i64 x13, (x10.length : Int), ()), (x0.length : Int), 0))
  (some ((x13, (x10.length : Int), ()), (x0.length : Int), 0))) := by kernel_rfl
theorem p_bytesOf_eq (k : Nat) (s : Str) : p_bytesOf (k + 1) s =
  p_bytesOf_5 k s ([] : List Int) := by kernel_rfl
theorem p_bytesOf_5_eq (k : Nat) (s : Str) (out : List Int) : p_bytesOf_5 (k + 1) s out =
  bsel (decide (2 ≤ (s.length : Int)))
  ((rdb s 0).bind fun y1 =>
  (s_IndexByte k ([48, 49, 50, 51, 52, 53, 54, 55, 56, 57, 65, 66, 67, 68, 69, 70] : Str) y1).bind fun y2 =>
  (rdb s 1).bind fun y3 =>
  (s_IndexByte k ([48, 49, 50, 51, 52, 53, 54, 55, 56, 57, 65, 66, 67, 68, 69, 70] : Str) y3).bind fun y4 =>
  bsel (bsel (decide (y2 < 0)) true (decide (y4 < 0)))
  (some ([], false))
  ((shlI .i64 y2 4).bind fun y5 =>
  (catL (out : List Int) [IntKind.u8.wrap (orI .i64 y5 y4)]).bind fun y6 =>
  (subL (s : Str) 2 (s.length : Int)).bind fun y7 =>
  p_bytesOf_5 k y7 y6))
  (some (textT out, eqS s [])) := by kernel_rfl
theorem b_Power_eq (k : Nat) (n : Int) : b_Power (k + 1) n =
  b_Power_7 k n 1 0 := by kernel_rfl
theorem b_Power_7_eq (k : Nat) (n : Int) (out : Int) (i : Int) : b_Power_7 (k + 1) n out i =
  bsel (decide (i < n))
  (b_Power_7 k n (w64 (out * 10)) (w64 (i + 1)))
  (some out) := by kernel_rfl
theorem n_size_eq (k : Nat) (t : DataType) : n_size (k + 1) t =
  bsel (decide (t.1 = 1))
  ((quoI .i64 t.2.1 2).bind fun y1 =>
  some (w64 (y1 + 1)))
  (bsel (decide (t.1 = 3))
  ((quoI .i64 t.2.1 9).bind fun y2 =>
  some (w64 (2 + (w64 (y2 * 2)))))
  (bsel (decide (t.1 = 4))
  (some 16)
  (some t.2.1))) := by kernel_rfl
theorem x_IndexFunc2_eq (k : Nat) (s : List Str) : x_IndexFunc2 (k + 1) s =
  x_IndexFunc2_5 k s (s.length : Int) 0 := by kernel_rfl
theorem x_IndexFunc2_5_eq (k : Nat) (s : List Str) (x7 : Int) (x8 : Int) : x_IndexFunc2_5 (k + 1) s x7 x8 =
  bsel (decide (x8 < x7))
  ((rd s x8).bind fun y1 =>
  (p_read_1 k y1).bind fun y2 =>
  bsel y2
  (some x8)
  (x_IndexFunc2_5 k s x7 (w64 (x8 + 1))))
  (some (-1)) := by kernel_rfl
end Mini

/- What the functions answer: equations, by the kernel. -/
namespace Mini
open Go
variable [MX]
set_option maxRecDepth 100000
theorem r_Err_eq (k : Nat) (p : MiProgram) : r_Err (k + 1) p =
  (r_Check k p).bind fun y1 =>
  some y1.2 := by kernel_rfl
theorem p_FormatProgram_eq (k : Nat) (x0 : MiProgram) : p_FormatProgram (k + 1) x0 =
  (p_programErr k x0).bind fun y1 =>
  bsel (!decide (y1 = 0))
  (some ([], y1))
  (p_FormatProgram_13 k ([] : List Str) x0.1 (x0.1.length : Int) 0 x0.1 x0.2.1 x0.2.2.1) := by kernel_rfl
theorem p_FormatProgram_13_eq (k : Nat) (x5 : List Str) (x22 : List MiOperand) (x23 : Int) (x24 : Int) (b0_0 : List MiOperand) (b0_1 : List MiInstruction) (b0_2 : List MiMonitor) : p_FormatProgram_13 (k + 1) x5 x22 x23 x24 b0_0 b0_1 b0_2 =
  bsel (decide (x24 < x23))
  ((rd x22 x24).bind fun y1 =>
  (p_operandLine k y1).bind fun y2 =>
  (catL (x5 : List Str) [y2]).bind fun y3 =>
  p_FormatProgram_13 k y3 x22 x23 (w64 (x24 + 1)) b0_0 b0_1 b0_2)
  (p_FormatProgram_23 k x5 b0_1 (b0_1.length : Int) 0 b0_0 b0_1 b0_2) := by kernel_rfl
theorem p_FormatProgram_23_eq (k : Nat) (x5 : List Str) (x35 : List MiInstruction) (x36 : Int) (x37 : Int) (b0_0 : List MiOperand) (b0_1 : List MiInstruction) (b0_2 : List MiMonitor) : p_FormatProgram_23 (k + 1) x5 x35 x36 x37 b0_0 b0_1 b0_2 =
  bsel (decide (x37 < x36))
  ((rd x35 x37).bind fun y1 =>
  p_FormatProgram_31 k x5 ([] : List Str) x35 x36 x37 y1.2.1 (y1.2.1.length : Int) 0 b0_0 b0_1 b0_2 y1.1 y1.2.1)
  (p_FormatProgram_45 k x5 b0_2 (b0_2.length : Int) 0) := by kernel_rfl
theorem p_FormatProgram_31_eq (k : Nat) (x5 : List Str) (x10 : List Str) (x35 : List MiInstruction) (x36 : Int) (x37 : Int) (x42 : List Int) (x43 : Int) (x44 : Int) (b0_0 : List MiOperand) (b0_1 : List MiInstruction) (b0_2 : List MiMonitor) (b1_0 : Int) (b1_1 : List Int) : p_FormatProgram_31 (k + 1) x5 x10 x35 x36 x37 x42 x43 x44 b0_0 b0_1 b0_2 b1_0 b1_1 =
  bsel (decide (x44 < x43))
  ((rd x42 x44).bind fun y1 =>
  (rd b0_0 y1).bind fun y2 =>
  (catL (x10 : List Str) [y2.1]).bind fun y3 =>
  p_FormatProgram_31 k x5 y3 x35 x36 x37 x42 x43 (w64 (x44 + 1)) b0_0 b0_1 b0_2 b1_0 b1_1)
  ((p_instructionLine k b1_0 x10).bind fun y4 =>
  (catL (x5 : List Str) [y4]).bind fun y5 =>
  p_FormatProgram_23 k y5 x35 x36 (w64 (x37 + 1)) b0_0 b0_1 b0_2) := by kernel_rfl
theorem p_FormatProgram_45_eq (k : Nat) (x5 : List Str) (x67 : List MiMonitor) (x68 : Int) (x69 : Int) : p_FormatProgram_45 (k + 1) x5 x67 x68 x69 =
  bsel (decide (x69 < x68))
  ((rd x67 x69).bind fun y1 =>
  (p_monitorLine k y1).bind fun y2 =>
  (catL (x5 : List Str) [y2]).bind fun y3 =>
  p_FormatProgram_45 k y3 x67 x68 (w64 (x69 + 1)))
  ((s_Join k x5 ([59, 10] : Str)).bind fun y4 =>
  (catL (y4 : Str) [59, 10]).bind fun y5 =>
  bsel (decide (6000 < (y5.length : Int)))
  (some ([], 2))
  (some (y5, 0))) := by kernel_rfl
theorem r_Own_eq (k : Nat) (p : MiProgram) : r_Own (k + 1) p =
  (catL ([] : List MiOperand) p.1).bind fun y1 =>
  (catL ([] : List MiMonitor) p.2.2.1).bind fun y2 =>
  r_Own_7 k 0 p.1 p.2.1 p.2.2.1 ([] : List MiOperand) ([] : List MiInstruction) ([] : List MiMonitor) y1 ([] : List MiInstruction) y2 := by kernel_rfl
theorem r_Own_7_eq (k : Nat) (i : Int) (b0_0 : List MiOperand) (b0_1 : List MiInstruction) (b0_2 : List MiMonitor) (b1_0 : List MiOperand) (b1_1 : List MiInstruction) (b1_2 : List MiMonitor) (b2_0 : List MiOperand) (b2_1 : List MiInstruction) (b2_2 : List MiMonitor) : r_Own_7 (k + 1) i b0_0 b0_1 b0_2 b1_0 b1_1 b1_2 b2_0 b2_1 b2_2 =
  bsel (decide (i < (b0_1.length : Int)))
  ((rd b0_1 i).bind fun y1 =>
  (rd b0_1 i).bind fun y2 =>
  (b_CopyInts k y2.2.1).bind fun y3 =>
  (catL (b2_1 : List MiInstruction) [(y1.1, y3, ())]).bind fun y4 =>
  r_Own_7 k (w64 (i + 1)) b0_0 b0_1 b0_2 b1_0 b1_1 b1_2 b2_0 y4 b2_2)
  (some (b2_0, b2_1, b2_2, ())) := by kernel_rfl
theorem p_operandLine_eq (k : Nat) (x0 : MiOperand) : p_operandLine (k + 1) x0 =
  bsel (decide (x0.2.1 = 0))
  ((catL ([68, 67, 76, 32, 68, 68, 32] : Str) x0.1).bind fun y1 =>
  (catL (y1 : Str) [32]).bind fun y2 =>
  (p_typeText k x0.2.2.1).bind fun y3 =>
  (catL (y2 : Str) y3).bind fun y4 =>
  (catL (y4 : Str) [32, 73, 78, 73, 84, 40]).bind fun y5 =>
  (p_valueText k x0.2.2.1 x0.2.2.2.1).bind fun y6 =>
  (catL (y5 : Str) y6).bind fun y7 =>
  (catL (y7 : Str) [41]).bind fun y8 =>
  some y8)
  (bsel (decide (x0.2.1 = 1))
  ((catL ([68, 67, 76, 32, 68, 68, 32] : Str) x0.1).bind fun y9 =>
  (catL (y9 : Str) [32]).bind fun y10 =>
  (p_typeText k x0.2.2.1).bind fun y11 =>
  (catL (y10 : Str) y11).bind fun y12 =>
  (catL (y12 : Str) [32, 68, 69, 70, 40]).bind fun y13 =>
  (catL (y13 : Str) x0.2.2.2.2.1).bind fun y14 =>
  (catL (y14 : Str) [44]).bind fun y15 =>
  (c_Itoa k x0.2.2.2.2.2.1).bind fun y16 =>
  (catL (y15 : Str) y16).bind fun y17 =>
  (catL (y17 : Str) [41]).bind fun y18 =>
  some y18)
  (bsel (decide (x0.2.1 = 2))
  ((catL ([68, 67, 76, 32, 68, 68, 32] : Str) x0.1).bind fun y19 =>
  (catL (y19 : Str) [32]).bind fun y20 =>
  (p_typeText k x0.2.2.1).bind fun y21 =>
  (catL (y20 : Str) y21).bind fun y22 =>
  (catL (y22 : Str) [32, 66, 65, 83, 40]).bind fun y23 =>
  (catL (y23 : Str) x0.2.2.2.2.1).bind fun y24 =>
  (catL (y24 : Str) [44]).bind fun y25 =>
  (c_Itoa k x0.2.2.2.2.2.1).bind fun y26 =>
  (catL (y25 : Str) y26).bind fun y27 =>
  (catL (y27 : Str) [41]).bind fun y28 =>
  some y28)
  (bsel (decide (x0.2.1 = 3))
  ((catL ([68, 67, 76, 32, 80, 84, 82, 32] : Str) x0.1).bind fun y29 =>
  some y29)
  (bsel (decide (x0.2.1 = 4))
  ((catL ([68, 67, 76, 32, 67, 79, 78, 32] : Str) x0.1).bind fun y30 =>
  (catL (y30 : Str) [32]).bind fun y31 =>
  (p_typeText k x0.2.2.1).bind fun y32 =>
  (catL (y31 : Str) y32).bind fun y33 =>
  (catL (y33 : Str) [32, 73, 78, 73, 84, 40]).bind fun y34 =>
  (p_valueText k x0.2.2.1 x0.2.2.2.1).bind fun y35 =>
  (catL (y34 : Str) y35).bind fun y36 =>
  (catL (y36 : Str) [41]).bind fun y37 =>
  some y37)
  ((catL ([68, 67, 76, 32, 76, 65, 66, 69, 76, 32] : Str) x0.1).bind fun y38 =>
  (catL (y38 : Str) [32]).bind fun y39 =>
  (c_Itoa k x0.2.2.2.2.2.2.1).bind fun y40 =>
  (catL (y39 : Str) y40).bind fun y41 =>
  some y41))))) := by kernel_rfl
theorem b_CopyInts_eq (k : Nat) (l : List Int) : b_CopyInts (k + 1) l =
  (catL ([] : List Int) l).bind fun y1 =>
  some y1 := by kernel_rfl
theorem r_names_eq (k : Nat) : r_names (k + 1) =
  some [[77, 79, 86, 69], [77, 79, 86, 69, 72], [65, 68, 68], [83, 85, 66], [77, 85, 76], [68, 73, 86], [82, 69, 77], [73, 70, 69, 81], [73, 70, 76, 84], [71, 79, 84, 79], [65, 68, 68, 82], [77, 79, 86, 69, 80], [65, 68, 86, 65, 78, 67, 69], [67, 65, 76, 76], [82, 69, 84, 85, 82, 78], [83, 73, 71, 78, 65, 76], [69, 88, 67, 69, 80, 84, 73, 79, 78], [80, 82, 73, 78, 84], [69, 78, 68]] := by kernel_rfl
theorem p_typeText_eq (k : Nat) (t : DataType) : p_typeText (k + 1) t =
  (rd gTypes t.1).bind fun y1 =>
  (catL (y1 : Str) [40]).bind fun y2 =>
  (c_Itoa k t.2.1).bind fun y3 =>
  (catL (y2 : Str) y3).bind fun y4 =>
  bsel (!decide (t.1 = 0))
  ((c_Itoa k t.2.2.1).bind fun y5 =>
  (catL ([44] : Str) y5).bind fun y6 =>
  (catL (y4 : Str) y6).bind fun y7 =>
  (catL (y7 : Str) [41]).bind fun y8 =>
  some y8)
  ((catL (y4 : Str) [41]).bind fun y9 =>
  some y9) := by kernel_rfl
theorem r_valueText_eq (k : Nat) (t : DataType) (v : Val) : r_valueText (k + 1) t v =
  bsel (!decide (t.1 = 0))
  ((q_Text k (v.1, t.2.2)).bind fun y1 =>
  some y1)
  ((r_isPlain k v.2.1).bind fun y2 =>
  bsel (nt y2)
  ((r_hexDigits k v.2.1).bind fun y3 =>
  (catL ([88, 39] : Str) y3).bind fun y4 =>
  (catL (y4 : Str) [39]).bind fun y5 =>
  some y5)
  (r_valueText_15 k ([39] : Str) 0 v.1 v.2.1)) := by kernel_rfl
theorem r_valueText_15_eq (k : Nat) (out : Str) (i : Int) (b0_0 : Int) (b0_1 : Str) : r_valueText_15 (k + 1) out i b0_0 b0_1 =
  bsel (decide (i < (b0_1.length : Int)))
  ((rdb b0_1 i).bind fun y1 =>
  bsel (decide (y1 = 39))
  ((catL (out : Str) [39]).bind fun y2 =>
  r_valueText_22 k y2 i b0_0 b0_1)
  (r_valueText_22 k out i b0_0 b0_1))
  ((catL (out : Str) [39]).bind fun y3 =>
  some y3) := by kernel_rfl
theorem r_valueText_22_eq (k : Nat) (out : Str) (i : Int) (b0_0 : Int) (b0_1 : Str) : r_valueText_22 (k + 1) out i b0_0 b0_1 =
  (subL (b0_1 : Str) i (w64 (i + 1))).bind fun y1 =>
  (catL (out : Str) y1).bind fun y2 =>
  r_valueText_15 k y2 (w64 (i + 1)) b0_0 b0_1 := by kernel_rfl
theorem r_roles_eq (k : Nat) (op : Int) : r_roles (k + 1) op =
  bsel (decide (op = 0))
  (some [0, 4])
  (bsel (decide (op = 1))
  (some [1, 3])
  (bsel (decide (op = 2))
  (bsel (decide (op = 2))
  (some [1, 3, 3])
  (bsel (decide (op = 7))
  (bsel (decide (op = 7))
  (some [2, 4, 6])
  (bsel (decide (op = 9))
  (bsel (decide (op = 9))
  (some [6])
  (bsel (decide (op = 10))
  (some [5, 0])
  (bsel (decide (op = 11))
  (some [5, 5])
  (bsel (decide (op = 12))
  (some [5, 3])
  (bsel (decide (op = 15))
  (some [3])
  (bsel (decide (op = 16))
  (some [1])
  (bsel (decide (op = 17))
  (some [2])
  (some []))))))))
  (bsel (decide (op = 13))
  (some [6])
  (bsel (decide (op = 10))
  (some [5, 0])
  (bsel (decide (op = 11))
  (some [5, 5])
  (bsel (decide (op = 12))
  (some [5, 3])
  (bsel (decide (op = 15))
  (some [3])
  (bsel (decide (op = 16))
  (some [1])
  (bsel (decide (op = 17))
  (some [2])
  (some []))))))))))
  (bsel (decide (op = 8))
  (some [2, 4, 6])
  (bsel (decide (op = 9))
  (bsel (decide (op = 9))
  (some [6])
  (bsel (decide (op = 10))
  (some [5, 0])
  (bsel (decide (op = 11))
  (some [5, 5])
  (bsel (decide (op = 12))
  (some [5, 3])
  (bsel (decide (op = 15))
  (some [3])
  (bsel (decide (op = 16))
  (some [1])
  (bsel (decide (op = 17))
  (some [2])
  (some []))))))))
  (bsel (decide (op = 13))
  (some [6])
  (bsel (decide (op = 10))
  (some [5, 0])
  (bsel (decide (op = 11))
  (some [5, 5])
  (bsel (decide (op = 12))
  (some [5, 3])
  (bsel (decide (op = 15))
  (some [3])
  (bsel (decide (op = 16))
  (some [1])
  (bsel (decide (op = 17))
  (some [2])
  (some []))))))))))))
  (bsel (decide (op = 3))
  (bsel (decide (op = 3))
  (some [1, 3, 3])
  (bsel (decide (op = 7))
  (bsel (decide (op = 7))
  (some [2, 4, 6])
  (bsel (decide (op = 9))
  (bsel (decide (op = 9))
  (some [6])
  (bsel (decide (op = 10))
  (some [5, 0])
  (bsel (decide (op = 11))
  (some [5, 5])
  (bsel (decide (op = 12))
  (some [5, 3])
  (bsel (decide (op = 15))
  (some [3])
  (bsel (decide (op = 16))
  (some [1])
  (bsel (decide (op = 17))
  (some [2])
  (some []))))))))
  (bsel (decide (op = 13))
  (some [6])
  (bsel (decide (op = 10))
  (some [5, 0])
  (bsel (decide (op = 11))
  (some [5, 5])
  (bsel (decide (op = 12))
  (some [5, 3])
  (bsel (decide (op = 15))
  (some [3])
  (bsel (decide (op = 16))
  (some [1])
  (bsel (decide (op = 17))
  (some [2])
  (some []))))))))))
  (bsel (decide (op = 8))
  (some [2, 4, 6])
  (bsel (decide (op = 9))
  (bsel (decide (op = 9))
  (some [6])
  (bsel (decide (op = 10))
  (some [5, 0])
  (bsel (decide (op = 11))
  (some [5, 5])
  (bsel (decide (op = 12))
  (some [5, 3])
  (bsel (decide (op = 15))
  (some [3])
  (bsel (decide (op = 16))
  (some [1])
  (bsel (decide (op = 17))
  (some [2])
  (some []))))))))
  (bsel (decide (op = 13))
  (some [6])
  (bsel (decide (op = 10))
  (some [5, 0])
  (bsel (decide (op = 11))
  (some [5, 5])
  (bsel (decide (op = 12))
  (some [5, 3])
  (bsel (decide (op = 15))
  (some [3])
  (bsel (decide (op = 16))
  (some [1])
  (bsel (decide (op = 17))
  (some [2])
  (some []))))))))))))
  (bsel (decide (op = 4))
  (bsel (decide (op = 4))
  (some [1, 3, 3])
  (bsel (decide (op = 7))
  (bsel (decide (op = 7))
  (some [2, 4, 6])
  (bsel (decide (op = 9))
  (bsel (decide (op = 9))
  (some [6])
  (bsel (decide (op = 10))
  (some [5, 0])
  (bsel (decide (op = 11))
  (some [5, 5])
  (bsel (decide (op = 12))
  (some [5, 3])
  (bsel (decide (op = 15))
  (some [3])
  (bsel (decide (op = 16))
  (some [1])
  (bsel (decide (op = 17))
  (some [2])
  (some []))))))))
  (bsel (decide (op = 13))
  (some [6])
  (bsel (decide (op = 10))
  (some [5, 0])
  (bsel (decide (op = 11))
  (some [5, 5])
  (bsel (decide (op = 12))
  (some [5, 3])
  (bsel (decide (op = 15))
  (some [3])
  (bsel (decide (op = 16))
  (some [1])
  (bsel (decide (op = 17))
  (some [2])
  (some []))))))))))
  (bsel (decide (op = 8))
  (some [2, 4, 6])
  (bsel (decide (op = 9))
  (bsel (decide (op = 9))
  (some [6])
  (bsel (decide (op = 10))
  (some [5, 0])
  (bsel (decide (op = 11))
  (some [5, 5])
  (bsel (decide (op = 12))
  (some [5, 3])
  (bsel (decide (op = 15))
  (some [3])
  (bsel (decide (op = 16))
  (some [1])
  (bsel (decide (op = 17))
  (some [2])
  (some []))))))))
  (bsel (decide (op = 13))
  (some [6])
  (bsel (decide (op = 10))
  (some [5, 0])
  (bsel (decide (op = 11))
  (some [5, 5])
  (bsel (decide (op = 12))
  (some [5, 3])
  (bsel (decide (op = 15))
  (some [3])
  (bsel (decide (op = 16))
  (some [1])
  (bsel (decide (op = 17))
  (some [2])
  (some []))))))))))))
  (bsel (decide (op = 5))
  (bsel (decide (op = 5))
  (some [1, 3, 3])
  (bsel (decide (op = 7))
  (bsel (decide (op = 7))
  (some [2, 4, 6])
  (bsel (decide (op = 9))
  (bsel (decide (op = 9))
  (some [6])
  (bsel (decide (op = 10))
  (some [5, 0])
  (bsel (decide (op = 11))
  (some [5, 5])
  (bsel (decide (op = 12))
  (some [5, 3])
  (bsel (decide (op = 15))
  (some [3])
  (bsel (decide (op = 16))
  (some [1])
  (bsel (decide (op = 17))
  (some [2])
  (some []))))))))
  (bsel (decide (op = 13))
  (some [6])
  (bsel (decide (op = 10))
  (some [5, 0])
  (bsel (decide (op = 11))
  (some [5, 5])
  (bsel (decide (op = 12))
  (some [5, 3])
  (bsel (decide (op = 15))
  (some [3])
  (bsel (decide (op = 16))
  (some [1])
  (bsel (decide (op = 17))
  (some [2])
  (some []))))))))))
  (bsel (decide (op = 8))
  (some [2, 4, 6])
  (bsel (decide (op = 9))
  (bsel (decide (op = 9))
  (some [6])
  (bsel (decide (op = 10))
  (some [5, 0])
  (bsel (decide (op = 11))
  (some [5, 5])
  (bsel (decide (op = 12))
  (some [5, 3])
  (bsel (decide (op = 15))
  (some [3])
  (bsel (decide (op = 16))
  (some [1])
  (bsel (decide (op = 17))
  (some [2])
  (some []))))))))
  (bsel (decide (op = 13))
  (some [6])
  (bsel (decide (op = 10))
  (some [5, 0])
  (bsel (decide (op = 11))
  (some [5, 5])
  (bsel (decide (op = 12))
  (some [5, 3])
  (bsel (decide (op = 15))
  (some [3])
  (bsel (decide (op = 16))
  (some [1])
  (bsel (decide (op = 17))
  (some [2])
  (some []))))))))))))
  (bsel (decide (op = 6))
  (some [1, 3, 3])
  (bsel (decide (op = 7))
  (bsel (decide (op = 7))
  (some [2, 4, 6])
  (bsel (decide (op = 9))
  (bsel (decide (op = 9))
  (some [6])
  (bsel (decide (op = 10))
  (some [5, 0])
  (bsel (decide (op = 11))
  (some [5, 5])
  (bsel (decide (op = 12))
  (some [5, 3])
  (bsel (decide (op = 15))
  (some [3])
  (bsel (decide (op = 16))
  (some [1])
  (bsel (decide (op = 17))
  (some [2])
  (some []))))))))
  (bsel (decide (op = 13))
  (some [6])
  (bsel (decide (op = 10))
  (some [5, 0])
  (bsel (decide (op = 11))
  (some [5, 5])
  (bsel (decide (op = 12))
  (some [5, 3])
  (bsel (decide (op = 15))
  (some [3])
  (bsel (decide (op = 16))
  (some [1])
  (bsel (decide (op = 17))
  (some [2])
  (some []))))))))))
  (bsel (decide (op = 8))
  (some [2, 4, 6])
  (bsel (decide (op = 9))
  (bsel (decide (op = 9))
  (some [6])
  (bsel (decide (op = 10))
  (some [5, 0])
  (bsel (decide (op = 11))
  (some [5, 5])
  (bsel (decide (op = 12))
  (some [5, 3])
  (bsel (decide (op = 15))
  (some [3])
  (bsel (decide (op = 16))
  (some [1])
  (bsel (decide (op = 17))
  (some [2])
  (some []))))))))
  (bsel (decide (op = 13))
  (some [6])
  (bsel (decide (op = 10))
  (some [5, 0])
  (bsel (decide (op = 11))
  (some [5, 5])
  (bsel (decide (op = 12))
  (some [5, 3])
  (bsel (decide (op = 15))
  (some [3])
  (bsel (decide (op = 16))
  (some [1])
  (bsel (decide (op = 17))
  (some [2])
  (some []))))))))))))))))) := by kernel_rfl
theorem p_instructionErr_eq (k : Nat) (p : MiProgram) (x : MiInstruction) : p_instructionErr (k + 1) p x =
  (p_in k x.1 0 18).bind fun y1 =>
  bsel (nt y1)
  (some 4)
  ((rd gOperations x.1).bind fun y2 =>
  bsel (!decide ((x.2.1.length : Int) = (y2.length : Int)))
  (some 37)
  (p_instructionErr_15 k x.2.1 (x.2.1.length : Int) 0 p.1 p.2.1 p.2.2.1 x.1 x.2.1 ([] : Str) 0 0 0 0 0 ([] : Str) ([] : Str) 0 0)) := by kernel_rfl
theorem p_instructionErr_15_eq (k : Nat) (x22 : List Int) (x23 : Int) (x24 : Int) (b0_0 : List MiOperand) (b0_1 : List MiInstruction) (b0_2 : List MiMonitor) (b1_0 : Int) (b1_1 : List Int) (b2_0 : Str) (b2_1 : Int) (b2_2 : Int) (b2_3 : Int) (b2_4 : Int) (b2_5 : Int) (b2_6 : Str) (b2_7 : Str) (b2_8 : Int) (b2_9 : Int) : p_instructionErr_15 (k + 1) x22 x23 x24 b0_0 b0_1 b0_2 b1_0 b1_1 b2_0 b2_1 b2_2 b2_3 b2_4 b2_5 b2_6 b2_7 b2_8 b2_9 =
  bsel (decide (x24 < x23))
  ((rd x22 x24).bind fun y1 =>
  (p_in k y1 0 (w64 ((b0_0.length : Int) - 1))).bind fun y2 =>
  bsel (nt y2)
  (some 3)
  ((rd b0_0 y1).bind fun y3 =>
  (rd gOperations b1_0).bind fun y4 =>
  (rd y4 x24).bind fun y5 =>
  (p_fits k y3 (b2_0, b2_1, (b2_2, b2_3, b2_4, ()), (b2_5, b2_6, ()), b2_7, b2_8, b2_9, ()) y5).bind fun y6 =>
  bsel (nt y6)
  (some 17)
  ((rd b0_0 y1).bind fun y7 =>
  p_instructionErr_15 k x22 x23 (w64 (x24 + 1)) b0_0 b0_1 b0_2 b1_0 b1_1 y7.1 y7.2.1 y7.2.2.1.1 y7.2.2.1.2.1 y7.2.2.1.2.2.1 y7.2.2.2.1.1 y7.2.2.2.1.2.1 y7.2.2.2.2.1 y7.2.2.2.2.2.1 y7.2.2.2.2.2.2.1)))
  (some 0) := by kernel_rfl
theorem q_Text_eq (k : Nat) (x : Two) : q_Text (k + 1) x =
  (q_Amount k x.1).bind fun y1 =>
  (b_Digits k y1).bind fun y2 =>
  q_Text_5 k y2 x.1 x.2.1 := by kernel_rfl
theorem q_Text_5_eq (k : Nat) (s : Str) (b0_0 : Int) (b0_1 : Int) : q_Text_5 (k + 1) s b0_0 b0_1 =
  bsel (decide ((s.length : Int) ≤ b0_1))
  ((catL ([48] : Str) s).bind fun y1 =>
  q_Text_5 k y1 b0_0 b0_1)
  (bsel (decide (0 < b0_1))
  ((subL (s : Str) 0 (w64 ((s.length : Int) - b0_1))).bind fun y2 =>
  (catL (y2 : Str) [46]).bind fun y3 =>
  (subL (s : Str) (w64 ((s.length : Int) - b0_1)) (s.length : Int)).bind fun y4 =>
  (catL (y3 : Str) y4).bind fun y5 =>
  bsel (decide (b0_0 < 0))
  ((catL ([45] : Str) y5).bind fun y6 =>
  some y6)
  (some y5))
  (bsel (decide (b0_0 < 0))
  ((catL ([45] : Str) s).bind fun y7 =>
  some y7)
  (some s))) := by kernel_rfl
theorem b_IsUpper_eq (k : Nat) (c : Int) : b_IsUpper (k + 1) c =
  some (bsel (decide (65 ≤ c)) (decide (c ≤ 90)) false) := by kernel_rfl
theorem p_kept_eq (k : Nat) (o : MiOperand) : p_kept (k + 1) o =
  (p_isData k o).bind fun y1 =>
  bsel y1
  (p_kept_8 k o.1 o.2.1 o.2.2.1.1 o.2.2.1.2.1 o.2.2.1.2.2.1 o.2.2.2.1.1 o.2.2.2.1.2.1 o.2.2.2.2.1 o.2.2.2.2.2.1 o.2.2.2.2.2.2.1 ([] : Str) 0 0 0 0 0 ([] : Str) ([] : Str) 0 0 o.1 o.2.1 o.2.2.1.1 o.2.2.1.2.1 o.2.2.1.2.2.1 0 ([] : Str) ([] : Str) 0 0)
  (p_kept_8 k o.1 o.2.1 o.2.2.1.1 o.2.2.1.2.1 o.2.2.1.2.2.1 o.2.2.2.1.1 o.2.2.2.1.2.1 o.2.2.2.2.1 o.2.2.2.2.2.1 o.2.2.2.2.2.2.1 ([] : Str) 0 0 0 0 0 ([] : Str) ([] : Str) 0 0 o.1 o.2.1 0 0 0 0 ([] : Str) ([] : Str) 0 0) := by kernel_rfl
theorem p_kept_8_eq (k : Nat) (b0_0 : Str) (b0_1 : Int) (b0_2 : Int) (b0_3 : Int) (b0_4 : Int) (b0_5 : Int) (b0_6 : Str) (b0_7 : Str) (b0_8 : Int) (b0_9 : Int) (b1_0 : Str) (b1_1 : Int) (b1_2 : Int) (b1_3 : Int) (b1_4 : Int) (b1_5 : Int) (b1_6 : Str) (b1_7 : Str) (b1_8 : Int) (b1_9 : Int) (b2_0 : Str) (b2_1 : Int) (b2_2 : Int) (b2_3 : Int) (b2_4 : Int) (b2_5 : Int) (b2_6 : Str) (b2_7 : Str) (b2_8 : Int) (b2_9 : Int) : p_kept_8 (k + 1) b0_0 b0_1 b0_2 b0_3 b0_4 b0_5 b0_6 b0_7 b0_8 b0_9 b1_0 b1_1 b1_2 b1_3 b1_4 b1_5 b1_6 b1_7 b1_8 b1_9 b2_0 b2_1 b2_2 b2_3 b2_4 b2_5 b2_6 b2_7 b2_8 b2_9 =
  bsel (decide (b0_1 = 0))
  (bsel (decide (b0_1 = 0))
  (some (b2_0, b2_1, (b2_2, b2_3, b2_4, ()), (b0_5, b0_6, ()), b2_7, b2_8, b2_9, ()))
  (bsel (decide (b0_1 = 1))
  (bsel (decide (b0_1 = 1))
  (some (b2_0, b2_1, (b2_2, b2_3, b2_4, ()), (b2_5, b2_6, ()), b0_7, b0_8, b2_9, ()))
  (bsel (decide (b0_1 = 5))
  (some (b2_0, b2_1, (b2_2, b2_3, b2_4, ()), (b2_5, b2_6, ()), b2_7, b2_8, b0_9, ()))
  (some (b2_0, b2_1, (b2_2, b2_3, b2_4, ()), (b2_5, b2_6, ()), b2_7, b2_8, b2_9, ()))))
  (bsel (decide (b0_1 = 2))
  (some (b2_0, b2_1, (b2_2, b2_3, b2_4, ()), (b2_5, b2_6, ()), b0_7, b0_8, b2_9, ()))
  (bsel (decide (b0_1 = 5))
  (some (b2_0, b2_1, (b2_2, b2_3, b2_4, ()), (b2_5, b2_6, ()), b2_7, b2_8, b0_9, ()))
  (some (b2_0, b2_1, (b2_2, b2_3, b2_4, ()), (b2_5, b2_6, ()), b2_7, b2_8, b2_9, ()))))))
  (bsel (decide (b0_1 = 4))
  (some (b2_0, b2_1, (b2_2, b2_3, b2_4, ()), (b0_5, b0_6, ()), b2_7, b2_8, b2_9, ()))
  (bsel (decide (b0_1 = 1))
  (bsel (decide (b0_1 = 1))
  (some (b2_0, b2_1, (b2_2, b2_3, b2_4, ()), (b2_5, b2_6, ()), b0_7, b0_8, b2_9, ()))
  (bsel (decide (b0_1 = 5))
  (some (b2_0, b2_1, (b2_2, b2_3, b2_4, ()), (b2_5, b2_6, ()), b2_7, b2_8, b0_9, ()))
  (some (b2_0, b2_1, (b2_2, b2_3, b2_4, ()), (b2_5, b2_6, ()), b2_7, b2_8, b2_9, ()))))
  (bsel (decide (b0_1 = 2))
  (some (b2_0, b2_1, (b2_2, b2_3, b2_4, ()), (b2_5, b2_6, ()), b0_7, b0_8, b2_9, ()))
  (bsel (decide (b0_1 = 5))
  (some (b2_0, b2_1, (b2_2, b2_3, b2_4, ()), (b2_5, b2_6, ()), b2_7, b2_8, b0_9, ()))
  (some (b2_0, b2_1, (b2_2, b2_3, b2_4, ()), (b2_5, b2_6, ()), b2_7, b2_8, b2_9, ())))))) := by kernel_rfl
theorem p_fits_eq (k : Nat) (o : MiOperand) (before : MiOperand) (class_ : Int) : p_fits (k + 1) o before class_ =
  bsel (decide (class_ = 5))
  (some (decide (o.2.1 = 3)))
  (bsel (decide (class_ = 6))
  (some (decide (o.2.1 = 5)))
  ((p_isData k o).bind fun y1 =>
  (bsel ((bsel y1 (nt (bsel (bsel (decide (class_ = 0)) true (decide (class_ = 2))) (decide (o.2.1 = 4)) false)) false) && (bsel (decide (class_ = 2)) true (decide (class_ = 3)))) (p_isNumeric k o) (some false)).bind fun y2 =>
  (bsel ((bsel (bsel y1 (nt (bsel (bsel (decide (class_ = 0)) true (decide (class_ = 2))) (decide (o.2.1 = 4)) false)) false) (nt (bsel (bsel (decide (class_ = 2)) true (decide (class_ = 3))) (nt y2) false)) false) && (decide (class_ = 4))) (p_isNumeric k o) (some false)).bind fun y3 =>
  (bsel ((bsel (bsel y1 (nt (bsel (bsel (decide (class_ = 0)) true (decide (class_ = 2))) (decide (o.2.1 = 4)) false)) false) (nt (bsel (bsel (decide (class_ = 2)) true (decide (class_ = 3))) (nt y2) false)) false) && (decide (class_ = 4))) (p_isNumeric k before) (some false)).bind fun y4 =>
  some (bsel (bsel (bsel y1 (nt (bsel (bsel (decide (class_ = 0)) true (decide (class_ = 2))) (decide (o.2.1 = 4)) false)) false) (nt (bsel (bsel (decide (class_ = 2)) true (decide (class_ = 3))) (nt y2) false)) false) (nt (bsel (decide (class_ = 4)) (nt (eqB y3 y4)) false)) false))) := by kernel_rfl
theorem n_CheckNumber_eq (k : Nat) (x : Two) : n_CheckNumber (k + 1) x =
  (n_in k x.1 (-999999999999999) 999999999999999).bind fun y1 =>
  (bsel (!(nt y1)) (n_in k x.2.1 0 15) (some false)).bind fun y2 =>
  (n_cond k (bsel (nt y1) true (nt y2)) 3).bind fun y3 =>
  some y3 := by kernel_rfl
theorem n_in_eq (k : Nat) (n : Int) (lo : Int) (hi : Int) : n_in (k + 1) n lo hi =
  some (bsel (decide (lo ≤ n)) (decide (n ≤ hi)) false) := by kernel_rfl
theorem n_cond_eq (k : Nat) (is_ : Bool) (e : Int) : n_cond (k + 1) is_ e =
  bsel is_
  (some e)
  (some 0) := by kernel_rfl
theorem n_power_eq (k : Nat) (n : Int) : n_power (k + 1) n =
  n_power_7 k 1 (minI n 18) 0 := by kernel_rfl
theorem n_power_7_eq (k : Nat) (out : Int) (x5 : Int) (x6 : Int) : n_power_7 (k + 1) out x5 x6 =
  bsel (decide (x6 < x5))
  (n_power_7 k (w64 (out * 10)) x5 (w64 (x6 + 1)))
  (some out) := by kernel_rfl
theorem n_SizeOf_eq (k : Nat) (t : DataType) : n_SizeOf (k + 1) t =
  (n_CheckType k t).bind fun y1 =>
  bsel (!decide (y1 = 0))
  (some (0, y1))
  ((n_size k t).bind fun y2 =>
  some (y2, 0)) := by kernel_rfl
theorem n_layout_eq (k : Nat) (s : Str) : n_layout (k + 1) s =
  (rdb s 0).bind fun y1 =>
  bsel (decide (y1 = 45))
  (n_layout_6 k s 1)
  (n_layout_6 k s 0) := by kernel_rfl
theorem n_layout_6_eq (k : Nat) (s : Str) (from_ : Int) : n_layout_6 (k + 1) s from_ =
  (n_run k s from_).bind fun y1 =>
  bsel (!decide (y1.2 = 0))
  (some (0, y1.1, y1.2))
  ((rdb s from_).bind fun y2 =>
  bsel (bsel (decide (y2 = 48)) (decide ((w64 (from_ + 1)) < y1.1)) false)
  (some (0, w64 (from_ + 1), 8))
  (bsel (decide (y1.1 = (s.length : Int)))
  (some (from_, y1.1, 0))
  ((rdb s y1.1).bind fun y3 =>
  bsel (!decide (y3 = 46))
  (some (0, y1.1, 8))
  ((n_run k s (w64 (y1.1 + 1))).bind fun y4 =>
  bsel (bsel (decide (y4.2 = 0)) (decide (y4.1 < (s.length : Int))) false)
  (n_layout_30 k from_ y1.1 8 y4.1)
  (n_layout_30 k from_ y1.1 y4.2 y4.1))))) := by kernel_rfl
theorem n_layout_30_eq (k : Nat) (from_ : Int) (to_ : Int) (e : Int) (end_ : Int) : n_layout_30 (k + 1) from_ to_ e end_ =
  bsel (!decide (e = 0))
  (some (0, end_, e))
  (some (from_, to_, 0)) := by kernel_rfl
theorem n_run_eq (k : Nat) (s : Str) (at_ : Int) : n_run (k + 1) s at_ =
  (n_isDigit k s at_).bind fun y1 =>
  bsel (nt y1)
  (bsel (decide (at_ < (s.length : Int)))
  (some (at_, 8))
  (some (at_, 9)))
  (n_run_11 k s at_) := by kernel_rfl
theorem n_run_11_eq (k : Nat) (s : Str) (at_ : Int) : n_run_11 (k + 1) s at_ =
  (n_isDigit k s at_).bind fun y1 =>
  bsel y1
  (n_run_11 k s (w64 (at_ + 1)))
  (some (at_, 0)) := by kernel_rfl
theorem x_ContainsFunc_eq (k : Nat) (s : List Str) : x_ContainsFunc (k + 1) s =
  (x_IndexFunc2 k s).bind fun y1 =>
  some (decide (0 ≤ y1)) := by kernel_rfl
theorem x_IndexFunc3_eq (k : Nat) (s : List Int) : x_IndexFunc3 (k + 1) s =
  x_IndexFunc3_5 k s (s.length : Int) 0 := by kernel_rfl
theorem x_IndexFunc3_5_eq (k : Nat) (s : List Int) (x7 : Int) (x8 : Int) : x_IndexFunc3_5 (k + 1) s x7 x8 =
  bsel (decide (x8 < x7))
  ((rd s x8).bind fun y1 =>
  (p_isShown_1 k y1).bind fun y2 =>
  bsel y2
  (some x8)
  (x_IndexFunc3_5 k s x7 (w64 (x8 + 1))))
  (some (-1)) := by kernel_rfl
end Mini
