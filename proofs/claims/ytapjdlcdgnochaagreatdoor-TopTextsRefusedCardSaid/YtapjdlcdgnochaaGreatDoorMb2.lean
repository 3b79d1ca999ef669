/- The tables of the evaluator for this program, and what its functions answer: equations by the kernel. -/
import Derived.Test.YtapjdlcdgnochaaGreatDoorMb1
set_option linter.unusedSectionVars false
set_option linter.unusedSimpArgs false
set_option linter.unusedVariables false

/- What the functions answer: equations, by the kernel. -/
namespace Mini
open Go
variable [MX]
set_option maxRecDepth 100000
theorem t_TopTextsRefused_eq (k : Nat) (x0 : MiProgram) (x1 : Int) (x2 : Int) : t_TopTextsRefused (k + 1) x0 x1 x2 =
  (l_Few k x0).bind fun y1 =>
  (bsel (!(nt y1)) (r_Err k x0) (some 0)).bind fun y2 =>
  (bsel (!(bsel (nt y1) true (!decide (y2 = 0)))) (b_Within k x2 0 3) (some false)).bind fun y3 =>
  bsel (bsel (bsel (nt y1) true (!decide (y2 = 0))) true (nt y3))
  (some true)
  ((r_Own k x0).bind fun y4 =>
  (p_FormatProgram k y4).bind fun y5 =>
  bsel (!decide (y5.2 = 0))
  ((bsel (decide (y5.2 = 2)) (r_Format k x0) (some [])).bind fun y6 =>
  some (bsel (decide (y5.2 = 2)) (decide (6000 < (y6.length : Int))) false))
  ((p_ParseProgram k y5.1).bind fun y7 =>
  (bsel (!(bsel (!decide (y7.2.2 = 0)) true (!decide (y7.2.1 = 0)))) (r_Same k y7.1 x0) (some false)).bind fun y8 =>
  bsel (bsel (bsel (!decide (y7.2.2 = 0)) true (!decide (y7.2.1 = 0))) true (nt y8))
  (some false)
  ((t_startsOf k y5.1).bind fun y9 =>
  bsel (bsel (decide (x1 < 0)) true (decide ((y9.length : Int) = 0)))
  (some (decide (x1 < 0)))
  ((remI x1 (y9.length : Int)).bind fun y10 =>
  (rd y9 y10).bind fun y11 =>
  bsel (decide ((w64 (y10 + 1)) < (y9.length : Int)))
  ((rd y9 (w64 (y10 + 1))).bind fun y12 =>
  t_TopTextsRefused_32 k x2 y5.1 y9 y11 y12 y7.1.1 y7.1.2.1 y7.1.2.2.1)
  (t_TopTextsRefused_32 k x2 y5.1 y9 y11 (y5.1.length : Int) y7.1.1 y7.1.2.1 y7.1.2.2.1))))) := by kernel_rfl
theorem t_TopTextsRefused_32_eq (k : Nat) (x2 : Int) (x7 : Str) (x11 : List Int) (x12 : Int) (x13 : Int) (b0_0 : List MiOperand) (b0_1 : List MiInstruction) (b0_2 : List MiMonitor) : t_TopTextsRefused_32 (k + 1) x2 x7 x11 x12 x13 b0_0 b0_1 b0_2 =
  bsel (decide ((w64 (x13 - x12)) < 3))
  (some false)
  (bsel (decide (x2 = 0))
  ((subL (x7 : Str) 0 x12).bind fun y1 =>
  (catL (y1 : Str) [97]).bind fun y2 =>
  (subL (x7 : Str) x12 (x7.length : Int)).bind fun y3 =>
  (catL (y2 : Str) y3).bind fun y4 =>
  t_TopTextsRefused_56 k y4 x12 b0_0 b0_1 b0_2)
  (bsel (decide (x2 = 1))
  ((subL (x7 : Str) 0 (w64 (x13 - 2))).bind fun y5 =>
  (subL (x7 : Str) (w64 (x13 - 1)) (x7.length : Int)).bind fun y6 =>
  (catL (y5 : Str) y6).bind fun y7 =>
  t_TopTextsRefused_56 k y7 x12 b0_0 b0_1 b0_2)
  (bsel (decide (x2 = 2))
  ((subL (x7 : Str) 0 (w64 ((x7.length : Int) - 1))).bind fun y8 =>
  (rd x11 (w64 ((x11.length : Int) - 1))).bind fun y9 =>
  t_TopTextsRefused_56 k y8 y9 b0_0 b0_1 b0_2)
  (bsel (decide (x2 = 3))
  ((catL (x7 : Str) [68, 67, 76, 32, 80, 84, 82, 32, 90, 90, 90, 90, 90, 90, 90, 90, 90, 90, 59, 10]).bind fun y10 =>
  t_TopTextsRefused_56 k y10 (x7.length : Int) b0_0 b0_1 b0_2)
  (t_TopTextsRefused_56 k ([] : Str) x12 b0_0 b0_1 b0_2))))) := by kernel_rfl
theorem t_TopTextsRefused_56_eq (k : Nat) (x14 : Str) (x15 : Int) (b0_0 : List MiOperand) (b0_1 : List MiInstruction) (b0_2 : List MiMonitor) : t_TopTextsRefused_56 (k + 1) x14 x15 b0_0 b0_1 b0_2 =
  bsel (decide (6000 < (x14.length : Int)))
  (t_TopTextsRefused_62 k x14 0 2 b0_0 b0_1 b0_2)
  (t_TopTextsRefused_62 k x14 x15 8 b0_0 b0_1 b0_2) := by kernel_rfl
theorem t_TopTextsRefused_62_eq (k : Nat) (x14 : Str) (x15 : Int) (x16 : Int) (b0_0 : List MiOperand) (b0_1 : List MiInstruction) (b0_2 : List MiMonitor) : t_TopTextsRefused_62 (k + 1) x14 x15 x16 b0_0 b0_1 b0_2 =
  (p_ParseProgram k x14).bind fun y1 =>
  some (bsel (bsel (decide (y1.2.2 = x16)) (decide (y1.2.1 = x15)) false) (decide ((w64 ((w64 ((y1.1.1.length : Int) + (y1.1.2.1.length : Int))) + (y1.1.2.2.1.length : Int))) = 0)) false) := by kernel_rfl
theorem b_Within_eq (k : Nat) (n : Int) (least : Int) (most : Int) : b_Within (k + 1) n least most =
  some (bsel (decide (least ≤ n)) (decide (n ≤ most)) false) := by kernel_rfl
theorem t_startsOf_eq (k : Nat) (s : Str) : t_startsOf (k + 1) s =
  t_startsOf_7 k s ([] : List Int) 0 := by kernel_rfl
theorem t_startsOf_7_eq (k : Nat) (s : Str) (out : List Int) (i : Int) : t_startsOf_7 (k + 1) s out i =
  bsel (decide (i < (s.length : Int)))
  ((bsel (!(decide (i = 0))) (rdb s (w64 (i - 1))) (some 0)).bind fun y1 =>
  bsel (bsel (decide (i = 0)) true (decide (y1 = 10)))
  ((catL (out : List Int) [i]).bind fun y2 =>
  t_startsOf_7 k s y2 (w64 (i + 1)))
  (t_startsOf_7 k s out (w64 (i + 1))))
  (some out) := by kernel_rfl
theorem r_Check_eq (k : Nat) (x0 : MiProgram) : r_Check (k + 1) x0 =
  bsel (bsel (bsel (decide (24 < (x0.1.length : Int))) true (decide (40 < (x0.2.1.length : Int)))) true (decide (6 < (x0.2.2.1.length : Int))))
  (some ((0, 0, ()), 2))
  (bsel (decide ((x0.2.1.length : Int) = 0))
  (some ((0, 0, ()), 1))
  (r_Check_13 k 0 x0.1 x0.2.1 x0.2.2.1 0 0)) := by kernel_rfl
theorem r_Check_13_eq (k : Nat) (x4 : Int) (b0_0 : List MiOperand) (b0_1 : List MiInstruction) (b0_2 : List MiMonitor) (b1_0 : Int) (b1_1 : Int) : r_Check_13 (k + 1) x4 b0_0 b0_1 b0_2 b1_0 b1_1 =
  bsel (decide (x4 < (b0_0.length : Int)))
  ((r_operandErr k (b0_0, b0_1, b0_2, ()) x4).bind fun y1 =>
  bsel (!decide (y1 = 0))
  (some ((1, x4, ()), y1))
  (r_Check_13 k (w64 (x4 + 1)) b0_0 b0_1 b0_2 b1_0 b1_1))
  ((r_Layout k (b0_0, b0_1, b0_2, ())).bind fun y2 =>
  bsel (decide (24 < y2.2))
  (some ((0, 0, ()), 30))
  (r_Check_31 k 0 b0_0 b0_1 b0_2 b1_0 b1_1)) := by kernel_rfl
theorem r_Check_31_eq (k : Nat) (x8 : Int) (b0_0 : List MiOperand) (b0_1 : List MiInstruction) (b0_2 : List MiMonitor) (b1_0 : Int) (b1_1 : Int) : r_Check_31 (k + 1) x8 b0_0 b0_1 b0_2 b1_0 b1_1 =
  bsel (decide (x8 < (b0_1.length : Int)))
  ((rd b0_1 x8).bind fun y1 =>
  (r_instructionErr k (b0_0, b0_1, b0_2, ()) y1).bind fun y2 =>
  bsel (!decide (y2 = 0))
  (some ((2, x8, ()), y2))
  (r_Check_31 k (w64 (x8 + 1)) b0_0 b0_1 b0_2 b1_0 b1_1))
  (r_Check_43 k 0 b0_0 b0_1 b0_2 b1_0 b1_1) := by kernel_rfl
theorem r_Check_43_eq (k : Nat) (x10 : Int) (b0_0 : List MiOperand) (b0_1 : List MiInstruction) (b0_2 : List MiMonitor) (b1_0 : Int) (b1_1 : Int) : r_Check_43 (k + 1) x10 b0_0 b0_1 b0_2 b1_0 b1_1 =
  bsel (decide (x10 < (b0_2.length : Int)))
  ((rd b0_2 x10).bind fun y1 =>
  (bsel (!(bsel (bsel (decide (y1.1 < 0)) true (decide (y1.2.1 ≤ y1.1))) true (decide ((b0_1.length : Int) < y1.2.1)))) (b_Within k y1.2.2.1 0 999) (some false)).bind fun y2 =>
  (bsel (!(bsel (bsel (bsel (decide (y1.1 < 0)) true (decide (y1.2.1 ≤ y1.1))) true (decide ((b0_1.length : Int) < y1.2.1))) true (nt y2))) (b_Within k y1.2.2.2.1 0 (w64 ((b0_1.length : Int) - 1))) (some false)).bind fun y3 =>
  bsel (bsel (bsel (bsel (bsel (decide (y1.1 < 0)) true (decide (y1.2.1 ≤ y1.1))) true (decide ((b0_1.length : Int) < y1.2.1))) true (nt y2)) true (nt y3))
  (some ((3, x10, ()), 3))
  (r_Check_43 k (w64 (x10 + 1)) b0_0 b0_1 b0_2 b1_0 b1_1))
  (some ((0, 0, ()), 0)) := by kernel_rfl
theorem p_programErr_eq (k : Nat) (p : MiProgram) : p_programErr (k + 1) p =
  (p_CheckProgram k p).bind fun y1 =>
  some y1.2 := by kernel_rfl
theorem p_instructionLine_eq (k : Nat) (op : Int) (args : List Str) : p_instructionLine (k + 1) op args =
  bsel (decide ((args.length : Int) = 0))
  ((rd gNames op).bind fun y1 =>
  some y1)
  ((rd gNames op).bind fun y2 =>
  (catL (y2 : Str) [32]).bind fun y3 =>
  (s_Join k args ([44] : Str)).bind fun y4 =>
  (catL (y3 : Str) y4).bind fun y5 =>
  some y5) := by kernel_rfl
theorem p_monitorLine_eq (k : Nat) (m : MiMonitor) : p_monitorLine (k + 1) m =
  p_monitorLine_7 k ([77, 79, 78, 73, 84, 79, 82] : Str) ([m.1, m.2.1, m.2.2.1, m.2.2.2.1] : List Int) (List.length ([m.1, m.2.1, m.2.2.1, m.2.2.2.1] : List Int) : Int) 0 := by kernel_rfl
theorem p_monitorLine_7_eq (k : Nat) (s : Str) (x14 : List Int) (x15 : Int) (x16 : Int) : p_monitorLine_7 (k + 1) s x14 x15 x16 =
  bsel (decide (x16 < x15))
  ((rd x14 x16).bind fun y1 =>
  (c_Itoa k y1).bind fun y2 =>
  (catL ([32] : Str) y2).bind fun y3 =>
  (catL (s : Str) y3).bind fun y4 =>
  p_monitorLine_7 k y4 x14 x15 (w64 (x16 + 1)))
  (some s) := by kernel_rfl
theorem r_operandText_eq (k : Nat) (x0 : MiOperand) : r_operandText (k + 1) x0 =
  bsel (decide (x0.2.1 = 0))
  ((catL ([68, 67, 76, 32, 68, 68, 32] : Str) x0.1).bind fun y1 =>
  (catL (y1 : Str) [32]).bind fun y2 =>
  (r_typeText k x0.2.2.1).bind fun y3 =>
  (catL (y2 : Str) y3).bind fun y4 =>
  (catL (y4 : Str) [32, 73, 78, 73, 84, 40]).bind fun y5 =>
  (r_valueText k x0.2.2.1 x0.2.2.2.1).bind fun y6 =>
  (catL (y5 : Str) y6).bind fun y7 =>
  (catL (y7 : Str) [41]).bind fun y8 =>
  some y8)
  (bsel (decide (x0.2.1 = 1))
  ((catL ([68, 67, 76, 32, 68, 68, 32] : Str) x0.1).bind fun y9 =>
  (catL (y9 : Str) [32]).bind fun y10 =>
  (r_typeText k x0.2.2.1).bind fun y11 =>
  (catL (y10 : Str) y11).bind fun y12 =>
  (catL (y12 : Str) [32, 68, 69, 70, 40]).bind fun y13 =>
  (catL (y13 : Str) x0.2.2.2.2.1).bind fun y14 =>
  (catL (y14 : Str) [44]).bind fun y15 =>
  (b_Digits k x0.2.2.2.2.2.1).bind fun y16 =>
  (catL (y15 : Str) y16).bind fun y17 =>
  (catL (y17 : Str) [41]).bind fun y18 =>
  some y18)
  (bsel (decide (x0.2.1 = 2))
  ((catL ([68, 67, 76, 32, 68, 68, 32] : Str) x0.1).bind fun y19 =>
  (catL (y19 : Str) [32]).bind fun y20 =>
  (r_typeText k x0.2.2.1).bind fun y21 =>
  (catL (y20 : Str) y21).bind fun y22 =>
  (catL (y22 : Str) [32, 66, 65, 83, 40]).bind fun y23 =>
  (catL (y23 : Str) x0.2.2.2.2.1).bind fun y24 =>
  (catL (y24 : Str) [44]).bind fun y25 =>
  (b_Digits k x0.2.2.2.2.2.1).bind fun y26 =>
  (catL (y25 : Str) y26).bind fun y27 =>
  (catL (y27 : Str) [41]).bind fun y28 =>
  some y28)
  (bsel (decide (x0.2.1 = 3))
  ((catL ([68, 67, 76, 32, 80, 84, 82, 32] : Str) x0.1).bind fun y29 =>
  some y29)
  (bsel (decide (x0.2.1 = 4))
  ((catL ([68, 67, 76, 32, 67, 79, 78, 32] : Str) x0.1).bind fun y30 =>
  (catL (y30 : Str) [32]).bind fun y31 =>
  (r_typeText k x0.2.2.1).bind fun y32 =>
  (catL (y31 : Str) y32).bind fun y33 =>
  (catL (y33 : Str) [32, 73, 78, 73, 84, 40]).bind fun y34 =>
  (r_valueText k x0.2.2.1 x0.2.2.2.1).bind fun y35 =>
  (catL (y34 : Str) y35).bind fun y36 =>
  (catL (y36 : Str) [41]).bind fun y37 =>
  some y37)
  ((catL ([68, 67, 76, 32, 76, 65, 66, 69, 76, 32] : Str) x0.1).bind fun y38 =>
  (catL (y38 : Str) [32]).bind fun y39 =>
  (b_Digits k x0.2.2.2.2.2.2.1).bind fun y40 =>
  (catL (y39 : Str) y40).bind fun y41 =>
  some y41))))) := by kernel_rfl
theorem r_operandErr_eq (k : Nat) (x0 : MiProgram) (x1 : Int) : r_operandErr (k + 1) x0 x1 =
  (rd x0.1 x1).bind fun y1 =>
  (b_IsName k y1.1).bind fun y2 =>
  bsel (nt y2)
  (some 7)
  ((r_At k x0 y1.1).bind fun y3 =>
  bsel (decide (y3 < x1))
  (some 13)
  ((b_Within k y1.2.1 0 5).bind fun y4 =>
  bsel (nt y4)
  (some 4)
  ((r_hasExtra k y1).bind fun y5 =>
  bsel y5
  (some 5)
  ((r_IsData k y1.2.1).bind fun y6 =>
  bsel y6
  ((q_TypeErr k y1.2.2.1).bind fun y7 =>
  bsel (!decide (y7 = 0))
  (some y7)
  (bsel (decide (y1.2.2.1.1 = 4))
  (some 17)
  (r_operandErr_32 k x1 x0.1 x0.2.1 x0.2.2.1 y1.1 y1.2.1 y1.2.2.1.1 y1.2.2.1.2.1 y1.2.2.1.2.2.1 y1.2.2.2.1.1 y1.2.2.2.1.2.1 y1.2.2.2.2.1 y1.2.2.2.2.2.1 y1.2.2.2.2.2.2.1)))
  (r_operandErr_32 k x1 x0.1 x0.2.1 x0.2.2.1 y1.1 y1.2.1 y1.2.2.1.1 y1.2.2.1.2.1 y1.2.2.1.2.2.1 y1.2.2.2.1.1 y1.2.2.2.1.2.1 y1.2.2.2.2.1 y1.2.2.2.2.2.1 y1.2.2.2.2.2.2.1))))) := by kernel_rfl
theorem r_operandErr_32_eq (k : Nat) (x1 : Int) (b0_0 : List MiOperand) (b0_1 : List MiInstruction) (b0_2 : List MiMonitor) (b1_0 : Str) (b1_1 : Int) (b1_2 : Int) (b1_3 : Int) (b1_4 : Int) (b1_5 : Int) (b1_6 : Str) (b1_7 : Str) (b1_8 : Int) (b1_9 : Int) : r_operandErr_32 (k + 1) x1 b0_0 b0_1 b0_2 b1_0 b1_1 b1_2 b1_3 b1_4 b1_5 b1_6 b1_7 b1_8 b1_9 =
  (r_At k (b0_0, b0_1, b0_2, ()) b1_7).bind fun y1 =>
  bsel (decide (b1_1 = 0))
  (bsel (decide (b1_1 = 0))
  ((q_ValueErr k (b1_2, b1_3, b1_4, ()) (b1_5, b1_6, ())).bind fun y2 =>
  some y2)
  (bsel (decide (b1_1 = 1))
  (bsel (decide (b1_1 = 1))
  (bsel (bsel (decide (y1 = (-1))) true (decide (x1 ≤ y1)))
  (some 11)
  ((rd b0_0 y1).bind fun y3 =>
  bsel (bsel (bsel (decide (b1_1 = 1)) (!decide (y3.2.1 = 0)) false) true (bsel (decide (b1_1 = 2)) (!decide (y3.2.1 = 3)) false))
  (some 17)
  (bsel (decide (b1_1 = 1))
  ((b_Size k y3.2.2.1).bind fun y4 =>
  (b_Size k (b1_2, b1_3, b1_4, ())).bind fun y5 =>
  (b_Within k b1_8 0 (w64 (y4 - y5))).bind fun y6 =>
  bsel (nt y6)
  (some 3)
  (some 0))
  ((b_Within k b1_8 0 256).bind fun y7 =>
  bsel (nt y7)
  (some 3)
  (some 0)))))
  (bsel (decide (b1_1 = 5))
  ((b_Within k b1_9 0 (w64 ((b0_1.length : Int) - 1))).bind fun y8 =>
  bsel (nt y8)
  (some 3)
  (some 0))
  (some 0)))
  (bsel (decide (b1_1 = 2))
  (bsel (bsel (decide (y1 = (-1))) true (decide (x1 ≤ y1)))
  (some 11)
  ((rd b0_0 y1).bind fun y9 =>
  bsel (bsel (bsel (decide (b1_1 = 1)) (!decide (y9.2.1 = 0)) false) true (bsel (decide (b1_1 = 2)) (!decide (y9.2.1 = 3)) false))
  (some 17)
  (bsel (decide (b1_1 = 1))
  ((b_Size k y9.2.2.1).bind fun y10 =>
  (b_Size k (b1_2, b1_3, b1_4, ())).bind fun y11 =>
  (b_Within k b1_8 0 (w64 (y10 - y11))).bind fun y12 =>
  bsel (nt y12)
  (some 3)
  (some 0))
  ((b_Within k b1_8 0 256).bind fun y13 =>
  bsel (nt y13)
  (some 3)
  (some 0)))))
  (bsel (decide (b1_1 = 5))
  ((b_Within k b1_9 0 (w64 ((b0_1.length : Int) - 1))).bind fun y14 =>
  bsel (nt y14)
  (some 3)
  (some 0))
  (some 0)))))
  (bsel (decide (b1_1 = 4))
  ((q_ValueErr k (b1_2, b1_3, b1_4, ()) (b1_5, b1_6, ())).bind fun y15 =>
  some y15)
  (bsel (decide (b1_1 = 1))
  (bsel (decide (b1_1 = 1))
  (bsel (bsel (decide (y1 = (-1))) true (decide (x1 ≤ y1)))
  (some 11)
  ((rd b0_0 y1).bind fun y16 =>
  bsel (bsel (bsel (decide (b1_1 = 1)) (!decide (y16.2.1 = 0)) false) true (bsel (decide (b1_1 = 2)) (!decide (y16.2.1 = 3)) false))
  (some 17)
  (bsel (decide (b1_1 = 1))
  ((b_Size k y16.2.2.1).bind fun y17 =>
  (b_Size k (b1_2, b1_3, b1_4, ())).bind fun y18 =>
  (b_Within k b1_8 0 (w64 (y17 - y18))).bind fun y19 =>
  bsel (nt y19)
  (some 3)
  (some 0))
  ((b_Within k b1_8 0 256).bind fun y20 =>
  bsel (nt y20)
  (some 3)
  (some 0)))))
  (bsel (decide (b1_1 = 5))
  ((b_Within k b1_9 0 (w64 ((b0_1.length : Int) - 1))).bind fun y21 =>
  bsel (nt y21)
  (some 3)
  (some 0))
  (some 0)))
  (bsel (decide (b1_1 = 2))
  (bsel (bsel (decide (y1 = (-1))) true (decide (x1 ≤ y1)))
  (some 11)
  ((rd b0_0 y1).bind fun y22 =>
  bsel (bsel (bsel (decide (b1_1 = 1)) (!decide (y22.2.1 = 0)) false) true (bsel (decide (b1_1 = 2)) (!decide (y22.2.1 = 3)) false))
  (some 17)
  (bsel (decide (b1_1 = 1))
  ((b_Size k y22.2.2.1).bind fun y23 =>
  (b_Size k (b1_2, b1_3, b1_4, ())).bind fun y24 =>
  (b_Within k b1_8 0 (w64 (y23 - y24))).bind fun y25 =>
  bsel (nt y25)
  (some 3)
  (some 0))
  ((b_Within k b1_8 0 256).bind fun y26 =>
  bsel (nt y26)
  (some 3)
  (some 0)))))
  (bsel (decide (b1_1 = 5))
  ((b_Within k b1_9 0 (w64 ((b0_1.length : Int) - 1))).bind fun y27 =>
  bsel (nt y27)
  (some 3)
  (some 0))
  (some 0))))) := by kernel_rfl
theorem r_instructionErr_eq (k : Nat) (x0 : MiProgram) (x1 : MiInstruction) : r_instructionErr (k + 1) x0 x1 =
  (b_Within k x1.1 0 18).bind fun y1 =>
  bsel (nt y1)
  (some 4)
  ((r_roles k x1.1).bind fun y2 =>
  bsel (!decide ((x1.2.1.length : Int) = (y2.length : Int)))
  (some 37)
  (r_instructionErr_15 k y2 0 x0.1 x0.2.1 x0.2.2.1 x1.1 x1.2.1)) := by kernel_rfl
theorem r_instructionErr_15_eq (k : Nat) (x5 : List Int) (x6 : Int) (b0_0 : List MiOperand) (b0_1 : List MiInstruction) (b0_2 : List MiMonitor) (b1_0 : Int) (b1_1 : List Int) : r_instructionErr_15 (k + 1) x5 x6 b0_0 b0_1 b0_2 b1_0 b1_1 =
  bsel (decide (x6 < (x5.length : Int)))
  ((rd b1_1 x6).bind fun y1 =>
  (b_Within k y1 0 (w64 ((b0_0.length : Int) - 1))).bind fun y2 =>
  bsel (nt y2)
  (some 3)
  ((rd b1_1 x6).bind fun y3 =>
  (rd b0_0 y3).bind fun y4 =>
  (rd x5 x6).bind fun y5 =>
  bsel (decide (y5 = 0))
  ((r_IsScalar k y4.2.1).bind fun y6 =>
  bsel (nt y6)
  (some 17)
  (r_instructionErr_15 k x5 (w64 (x6 + 1)) b0_0 b0_1 b0_2 b1_0 b1_1))
  (bsel (decide (y5 = 1))
  ((r_IsScalar k y4.2.1).bind fun y7 =>
  (bsel y7 (r_isNumeric k y4) (some false)).bind fun y8 =>
  bsel (nt (bsel y7 y8 false))
  (some 17)
  (r_instructionErr_15 k x5 (w64 (x6 + 1)) b0_0 b0_1 b0_2 b1_0 b1_1))
  (bsel (decide (y5 = 2))
  ((r_IsData k y4.2.1).bind fun y9 =>
  bsel (nt y9)
  (some 17)
  (r_instructionErr_15 k x5 (w64 (x6 + 1)) b0_0 b0_1 b0_2 b1_0 b1_1))
  (bsel (decide (y5 = 3))
  ((r_IsData k y4.2.1).bind fun y10 =>
  (bsel y10 (r_isNumeric k y4) (some false)).bind fun y11 =>
  bsel (nt (bsel y10 y11 false))
  (some 17)
  (r_instructionErr_15 k x5 (w64 (x6 + 1)) b0_0 b0_1 b0_2 b1_0 b1_1))
  (bsel (decide (y5 = 4))
  ((r_IsData k y4.2.1).bind fun y12 =>
  (bsel y12 (r_isNumeric k y4) (some false)).bind fun y13 =>
  (bsel y12 (rd b1_1 (w64 (x6 - 1))) (some 0)).bind fun y14 =>
  (bsel y12 (rd b0_0 y14) (some ([], 0, (0, 0, 0, ()), (0, [], ()), [], 0, 0, ()))).bind fun y15 =>
  (bsel y12 (r_isNumeric k y15) (some false)).bind fun y16 =>
  bsel (nt (bsel y12 (eqB y13 y16) false))
  (some 17)
  (r_instructionErr_15 k x5 (w64 (x6 + 1)) b0_0 b0_1 b0_2 b1_0 b1_1))
  (bsel (decide (y5 = 5))
  (bsel (nt (decide (y4.2.1 = 3)))
  (some 17)
  (r_instructionErr_15 k x5 (w64 (x6 + 1)) b0_0 b0_1 b0_2 b1_0 b1_1))
  (bsel (decide (y5 = 6))
  (bsel (nt (decide (y4.2.1 = 5)))
  (some 17)
  (r_instructionErr_15 k x5 (w64 (x6 + 1)) b0_0 b0_1 b0_2 b1_0 b1_1))
  (bsel (nt false)
  (some 17)
  (r_instructionErr_15 k x5 (w64 (x6 + 1)) b0_0 b0_1 b0_2 b1_0 b1_1))))))))))
  (some 0) := by kernel_rfl
theorem p_valueText_eq (k : Nat) (t : DataType) (v : Val) : p_valueText (k + 1) t v =
  bsel (!decide (t.1 = 0))
  ((n_FormatNumber k (v.1, t.2.2)).bind fun y1 =>
  some y1.1)
  ((p_isShown k v.2.1).bind fun y2 =>
  bsel y2
  ((s_ReplaceAll k v.2.1 ([39] : Str) ([39, 39] : Str)).bind fun y3 =>
  (catL ([39] : Str) y3).bind fun y4 =>
  (catL (y4 : Str) [39]).bind fun y5 =>
  some y5)
  ((bytesL v.2.1).bind fun y6 =>
  p_valueText_17 k ([88, 39] : List Int) y6 (y6.length : Int) 0)) := by kernel_rfl
theorem p_valueText_17_eq (k : Nat) (out : List Int) (x35 : List Int) (x36 : Int) (x37 : Int) : p_valueText_17 (k + 1) out x35 x36 x37 =
  bsel (decide (x37 < x36))
  ((rd x35 x37).bind fun y1 =>
  (shrI .u8 y1 4).bind fun y2 =>
  (rdb [48, 49, 50, 51, 52, 53, 54, 55, 56, 57, 65, 66, 67, 68, 69, 70] y2).bind fun y3 =>
  (rdb [48, 49, 50, 51, 52, 53, 54, 55, 56, 57, 65, 66, 67, 68, 69, 70] (andI .u8 y1 15)).bind fun y4 =>
  (catL (out : List Int) [y3, y4]).bind fun y5 =>
  p_valueText_17 k y5 x35 x36 (w64 (x37 + 1)))
  ((catL (out : List Int) [39]).bind fun y6 =>
  some (textT y6)) := by kernel_rfl
theorem r_typeText_eq (k : Nat) (t : DataType) : r_typeText (k + 1) t =
  (rd ([[67, 72, 65, 82], [80, 65, 67, 75, 69, 68], [90, 79, 78, 69, 68], [66, 73, 78, 65, 82, 89]] : List Str) t.1).bind fun y1 =>
  bsel (decide (t.1 = 0))
  ((catL (y1 : Str) [40]).bind fun y2 =>
  (b_Digits k t.2.1).bind fun y3 =>
  (catL (y2 : Str) y3).bind fun y4 =>
  (catL (y4 : Str) [41]).bind fun y5 =>
  some y5)
  ((catL (y1 : Str) [40]).bind fun y6 =>
  (b_Digits k t.2.1).bind fun y7 =>
  (catL (y6 : Str) y7).bind fun y8 =>
  (catL (y8 : Str) [44]).bind fun y9 =>
  (b_Digits k t.2.2.1).bind fun y10 =>
  (catL (y9 : Str) y10).bind fun y11 =>
  (catL (y11 : Str) [41]).bind fun y12 =>
  some y12) := by kernel_rfl
theorem p_read_1_eq (k : Nat) (a : Str) : p_read_1 (k + 1) a =
  (p_isName k a).bind fun y1 =>
  some (nt y1) := by kernel_rfl
theorem r_IsScalar_eq (k : Nat) (kind : Int) : r_IsScalar (k + 1) kind =
  some (bsel (bsel (decide (kind = 0)) true (decide (kind = 1))) true (decide (kind = 2))) := by kernel_rfl
theorem p_first_eq (k : Nat) (l : List Int) : p_first (k + 1) l =
  p_first_5 k l (l.length : Int) 0 := by kernel_rfl
theorem p_first_5_eq (k : Nat) (x5 : List Int) (x6 : Int) (x7 : Int) : p_first_5 (k + 1) x5 x6 x7 =
  bsel (decide (x7 < x6))
  ((rd x5 x7).bind fun y1 =>
  bsel (!decide (y1 = 0))
  (some y1)
  (p_first_5 k x5 x6 (w64 (x7 + 1))))
  (some 0) := by kernel_rfl
theorem p_layout_eq (k : Nat) (x0 : List MiOperand) : p_layout (k + 1) x0 =
  (x_Repeat k ([(-1)] : List Int) (x0.length : Int)).bind fun y1 =>
  p_layout_9 k x0 y1 0 x0 (x0.length : Int) 0 := by kernel_rfl
theorem p_layout_9_eq (k : Nat) (x0 : List MiOperand) (x4 : List Int) (x5 : Int) (x16 : List MiOperand) (x17 : Int) (x18 : Int) : p_layout_9 (k + 1) x0 x4 x5 x16 x17 x18 =
  bsel (decide (x18 < x17))
  ((rd x16 x18).bind fun y1 =>
  bsel (decide (y1.2.1 = 3))
  ((rd x4 x18).bind fun y2 =>
  p_layout_9 k x0 (List.set x4 x18.toNat x5) (w64 (x5 + 16)) x16 x17 (w64 (x18 + 1)))
  (p_layout_9 k x0 x4 x5 x16 x17 (w64 (x18 + 1))))
  (p_layout_21 k x0 x4 x5 x0 (x0.length : Int) 0) := by kernel_rfl
theorem p_layout_21_eq (k : Nat) (x0 : List MiOperand) (x4 : List Int) (x5 : Int) (x33 : List MiOperand) (x34 : Int) (x35 : Int) : p_layout_21 (k + 1) x0 x4 x5 x33 x34 x35 =
  bsel (decide (x35 < x34))
  ((rd x33 x35).bind fun y1 =>
  bsel (decide (y1.2.1 = 0))
  ((p_size k y1).bind fun y2 =>
  (rd x4 x35).bind fun y3 =>
  p_layout_21 k x0 (List.set x4 x35.toNat x5) (w64 (x5 + y2)) x33 x34 (w64 (x35 + 1)))
  (p_layout_21 k x0 x4 x5 x33 x34 (w64 (x35 + 1))))
  (p_layout_33 k x0 x4 x5 x0 (x0.length : Int) 0) := by kernel_rfl
theorem p_layout_33_eq (k : Nat) (x0 : List MiOperand) (x4 : List Int) (x5 : Int) (x52 : List MiOperand) (x53 : Int) (x54 : Int) : p_layout_33 (k + 1) x0 x4 x5 x52 x53 x54 =
  bsel (decide (x54 < x53))
  ((rd x52 x54).bind fun y1 =>
  bsel (decide (y1.2.1 = 1))
  ((p_named k x0 y1.2.2.2.2.1).bind fun y2 =>
  (rd x4 y2).bind fun y3 =>
  (rd x4 x54).bind fun y4 =>
  p_layout_33 k x0 (List.set x4 x54.toNat (w64 (y3 + y1.2.2.2.2.2.1))) x5 x52 x53 (w64 (x54 + 1)))
  (p_layout_33 k x0 x4 x5 x52 x53 (w64 (x54 + 1))))
  ((quoI .i64 (w64 ((w64 (x5 + 16)) - 1)) 16).bind fun y5 =>
  some (x4, y5)) := by kernel_rfl
theorem p_monitorErr_eq (k : Nat) (p : MiProgram) (m : MiMonitor) : p_monitorErr (k + 1) p m =
  (bsel (bsel (bsel (decide (0 ≤ m.1)) (decide (m.1 < m.2.1)) false) (decide (m.2.1 ≤ (p.2.1.length : Int))) false) (p_in k m.2.2.1 0 999) (some false)).bind fun y1 =>
  (bsel (bsel (bsel (bsel (decide (0 ≤ m.1)) (decide (m.1 < m.2.1)) false) (decide (m.2.1 ≤ (p.2.1.length : Int))) false) y1 false) (p_in k m.2.2.2.1 0 (w64 ((p.2.1.length : Int) - 1))) (some false)).bind fun y2 =>
  (p_cond k (nt (bsel (bsel (bsel (bsel (decide (0 ≤ m.1)) (decide (m.1 < m.2.1)) false) (decide (m.2.1 ≤ (p.2.1.length : Int))) false) y1 false) y2 false)) 3).bind fun y3 =>
  some y3 := by kernel_rfl
theorem p_valueOf_eq (k : Nat) (x0 : DataType) (x1 : Str) : p_valueOf (k + 1) x0 x1 =
  bsel (!decide (x0.1 = 0))
  ((n_ParseNumber k x1).bind fun y1 =>
  some ((y1.1.1, [], ()), bsel (decide (y1.2.2 = 0)) (decide (y1.1.2.1 = x0.2.2.1)) false))
  ((s_HasPrefix k x1 ([88] : Str)).bind fun y2 =>
  (s_TrimPrefix k x1 ([88] : Str)).bind fun y3 =>
  (bsel (!(decide ((y3.length : Int) < 2))) (rdb y3 0) (some 0)).bind fun y4 =>
  (bsel (!(bsel (decide ((y3.length : Int) < 2)) true (!decide (y4 = 39)))) (rdb y3 (w64 ((y3.length : Int) - 1))) (some 0)).bind fun y5 =>
  bsel (bsel (bsel (decide ((y3.length : Int) < 2)) true (!decide (y4 = 39))) true (!decide (y5 = 39)))
  (some ((0, [], ()), false))
  ((subL (y3 : Str) 1 (w64 ((y3.length : Int) - 1))).bind fun y6 =>
  bsel y2
  ((p_bytesOf k y6).bind fun y7 =>
  some ((0, y7.1, ()), y7.2))
  ((s_ReplaceAll k y6 ([39, 39] : Str) ([39] : Str)).bind fun y8 =>
  some ((0, y8, ()), true)))) := by kernel_rfl
theorem p_named_1_eq (k : Nat) (o : MiOperand) (b0_0 : Str) : p_named_1 (k + 1) o b0_0 =
  some (eqS o.1 b0_0, b0_0) := by kernel_rfl
theorem b_IsDigit_eq (k : Nat) (c : Int) : b_IsDigit (k + 1) c =
  some (bsel (decide (48 ≤ c)) (decide (c ≤ 57)) false) := by kernel_rfl
theorem q_Most_eq (k : Nat) (t : DataType) : q_Most (k + 1) t =
  (b_Power k t.2.1).bind fun y1 =>
  some (w64 (y1 - 1)) := by kernel_rfl
theorem n_CheckValue_eq (k : Nat) (t : DataType) (v : Val) : n_CheckValue (k + 1) t v =
  (n_CheckType k t).bind fun y1 =>
  (n_cond k (decide (t.1 = 4)) 17).bind fun y2 =>
  (n_first k ([y1, y2] : List Int)).bind fun y3 =>
  bsel (!decide (y3 = 0))
  (some y3)
  (bsel (decide (t.1 = 0))
  ((n_cond k (!decide (v.1 = 0)) 5).bind fun y4 =>
  (n_cond k (!decide ((v.2.1.length : Int) = t.2.1)) 18).bind fun y5 =>
  (n_first k ([y4, y5] : List Int)).bind fun y6 =>
  some y6)
  ((n_power k t.2.1).bind fun y7 =>
  (n_cond k (!eqS v.2.1 []) 5).bind fun y8 =>
  (n_in k v.1 (negI .i64 (w64 (y7 - 1))) (w64 (y7 - 1))).bind fun y9 =>
  (n_cond k (nt y9) 19).bind fun y10 =>
  (n_first k ([y8, y10] : List Int)).bind fun y11 =>
  some y11)) := by kernel_rfl
theorem n_first_eq (k : Nat) (l : List Int) : n_first (k + 1) l =
  n_first_5 k l (l.length : Int) 0 := by kernel_rfl
theorem n_first_5_eq (k : Nat) (x5 : List Int) (x6 : Int) (x7 : Int) : n_first_5 (k + 1) x5 x6 x7 =
  bsel (decide (x7 < x6))
  ((rd x5 x7).bind fun y1 =>
  bsel (!decide (y1 = 0))
  (some y1)
  (n_first_5 k x5 x6 (w64 (x7 + 1))))
  (some 0) := by kernel_rfl
theorem x_IndexFunc_eq (k : Nat) (s : List MiOperand) (b0_0 : Str) : x_IndexFunc (k + 1) s b0_0 =
  x_IndexFunc_5 k s (s.length : Int) 0 b0_0 := by kernel_rfl
theorem x_IndexFunc_5_eq (k : Nat) (s : List MiOperand) (x7 : Int) (x8 : Int) (b0_0 : Str) : x_IndexFunc_5 (k + 1) s x7 x8 b0_0 =
  bsel (decide (x8 < x7))
  ((rd s x8).bind fun y1 =>
  (p_named_1 k y1 b0_0).bind fun y2 =>
  bsel y2.1
  (some (x8, y2.2))
  (x_IndexFunc_5 k s x7 (w64 (x8 + 1)) y2.2))
  (some ((-1), b0_0)) := by kernel_rfl
end Mini

/- What the functions answer: equations, by the kernel. -/
namespace Mini
open Go
variable [MX]
set_option maxRecDepth 100000
theorem r_Format_eq (k : Nat) (x0 : MiProgram) : r_Format (k + 1) x0 =
  r_Format_7 k ([] : Str) 0 x0.1 x0.2.1 x0.2.2.1 := by kernel_rfl
theorem r_Format_7_eq (k : Nat) (x3 : Str) (x4 : Int) (b0_0 : List MiOperand) (b0_1 : List MiInstruction) (b0_2 : List MiMonitor) : r_Format_7 (k + 1) x3 x4 b0_0 b0_1 b0_2 =
  bsel (decide (x4 < (b0_0.length : Int)))
  ((rd b0_0 x4).bind fun y1 =>
  (r_operandText k y1).bind fun y2 =>
  (catL (x3 : Str) y2).bind fun y3 =>
  (catL (y3 : Str) [59, 10]).bind fun y4 =>
  r_Format_7 k y4 (w64 (x4 + 1)) b0_0 b0_1 b0_2)
  (r_Format_15 k x3 0 b0_0 b0_1 b0_2) := by kernel_rfl
theorem r_Format_15_eq (k : Nat) (x3 : Str) (x5 : Int) (b0_0 : List MiOperand) (b0_1 : List MiInstruction) (b0_2 : List MiMonitor) : r_Format_15 (k + 1) x3 x5 b0_0 b0_1 b0_2 =
  bsel (decide (x5 < (b0_1.length : Int)))
  ((rd b0_1 x5).bind fun y1 =>
  (r_names k).bind fun y2 =>
  (rd y2 y1.1).bind fun y3 =>
  (catL (x3 : Str) y3).bind fun y4 =>
  r_Format_25 k y4 x5 0 b0_0 b0_1 b0_2 y1.1 y1.2.1)
  (r_Format_41 k x3 0 b0_0 b0_1 b0_2) := by kernel_rfl
theorem r_Format_25_eq (k : Nat) (x3 : Str) (x5 : Int) (x7 : Int) (b0_0 : List MiOperand) (b0_1 : List MiInstruction) (b0_2 : List MiMonitor) (b1_0 : Int) (b1_1 : List Int) : r_Format_25 (k + 1) x3 x5 x7 b0_0 b0_1 b0_2 b1_0 b1_1 =
  bsel (decide (x7 < (b1_1.length : Int)))
  (bsel (decide (x7 = 0))
  (r_Format_34 k x3 x5 x7 ([32] : Str) b0_0 b0_1 b0_2 b1_0 b1_1)
  (r_Format_34 k x3 x5 x7 ([44] : Str) b0_0 b0_1 b0_2 b1_0 b1_1))
  ((catL (x3 : Str) [59, 10]).bind fun y1 =>
  r_Format_15 k y1 (w64 (x5 + 1)) b0_0 b0_1 b0_2) := by kernel_rfl
theorem r_Format_34_eq (k : Nat) (x3 : Str) (x5 : Int) (x7 : Int) (x8 : Str) (b0_0 : List MiOperand) (b0_1 : List MiInstruction) (b0_2 : List MiMonitor) (b1_0 : Int) (b1_1 : List Int) : r_Format_34 (k + 1) x3 x5 x7 x8 b0_0 b0_1 b0_2 b1_0 b1_1 =
  (catL (x3 : Str) x8).bind fun y1 =>
  (rd b1_1 x7).bind fun y2 =>
  (rd b0_0 y2).bind fun y3 =>
  (catL (y1 : Str) y3.1).bind fun y4 =>
  r_Format_25 k y4 x5 (w64 (x7 + 1)) b0_0 b0_1 b0_2 b1_0 b1_1 := by kernel_rfl
theorem r_Format_41_eq (k : Nat) (x3 : Str) (x9 : Int) (b0_0 : List MiOperand) (b0_1 : List MiInstruction) (b0_2 : List MiMonitor) : r_Format_41 (k + 1) x3 x9 b0_0 b0_1 b0_2 =
  bsel (decide (x9 < (b0_2.length : Int)))
  ((rd b0_2 x9).bind fun y1 =>
  (catL (x3 : Str) [77, 79, 78, 73, 84, 79, 82, 32]).bind fun y2 =>
  (b_Digits k y1.1).bind fun y3 =>
  (catL (y2 : Str) y3).bind fun y4 =>
  (catL (y4 : Str) [32]).bind fun y5 =>
  (b_Digits k y1.2.1).bind fun y6 =>
  (catL (y5 : Str) y6).bind fun y7 =>
  (catL (y7 : Str) [32]).bind fun y8 =>
  (b_Digits k y1.2.2.1).bind fun y9 =>
  (catL (y8 : Str) y9).bind fun y10 =>
  (catL (y10 : Str) [32]).bind fun y11 =>
  (b_Digits k y1.2.2.2.1).bind fun y12 =>
  (catL (y11 : Str) y12).bind fun y13 =>
  (catL (y13 : Str) [59, 10]).bind fun y14 =>
  r_Format_41 k y14 (w64 (x9 + 1)) b0_0 b0_1 b0_2)
  (some x3) := by kernel_rfl
theorem p_ParseProgram_eq (k : Nat) (x0 : Str) : p_ParseProgram (k + 1) x0 =
  bsel (decide (6000 < (x0.length : Int)))
  (some (([], [], [], ()), 0, 2))
  (p_ParseProgram_11 k x0 ([] : List Line) 0 1 ([] : List MiOperand) ([] : List MiInstruction) ([] : List MiMonitor)) := by kernel_rfl
theorem p_ParseProgram_11_eq (k : Nat) (x0 : Str) (x5 : List Line) (x6 : Int) (x7 : Int) (b0_0 : List MiOperand) (b0_1 : List MiInstruction) (b0_2 : List MiMonitor) : p_ParseProgram_11 (k + 1) x0 x5 x6 x7 b0_0 b0_1 b0_2 =
  bsel (decide (x6 < (x0.length : Int)))
  ((subL (x0 : Str) x6 (x0.length : Int)).bind fun y1 =>
  (s_Cut k y1 ([59, 10] : Str)).bind fun y2 =>
  (subL (x0 : Str) (w64 (x6 + (y2.1.length : Int))) (x0.length : Int)).bind fun y3 =>
  (s_HasPrefix k y3 ([59, 10] : Str)).bind fun y4 =>
  (p_read k y2.1).bind fun y5 =>
  bsel (bsel (bsel (nt y5.2) true (nt y4)) true (decide (y5.1.2.1 < x7)))
  (some (([], [], [], ()), x6, 8))
  ((catL (x5 : List Line) [(x6, y5.1.2)]).bind fun y6 =>
  p_ParseProgram_11 k x0 y6 (w64 (x6 + (w64 ((y2.1.length : Int) + 2)))) y5.1.2.1 b0_0 b0_1 b0_2))
  ((p_programOf k x5).bind fun y7 =>
  some (y7.1, y7.2.1, y7.2.2)) := by kernel_rfl
theorem b_Digits_eq (k : Nat) (n : Int) : b_Digits (k + 1) n =
  bsel (decide (n < (-9)))
  ((quoI .i64 n 10).bind fun y1 =>
  (b_Digits k (negI .i64 y1)).bind fun y2 =>
  (catL ([45] : Str) y2).bind fun y3 =>
  (remI n 10).bind fun y4 =>
  (b_Digits k (negI .i64 y4)).bind fun y5 =>
  (catL (y3 : Str) y5).bind fun y6 =>
  some y6)
  (bsel (decide (n < 0))
  ((b_Digits k (negI .i64 n)).bind fun y7 =>
  (catL ([45] : Str) y7).bind fun y8 =>
  some y8)
  (bsel (decide (n < 10))
  (some (textT [IntKind.u8.wrap (w64 (48 + n))]))
  ((quoI .i64 n 10).bind fun y9 =>
  (b_Digits k y9).bind fun y10 =>
  (remI n 10).bind fun y11 =>
  (catL (y10 : Str) (textT [IntKind.u8.wrap (w64 (48 + y11))])).bind fun y12 =>
  some y12))) := by kernel_rfl
theorem r_Layout_eq (k : Nat) (x0 : MiProgram) : r_Layout (k + 1) x0 =
  (mkL (α := Int) (x0.1.length : Int) (x0.1.length : Int) 0).bind fun y1 =>
  r_Layout_9 k y1 0 0 x0.1 x0.2.1 x0.2.2.1 := by kernel_rfl
theorem r_Layout_9_eq (k : Nat) (x4 : List Int) (x5 : Int) (x6 : Int) (b0_0 : List MiOperand) (b0_1 : List MiInstruction) (b0_2 : List MiMonitor) : r_Layout_9 (k + 1) x4 x5 x6 b0_0 b0_1 b0_2 =
  bsel (decide (x6 < (b0_0.length : Int)))
  ((rd x4 x6).bind fun y1 =>
  (rd b0_0 x6).bind fun y2 =>
  bsel (decide (y2.2.1 = 3))
  ((rd (List.set x4 x6.toNat (-1)) x6).bind fun y3 =>
  r_Layout_9 k (List.set (List.set x4 x6.toNat (-1)) x6.toNat x5) (w64 (x5 + 16)) (w64 (x6 + 1)) b0_0 b0_1 b0_2)
  (r_Layout_9 k (List.set x4 x6.toNat (-1)) x5 (w64 (x6 + 1)) b0_0 b0_1 b0_2))
  (r_Layout_23 k x4 x5 0 b0_0 b0_1 b0_2) := by kernel_rfl
theorem r_Layout_23_eq (k : Nat) (x4 : List Int) (x5 : Int) (x7 : Int) (b0_0 : List MiOperand) (b0_1 : List MiInstruction) (b0_2 : List MiMonitor) : r_Layout_23 (k + 1) x4 x5 x7 b0_0 b0_1 b0_2 =
  bsel (decide (x7 < (b0_0.length : Int)))
  ((rd b0_0 x7).bind fun y1 =>
  bsel (decide (y1.2.1 = 0))
  ((rd x4 x7).bind fun y2 =>
  (b_Size k y1.2.2.1).bind fun y3 =>
  r_Layout_23 k (List.set x4 x7.toNat x5) (w64 (x5 + y3)) (w64 (x7 + 1)) b0_0 b0_1 b0_2)
  (r_Layout_23 k x4 x5 (w64 (x7 + 1)) b0_0 b0_1 b0_2))
  (r_Layout_37 k x4 x5 0 b0_0 b0_1 b0_2) := by kernel_rfl
theorem r_Layout_37_eq (k : Nat) (x4 : List Int) (x5 : Int) (x9 : Int) (b0_0 : List MiOperand) (b0_1 : List MiInstruction) (b0_2 : List MiMonitor) : r_Layout_37 (k + 1) x4 x5 x9 b0_0 b0_1 b0_2 =
  bsel (decide (x9 < (b0_0.length : Int)))
  ((rd b0_0 x9).bind fun y1 =>
  bsel (decide (y1.2.1 = 1))
  ((r_At k (b0_0, b0_1, b0_2, ()) y1.2.2.2.2.1).bind fun y2 =>
  (rd x4 y2).bind fun y3 =>
  (rd x4 x9).bind fun y4 =>
  r_Layout_37 k (List.set x4 x9.toNat (w64 (y3 + y1.2.2.2.2.2.1))) x5 (w64 (x9 + 1)) b0_0 b0_1 b0_2)
  (r_Layout_37 k x4 x5 (w64 (x9 + 1)) b0_0 b0_1 b0_2))
  ((quoI .i64 (w64 ((w64 (x5 + 16)) - 1)) 16).bind fun y5 =>
  some (x4, y5)) := by kernel_rfl
theorem p_declared_eq (k : Nat) (x0 : Str) : p_declared (k + 1) x0 =
  (s_Cut k x0 ([32] : Str)).bind fun y1 =>
  (s_Cut k y1.2.1 ([32] : Str)).bind fun y2 =>
  bsel (eqS y1.1 [80, 84, 82])
  (some ((y2.1, 3, (0, 0, 0, ()), (0, [], ()), [], 0, 0, ()), nt y2.2.2))
  (bsel (eqS y1.1 [76, 65, 66, 69, 76])
  ((p_natural k y2.2.1).bind fun y3 =>
  some ((y2.1, 5, (0, 0, 0, ()), (0, [], ()), [], 0, y3.1, ()), y3.2))
  (bsel (eqS y1.1 [68, 68])
  (bsel (eqS y1.1 [68, 68])
  (p_declared_32 k y1.1 y2.2.1 ([] : Str) 0 0 0 0 0 ([] : Str) ([] : Str) 0 0 y2.1 0 0 0 0 0 ([] : Str) ([] : Str) 0 0)
  (some ((y2.1, 0, (0, 0, 0, ()), (0, [], ()), [], 0, 0, ()), false)))
  (bsel (eqS y1.1 [67, 79, 78])
  (p_declared_32 k y1.1 y2.2.1 ([] : Str) 0 0 0 0 0 ([] : Str) ([] : Str) 0 0 y2.1 0 0 0 0 0 ([] : Str) ([] : Str) 0 0)
  (some ((y2.1, 0, (0, 0, 0, ()), (0, [], ()), [], 0, 0, ()), false))))) := by kernel_rfl
theorem p_declared_32_eq (k : Nat) (x4 : Str) (x5 : Str) (b0_0 : Str) (b0_1 : Int) (b0_2 : Int) (b0_3 : Int) (b0_4 : Int) (b0_5 : Int) (b0_6 : Str) (b0_7 : Str) (b0_8 : Int) (b0_9 : Int) (b1_0 : Str) (b1_1 : Int) (b1_2 : Int) (b1_3 : Int) (b1_4 : Int) (b1_5 : Int) (b1_6 : Str) (b1_7 : Str) (b1_8 : Int) (b1_9 : Int) : p_declared_32 (k + 1) x4 x5 b0_0 b0_1 b0_2 b0_3 b0_4 b0_5 b0_6 b0_7 b0_8 b0_9 b1_0 b1_1 b1_2 b1_3 b1_4 b1_5 b1_6 b1_7 b1_8 b1_9 =
  (s_Cut k x5 ([32] : Str)).bind fun y1 =>
  (p_typeOf k y1.1).bind fun y2 =>
  (s_Cut k y1.2.1 ([40] : Str)).bind fun y3 =>
  (s_CutSuffix k y3.2.1 ([41] : Str)).bind fun y4 =>
  bsel (bsel (nt y2.2) true (nt y4.2))
  (some ((b1_0, b1_1, y2.1, (b1_5, b1_6, ()), b1_7, b1_8, b1_9, ()), false))
  (bsel (eqS y3.1 [73, 78, 73, 84])
  (bsel (eqS x4 [67, 79, 78])
  (p_declared_52 k y4.1 b0_0 b0_1 b0_2 b0_3 b0_4 b0_5 b0_6 b0_7 b0_8 b0_9 b1_0 4 y2.1.1 y2.1.2.1 y2.1.2.2.1 b1_5 b1_6 b1_7 b1_8 b1_9 y2.1.1 y2.1.2.1 y2.1.2.2.1)
  (p_declared_52 k y4.1 b0_0 b0_1 b0_2 b0_3 b0_4 b0_5 b0_6 b0_7 b0_8 b0_9 b1_0 b1_1 y2.1.1 y2.1.2.1 y2.1.2.2.1 b1_5 b1_6 b1_7 b1_8 b1_9 y2.1.1 y2.1.2.1 y2.1.2.2.1))
  ((s_Cut k y4.1 ([44] : Str)).bind fun y5 =>
  (p_natural k y5.2.1).bind fun y6 =>
  bsel (eqS y3.1 [68, 69, 70])
  (p_declared_72 k x4 y6.2 y5.1 b0_0 b0_1 b0_2 b0_3 b0_4 b0_5 b0_6 b0_7 b0_8 b0_9 b1_0 1 y2.1.1 y2.1.2.1 y2.1.2.2.1 b1_5 b1_6 y5.1 y6.1 b1_9)
  (bsel (eqS y3.1 [66, 65, 83])
  (p_declared_72 k x4 y6.2 y5.1 b0_0 b0_1 b0_2 b0_3 b0_4 b0_5 b0_6 b0_7 b0_8 b0_9 b1_0 2 y2.1.1 y2.1.2.1 y2.1.2.2.1 b1_5 b1_6 y5.1 y6.1 b1_9)
  (p_declared_72 k x4 y6.2 y5.1 b0_0 b0_1 b0_2 b0_3 b0_4 b0_5 b0_6 b0_7 b0_8 b0_9 b1_0 b1_1 y2.1.1 y2.1.2.1 y2.1.2.2.1 b1_5 b1_6 y5.1 y6.1 b1_9)))) := by kernel_rfl
theorem p_declared_52_eq (k : Nat) (x16 : Str) (b0_0 : Str) (b0_1 : Int) (b0_2 : Int) (b0_3 : Int) (b0_4 : Int) (b0_5 : Int) (b0_6 : Str) (b0_7 : Str) (b0_8 : Int) (b0_9 : Int) (b1_0 : Str) (b1_1 : Int) (b1_2 : Int) (b1_3 : Int) (b1_4 : Int) (b1_5 : Int) (b1_6 : Str) (b1_7 : Str) (b1_8 : Int) (b1_9 : Int) (b2_0 : Int) (b2_1 : Int) (b2_2 : Int) : p_declared_52 (k + 1) x16 b0_0 b0_1 b0_2 b0_3 b0_4 b0_5 b0_6 b0_7 b0_8 b0_9 b1_0 b1_1 b1_2 b1_3 b1_4 b1_5 b1_6 b1_7 b1_8 b1_9 b2_0 b2_1 b2_2 =
  (p_valueOf k (b2_0, b2_1, b2_2, ()) x16).bind fun y1 =>
  some ((b1_0, b1_1, (b1_2, b1_3, b1_4, ()), y1.1, b1_7, b1_8, b1_9, ()), y1.2) := by kernel_rfl
theorem p_declared_72_eq (k : Nat) (x4 : Str) (x14 : Bool) (x19 : Str) (b0_0 : Str) (b0_1 : Int) (b0_2 : Int) (b0_3 : Int) (b0_4 : Int) (b0_5 : Int) (b0_6 : Str) (b0_7 : Str) (b0_8 : Int) (b0_9 : Int) (b1_0 : Str) (b1_1 : Int) (b1_2 : Int) (b1_3 : Int) (b1_4 : Int) (b1_5 : Int) (b1_6 : Str) (b1_7 : Str) (b1_8 : Int) (b1_9 : Int) : p_declared_72 (k + 1) x4 x14 x19 b0_0 b0_1 b0_2 b0_3 b0_4 b0_5 b0_6 b0_7 b0_8 b0_9 b1_0 b1_1 b1_2 b1_3 b1_4 b1_5 b1_6 b1_7 b1_8 b1_9 =
  (bsel (bsel (bsel x14 (eqS x4 [68, 68]) false) (!decide (b1_1 = 0)) false) (p_isName k x19) (some false)).bind fun y1 =>
  some ((b1_0, b1_1, (b1_2, b1_3, b1_4, ()), (b1_5, b1_6, ()), b1_7, b1_8, b1_9, ()), bsel (bsel (bsel x14 (eqS x4 [68, 68]) false) (!decide (b1_1 = 0)) false) y1 false) := by kernel_rfl
theorem p_isName_eq (k : Nat) (x0 : Str) : p_isName (k + 1) x0 =
  bsel (bsel (eqS x0 []) true (decide (10 < (x0.length : Int))))
  (some false)
  ((bytesL x0).bind fun y1 =>
  p_isName_9 k y1 (y1.length : Int) 0) := by kernel_rfl
theorem p_isName_9_eq (k : Nat) (x15 : List Int) (x16 : Int) (x17 : Int) : p_isName_9 (k + 1) x15 x16 x17 =
  bsel (decide (x17 < x16))
  ((rd x15 x17).bind fun y1 =>
  bsel (bsel (nt (bsel (bsel (bsel (bsel (decide (65 ≤ y1)) (decide (y1 ≤ 90)) false) true (decide (y1 = 35))) true (decide (y1 = 36))) true (decide (y1 = 64)))) (bsel (decide (x17 = 0)) true (nt (bsel (bsel (bsel (decide (48 ≤ y1)) (decide (y1 ≤ 57)) false) true (decide (y1 = 95))) true (decide (y1 = 46))))) false)
  (some false)
  (p_isName_9 k x15 x16 (w64 (x17 + 1))))
  (some true) := by kernel_rfl
theorem x_Index_eq (k : Nat) (s : List Str) (v : Str) : x_Index (k + 1) s v =
  x_Index_5 k s v (s.length : Int) 0 := by kernel_rfl
theorem x_Index_5_eq (k : Nat) (s : List Str) (v : Str) (x7 : Int) (x8 : Int) : x_Index_5 (k + 1) s v x7 x8 =
  bsel (decide (x8 < x7))
  ((rd s x8).bind fun y1 =>
  bsel (eqS v y1)
  (some x8)
  (x_Index_5 k s v x7 (w64 (x8 + 1))))
  (some (-1)) := by kernel_rfl
theorem p_named_eq (k : Nat) (l : List MiOperand) (name_ : Str) : p_named (k + 1) l name_ =
  (x_IndexFunc k l name_).bind fun y1 =>
  some y1.1 := by kernel_rfl
theorem r_At_eq (k : Nat) (p : MiProgram) (name_ : Str) : r_At (k + 1) p name_ =
  r_At_5 k name_ 0 p.1 p.2.1 p.2.2.1 := by kernel_rfl
theorem r_At_5_eq (k : Nat) (name_ : Str) (i : Int) (b0_0 : List MiOperand) (b0_1 : List MiInstruction) (b0_2 : List MiMonitor) : r_At_5 (k + 1) name_ i b0_0 b0_1 b0_2 =
  bsel (decide (i < (b0_0.length : Int)))
  ((rd b0_0 i).bind fun y1 =>
  bsel (eqS y1.1 name_)
  (some i)
  (r_At_5 k name_ (w64 (i + 1)) b0_0 b0_1 b0_2))
  (some (-1)) := by kernel_rfl
theorem r_hasExtra_eq (k : Nat) (x0 : MiOperand) : r_hasExtra (k + 1) x0 =
  bsel (decide (x0.2.1 = 0))
  (bsel (decide (x0.2.1 = 0))
  (some (bsel (nt (bsel (eqS x0.2.2.2.2.1 []) (decide (x0.2.2.2.2.2.1 = 0)) false)) true (!decide (x0.2.2.2.2.2.2.1 = 0))))
  (bsel (decide (x0.2.1 = 1))
  (bsel (decide (x0.2.1 = 1))
  (some (bsel (nt (eqI x0.2.2.2.1.1 0 && (eqS x0.2.2.2.1.2.1 [] && true))) true (!decide (x0.2.2.2.2.2.2.1 = 0))))
  (bsel (decide (x0.2.1 = 3))
  (some (bsel (bsel (bsel (nt (eqI x0.2.2.1.1 0 && (eqI x0.2.2.1.2.1 0 && (eqI x0.2.2.1.2.2.1 0 && true)))) true (nt (eqI x0.2.2.2.1.1 0 && (eqS x0.2.2.2.1.2.1 [] && true)))) true (nt (bsel (eqS x0.2.2.2.2.1 []) (decide (x0.2.2.2.2.2.1 = 0)) false))) true (!decide (x0.2.2.2.2.2.2.1 = 0))))
  (r_hasExtra_22 k (eqI x0.2.2.2.1.1 0 && (eqS x0.2.2.2.1.2.1 [] && true)) (bsel (eqS x0.2.2.2.2.1 []) (decide (x0.2.2.2.2.2.1 = 0)) false) x0.1 x0.2.1 x0.2.2.1.1 x0.2.2.1.2.1 x0.2.2.1.2.2.1 x0.2.2.2.1.1 x0.2.2.2.1.2.1 x0.2.2.2.2.1 x0.2.2.2.2.2.1 x0.2.2.2.2.2.2.1)))
  (bsel (decide (x0.2.1 = 2))
  (some (bsel (nt (eqI x0.2.2.2.1.1 0 && (eqS x0.2.2.2.1.2.1 [] && true))) true (!decide (x0.2.2.2.2.2.2.1 = 0))))
  (bsel (decide (x0.2.1 = 3))
  (some (bsel (bsel (bsel (nt (eqI x0.2.2.1.1 0 && (eqI x0.2.2.1.2.1 0 && (eqI x0.2.2.1.2.2.1 0 && true)))) true (nt (eqI x0.2.2.2.1.1 0 && (eqS x0.2.2.2.1.2.1 [] && true)))) true (nt (bsel (eqS x0.2.2.2.2.1 []) (decide (x0.2.2.2.2.2.1 = 0)) false))) true (!decide (x0.2.2.2.2.2.2.1 = 0))))
  (r_hasExtra_22 k (eqI x0.2.2.2.1.1 0 && (eqS x0.2.2.2.1.2.1 [] && true)) (bsel (eqS x0.2.2.2.2.1 []) (decide (x0.2.2.2.2.2.1 = 0)) false) x0.1 x0.2.1 x0.2.2.1.1 x0.2.2.1.2.1 x0.2.2.1.2.2.1 x0.2.2.2.1.1 x0.2.2.2.1.2.1 x0.2.2.2.2.1 x0.2.2.2.2.2.1 x0.2.2.2.2.2.2.1)))))
  (bsel (decide (x0.2.1 = 4))
  (some (bsel (nt (bsel (eqS x0.2.2.2.2.1 []) (decide (x0.2.2.2.2.2.1 = 0)) false)) true (!decide (x0.2.2.2.2.2.2.1 = 0))))
  (bsel (decide (x0.2.1 = 1))
  (bsel (decide (x0.2.1 = 1))
  (some (bsel (nt (eqI x0.2.2.2.1.1 0 && (eqS x0.2.2.2.1.2.1 [] && true))) true (!decide (x0.2.2.2.2.2.2.1 = 0))))
  (bsel (decide (x0.2.1 = 3))
  (some (bsel (bsel (bsel (nt (eqI x0.2.2.1.1 0 && (eqI x0.2.2.1.2.1 0 && (eqI x0.2.2.1.2.2.1 0 && true)))) true (nt (eqI x0.2.2.2.1.1 0 && (eqS x0.2.2.2.1.2.1 [] && true)))) true (nt (bsel (eqS x0.2.2.2.2.1 []) (decide (x0.2.2.2.2.2.1 = 0)) false))) true (!decide (x0.2.2.2.2.2.2.1 = 0))))
  (r_hasExtra_22 k (eqI x0.2.2.2.1.1 0 && (eqS x0.2.2.2.1.2.1 [] && true)) (bsel (eqS x0.2.2.2.2.1 []) (decide (x0.2.2.2.2.2.1 = 0)) false) x0.1 x0.2.1 x0.2.2.1.1 x0.2.2.1.2.1 x0.2.2.1.2.2.1 x0.2.2.2.1.1 x0.2.2.2.1.2.1 x0.2.2.2.2.1 x0.2.2.2.2.2.1 x0.2.2.2.2.2.2.1)))
  (bsel (decide (x0.2.1 = 2))
  (some (bsel (nt (eqI x0.2.2.2.1.1 0 && (eqS x0.2.2.2.1.2.1 [] && true))) true (!decide (x0.2.2.2.2.2.2.1 = 0))))
  (bsel (decide (x0.2.1 = 3))
  (some (bsel (bsel (bsel (nt (eqI x0.2.2.1.1 0 && (eqI x0.2.2.1.2.1 0 && (eqI x0.2.2.1.2.2.1 0 && true)))) true (nt (eqI x0.2.2.2.1.1 0 && (eqS x0.2.2.2.1.2.1 [] && true)))) true (nt (bsel (eqS x0.2.2.2.2.1 []) (decide (x0.2.2.2.2.2.1 = 0)) false))) true (!decide (x0.2.2.2.2.2.2.1 = 0))))
  (r_hasExtra_22 k (eqI x0.2.2.2.1.1 0 && (eqS x0.2.2.2.1.2.1 [] && true)) (bsel (eqS x0.2.2.2.2.1 []) (decide (x0.2.2.2.2.2.1 = 0)) false) x0.1 x0.2.1 x0.2.2.1.1 x0.2.2.1.2.1 x0.2.2.1.2.2.1 x0.2.2.2.1.1 x0.2.2.2.1.2.1 x0.2.2.2.2.1 x0.2.2.2.2.2.1 x0.2.2.2.2.2.2.1))))) := by kernel_rfl
theorem r_hasExtra_22_eq (k : Nat) (x3 : Bool) (x4 : Bool) (b0_0 : Str) (b0_1 : Int) (b0_2 : Int) (b0_3 : Int) (b0_4 : Int) (b0_5 : Int) (b0_6 : Str) (b0_7 : Str) (b0_8 : Int) (b0_9 : Int) : r_hasExtra_22 (k + 1) x3 x4 b0_0 b0_1 b0_2 b0_3 b0_4 b0_5 b0_6 b0_7 b0_8 b0_9 =
  some (bsel (bsel (nt (eqI b0_2 0 && (eqI b0_3 0 && (eqI b0_4 0 && true)))) true (nt x3)) true (nt x4)) := by kernel_rfl
theorem b_Size_eq (k : Nat) (t : DataType) : b_Size (k + 1) t =
  bsel (decide (t.1 = 1))
  ((quoI .i64 t.2.1 2).bind fun y1 =>
  some (w64 (y1 + 1)))
  (bsel (decide (t.1 = 3))
  ((b_Count k (decide (t.2.1 = 9))).bind fun y2 =>
  some (w64 (2 + (w64 (2 * y2)))))
  (bsel (decide (t.1 = 4))
  (some 16)
  (some t.2.1))) := by kernel_rfl
theorem p_operandErr_eq (k : Nat) (x0 : MiProgram) (x1 : Int) : p_operandErr (k + 1) x0 x1 =
  (rd x0.1 x1).bind fun y1 =>
  (subL (x0.1 : List MiOperand) 0 x1).bind fun y2 =>
  (p_isName k y1.1).bind fun y3 =>
  (p_cond k (nt y3) 7).bind fun y4 =>
  (p_named k y2 y1.1).bind fun y5 =>
  (p_cond k (decide (0 ≤ y5)) 13).bind fun y6 =>
  (p_in k y1.2.1 0 5).bind fun y7 =>
  (p_cond k (nt y7) 4).bind fun y8 =>
  (p_kept k y1).bind fun y9 =>
  (p_cond k (nt (eqS y9.1 y1.1 && (eqI y9.2.1 y1.2.1 && ((eqI y9.2.2.1.1 y1.2.2.1.1 && (eqI y9.2.2.1.2.1 y1.2.2.1.2.1 && (eqI y9.2.2.1.2.2.1 y1.2.2.1.2.2.1 && true))) && ((eqI y9.2.2.2.1.1 y1.2.2.2.1.1 && (eqS y9.2.2.2.1.2.1 y1.2.2.2.1.2.1 && true)) && (eqS y9.2.2.2.2.1 y1.2.2.2.2.1 && (eqI y9.2.2.2.2.2.1 y1.2.2.2.2.2.1 && (eqI y9.2.2.2.2.2.2.1 y1.2.2.2.2.2.2.1 && true)))))))) 5).bind fun y10 =>
  (p_first k ([y4, y6, y8, y10] : List Int)).bind fun y11 =>
  bsel (!decide (y11 = 0))
  (some y11)
  ((p_isData k y1).bind fun y12 =>
  bsel y12
  ((n_CheckType k y1.2.2.1).bind fun y13 =>
  (p_cond k (decide (y1.2.2.1.1 = 4)) 17).bind fun y14 =>
  (p_first k ([y13, y14] : List Int)).bind fun y15 =>
  bsel (!decide (y15 = 0))
  (some y15)
  (p_operandErr_18 k y2 x0.1 x0.2.1 x0.2.2.1 y1.1 y1.2.1 y1.2.2.1.1 y1.2.2.1.2.1 y1.2.2.1.2.2.1 y1.2.2.2.1.1 y1.2.2.2.1.2.1 y1.2.2.2.2.1 y1.2.2.2.2.2.1 y1.2.2.2.2.2.2.1))
  (p_operandErr_18 k y2 x0.1 x0.2.1 x0.2.2.1 y1.1 y1.2.1 y1.2.2.1.1 y1.2.2.1.2.1 y1.2.2.1.2.2.1 y1.2.2.2.1.1 y1.2.2.2.1.2.1 y1.2.2.2.2.1 y1.2.2.2.2.2.1 y1.2.2.2.2.2.2.1)) := by kernel_rfl
theorem p_operandErr_18_eq (k : Nat) (x6 : List MiOperand) (b0_0 : List MiOperand) (b0_1 : List MiInstruction) (b0_2 : List MiMonitor) (b1_0 : Str) (b1_1 : Int) (b1_2 : Int) (b1_3 : Int) (b1_4 : Int) (b1_5 : Int) (b1_6 : Str) (b1_7 : Str) (b1_8 : Int) (b1_9 : Int) : p_operandErr_18 (k + 1) x6 b0_0 b0_1 b0_2 b1_0 b1_1 b1_2 b1_3 b1_4 b1_5 b1_6 b1_7 b1_8 b1_9 =
  bsel (decide (b1_1 = 0))
  (bsel (decide (b1_1 = 0))
  ((n_CheckValue k (b1_2, b1_3, b1_4, ()) (b1_5, b1_6, ())).bind fun y1 =>
  some y1)
  (bsel (decide (b1_1 = 1))
  (bsel (decide (b1_1 = 1))
  ((p_baseErr k (b1_0, b1_1, (b1_2, b1_3, b1_4, ()), (b1_5, b1_6, ()), b1_7, b1_8, b1_9, ()) x6).bind fun y2 =>
  some y2)
  (bsel (decide (b1_1 = 5))
  ((p_in k b1_9 0 (w64 ((b0_1.length : Int) - 1))).bind fun y3 =>
  (p_cond k (nt y3) 3).bind fun y4 =>
  some y4)
  (some 0)))
  (bsel (decide (b1_1 = 2))
  ((p_baseErr k (b1_0, b1_1, (b1_2, b1_3, b1_4, ()), (b1_5, b1_6, ()), b1_7, b1_8, b1_9, ()) x6).bind fun y5 =>
  some y5)
  (bsel (decide (b1_1 = 5))
  ((p_in k b1_9 0 (w64 ((b0_1.length : Int) - 1))).bind fun y6 =>
  (p_cond k (nt y6) 3).bind fun y7 =>
  some y7)
  (some 0)))))
  (bsel (decide (b1_1 = 4))
  ((n_CheckValue k (b1_2, b1_3, b1_4, ()) (b1_5, b1_6, ())).bind fun y8 =>
  some y8)
  (bsel (decide (b1_1 = 1))
  (bsel (decide (b1_1 = 1))
  ((p_baseErr k (b1_0, b1_1, (b1_2, b1_3, b1_4, ()), (b1_5, b1_6, ()), b1_7, b1_8, b1_9, ()) x6).bind fun y9 =>
  some y9)
  (bsel (decide (b1_1 = 5))
  ((p_in k b1_9 0 (w64 ((b0_1.length : Int) - 1))).bind fun y10 =>
  (p_cond k (nt y10) 3).bind fun y11 =>
  some y11)
  (some 0)))
  (bsel (decide (b1_1 = 2))
  ((p_baseErr k (b1_0, b1_1, (b1_2, b1_3, b1_4, ()), (b1_5, b1_6, ()), b1_7, b1_8, b1_9, ()) x6).bind fun y12 =>
  some y12)
  (bsel (decide (b1_1 = 5))
  ((p_in k b1_9 0 (w64 ((b0_1.length : Int) - 1))).bind fun y13 =>
  (p_cond k (nt y13) 3).bind fun y14 =>
  some y14)
  (some 0))))) := by kernel_rfl
theorem n_FormatNumber_eq (k : Nat) (x : Two) : n_FormatNumber (k + 1) x =
  (n_CheckNumber k x).bind fun y1 =>
  bsel (!decide (y1 = 0))
  (some ([], y1))
  ((c_Itoa k (maxI x.1 (negI .i64 x.1))).bind fun y2 =>
  bsel (decide ((y2.length : Int) ≤ x.2.1))
  ((s_Repeat k ([48] : Str) (w64 ((w64 (x.2.1 + 1)) - (y2.length : Int)))).bind fun y3 =>
  (catL (y3 : Str) y2).bind fun y4 =>
  n_FormatNumber_14 k y4 x.1 x.2.1)
  (n_FormatNumber_14 k y2 x.1 x.2.1)) := by kernel_rfl
theorem n_FormatNumber_14_eq (k : Nat) (s : Str) (b0_0 : Int) (b0_1 : Int) : n_FormatNumber_14 (k + 1) s b0_0 b0_1 =
  bsel (decide (0 < b0_1))
  ((subL (s : Str) 0 (w64 ((s.length : Int) - b0_1))).bind fun y1 =>
  (catL (y1 : Str) [46]).bind fun y2 =>
  (subL (s : Str) (w64 ((s.length : Int) - b0_1)) (s.length : Int)).bind fun y3 =>
  (catL (y2 : Str) y3).bind fun y4 =>
  bsel (decide (b0_0 < 0))
  ((catL ([45] : Str) y4).bind fun y5 =>
  some (y5, 0))
  (some (y4, 0)))
  (bsel (decide (b0_0 < 0))
  ((catL ([45] : Str) s).bind fun y6 =>
  some (y6, 0))
  (some (s, 0))) := by kernel_rfl
theorem p_isShown_eq (k : Nat) (s : Str) : p_isShown (k + 1) s =
  (bytesL s).bind fun y1 =>
  (x_ContainsFunc2 k y1).bind fun y2 =>
  some (nt y2) := by kernel_rfl
theorem r_isPlain_eq (k : Nat) (s : Str) : r_isPlain (k + 1) s =
  r_isPlain_5 k s 0 := by kernel_rfl
theorem r_isPlain_5_eq (k : Nat) (s : Str) (i : Int) : r_isPlain_5 (k + 1) s i =
  bsel (decide (i < (s.length : Int)))
  ((rdb s i).bind fun y1 =>
  (b_Within k (w64 (y1)) 32 126).bind fun y2 =>
  bsel (nt y2)
  (some false)
  (r_isPlain_5 k s (w64 (i + 1))))
  (some true) := by kernel_rfl
theorem r_hexDigits_eq (k : Nat) (s : Str) : r_hexDigits (k + 1) s =
  r_hexDigits_7 k s ([] : List Int) 0 := by kernel_rfl
theorem r_hexDigits_7_eq (k : Nat) (s : Str) (out : List Int) (i : Int) : r_hexDigits_7 (k + 1) s out i =
  bsel (decide (i < (s.length : Int)))
  ((rdb s i).bind fun y1 =>
  (quoI .u8 y1 16).bind fun y2 =>
  (rdb [48, 49, 50, 51, 52, 53, 54, 55, 56, 57, 65, 66, 67, 68, 69, 70] y2).bind fun y3 =>
  (rdb s i).bind fun y4 =>
  (remI y4 16).bind fun y5 =>
  (rdb [48, 49, 50, 51, 52, 53, 54, 55, 56, 57, 65, 66, 67, 68, 69, 70] y5).bind fun y6 =>
  (catL (out : List Int) [y3, y6]).bind fun y7 =>
  r_hexDigits_7 k s y7 (w64 (i + 1)))
  (some (textT out)) := by kernel_rfl
theorem p_in_eq (k : Nat) (n : Int) (lo : Int) (hi : Int) : p_in (k + 1) n lo hi =
  some (bsel (decide (lo ≤ n)) (decide (n ≤ hi)) false) := by kernel_rfl
theorem n_CheckType_eq (k : Nat) (t : DataType) : n_CheckType (k + 1) t =
  bsel (decide (t.1 = 0))
  ((n_in k t.2.1 1 256).bind fun y1 =>
  (n_cond k (nt y1) 18).bind fun y2 =>
  (n_cond k (nt (decide (t.2.2.1 = 0))) 3).bind fun y3 =>
  (n_first k ([y2, y3] : List Int)).bind fun y4 =>
  some y4)
  (bsel (decide (t.1 = 1))
  (bsel (decide (t.1 = 1))
  ((n_in k t.2.1 1 15).bind fun y5 =>
  (n_in k t.2.2.1 0 t.2.1).bind fun y6 =>
  (n_cond k (nt y5) 18).bind fun y7 =>
  (n_cond k (nt y6) 3).bind fun y8 =>
  (n_first k ([y7, y8] : List Int)).bind fun y9 =>
  some y9)
  (bsel (decide (t.1 = 3))
  ((n_in k t.2.2.1 0 t.2.1).bind fun y10 =>
  (n_cond k (nt (bsel (decide (t.2.1 = 4)) true (decide (t.2.1 = 9)))) 18).bind fun y11 =>
  (n_cond k (nt y10) 3).bind fun y12 =>
  (n_first k ([y11, y12] : List Int)).bind fun y13 =>
  some y13)
  (bsel (decide (t.1 = 4))
  ((n_cond k (nt (decide (t.2.1 = 0))) 18).bind fun y14 =>
  (n_cond k (nt (decide (t.2.2.1 = 0))) 3).bind fun y15 =>
  (n_first k ([y14, y15] : List Int)).bind fun y16 =>
  some y16)
  (some 4))))
  (bsel (decide (t.1 = 2))
  ((n_in k t.2.1 1 15).bind fun y17 =>
  (n_in k t.2.2.1 0 t.2.1).bind fun y18 =>
  (n_cond k (nt y17) 18).bind fun y19 =>
  (n_cond k (nt y18) 3).bind fun y20 =>
  (n_first k ([y19, y20] : List Int)).bind fun y21 =>
  some y21)
  (bsel (decide (t.1 = 3))
  ((n_in k t.2.2.1 0 t.2.1).bind fun y22 =>
  (n_cond k (nt (bsel (decide (t.2.1 = 4)) true (decide (t.2.1 = 9)))) 18).bind fun y23 =>
  (n_cond k (nt y22) 3).bind fun y24 =>
  (n_first k ([y23, y24] : List Int)).bind fun y25 =>
  some y25)
  (bsel (decide (t.1 = 4))
  ((n_cond k (nt (decide (t.2.1 = 0))) 18).bind fun y26 =>
  (n_cond k (nt (decide (t.2.2.1 = 0))) 3).bind fun y27 =>
  (n_first k ([y26, y27] : List Int)).bind fun y28 =>
  some y28)
  (some 4))))) := by kernel_rfl
theorem p_baseErr_eq (k : Nat) (o : MiOperand) (before : List MiOperand) : p_baseErr (k + 1) o before =
  (p_named k before o.2.2.2.2.1).bind fun y1 =>
  bsel (decide (y1 < 0))
  (some 11)
  ((rd before y1).bind fun y2 =>
  bsel (decide (o.2.1 = 2))
  ((p_cond k (!decide (y2.2.1 = 3)) 17).bind fun y3 =>
  (p_in k o.2.2.2.2.2.1 0 256).bind fun y4 =>
  (p_cond k (nt y4) 3).bind fun y5 =>
  (p_first k ([y3, y5] : List Int)).bind fun y6 =>
  some y6)
  (bsel (!decide (y2.2.1 = 0))
  (some 17)
  ((p_size k y2).bind fun y7 =>
  (p_size k o).bind fun y8 =>
  (p_in k o.2.2.2.2.2.1 0 (w64 (y7 - y8))).bind fun y9 =>
  (p_cond k (nt y9) 3).bind fun y10 =>
  some y10))) := by kernel_rfl
theorem p_size_eq (k : Nat) (o : MiOperand) : p_size (k + 1) o =
  (n_SizeOf k o.2.2.1).bind fun y1 =>
  some y1.1 := by kernel_rfl
theorem q_Amount_eq (k : Nat) (n : Int) : q_Amount (k + 1) n =
  some (maxI n (negI .i64 n)) := by kernel_rfl
theorem p_isNumeric_eq (k : Nat) (o : MiOperand) : p_isNumeric (k + 1) o =
  some (!decide (o.2.2.1.1 = 0)) := by kernel_rfl
theorem n_isDigit_eq (k : Nat) (s : Str) (at_ : Int) : n_isDigit (k + 1) s at_ =
  (bsel (decide (at_ < (s.length : Int))) (rdb s at_) (some 0)).bind fun y1 =>
  (bsel (bsel (decide (at_ < (s.length : Int))) (decide (48 ≤ y1)) false) (rdb s at_) (some 0)).bind fun y2 =>
  some (bsel (bsel (decide (at_ < (s.length : Int))) (decide (48 ≤ y1)) false) (decide (y2 ≤ 57)) false) := by kernel_rfl
theorem x_ContainsFunc2_eq (k : Nat) (s : List Int) : x_ContainsFunc2 (k + 1) s =
  (x_IndexFunc3 k s).bind fun y1 =>
  some (decide (0 ≤ y1)) := by kernel_rfl
end Mini
