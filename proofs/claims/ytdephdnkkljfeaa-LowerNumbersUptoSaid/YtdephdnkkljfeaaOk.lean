/-
  Each function of the program comes to what its proposition says: one equation a function, by the kernel. No condition.
-/
import Derived.Test.YtdephdnkkljfeaaSh
import Derived.Test.YtdephdnkkljfeaaTb
set_option linter.all false
set_option maxRecDepth 100000
namespace Go.Eng
open Go
def an_w12_LowerNumbers : An := { loops := [(0, [(1, (.one (.int .i64)))], [(0, 6), (16, 86)]), (2, [(3, (.one (.int .i64)))], [(3, 3), (27, 39)]), (4, [(11, (.one (.int .i64)))], [(0, 0), (11, 15), (108, 170)])], blocks := [(0, [], [(0, 6), (16, 86)]), (2, [], [(3, 3), (27, 39)]), (4, [], [(0, 0), (11, 15), (108, 170)])], regions := [(10, [(72, (.one .bool))], [(46, 72)])], conds := [(125, [(12, (.one (.int .i64)))], [(12, 12)])], ords := [(12, (.q 0 (.q 1 (.q 2 (.q 3 (.q 4 (.q 5 (.q 7 (.q 11 (.q 12 (.alt (.e 6 (.e 8 (.q 9 (.e 10 (.q 13 .done))))) (.e 8 (.e 6 (.q 9 (.e 10 (.q 13 .done))))))))))))))))] }
theorem ok_w12_LowerNumbers : Ok_w12_LowerNumbers nums Go.Proofs.Try.prog := fun  w K h =>
 funD_callsX (fn := Go.Proofs.Try.f3) (an := an_w12_LowerNumbers) tok tsize mixed Go.Proofs.Try.func3 (by kernel_rfl) (Eq.mpr (by kernel_rfl) h)
def an_lower_Factor : An := { loops := [(0, [(3, (.one (.int .i64))), (4, (.one (.int .i64))), (27, (.one (.int .i64)))], [(3, 4), (6, 6), (27, 35)]), (2, [(3, (.one (.int .i64))), (4, (.one (.int .i64))), (49, (.one (.int .i64)))], [(3, 4), (11, 19), (49, 153)]), (4, [(13, (.one .f64)), (66, (.one (.int .i64)))], [(13, 15), (66, 88)]), (6, [(3, (.one (.int .i64))), (4, (.one (.int .i64))), (16, (.one (.int .i64)))], [(3, 4), (16, 19), (104, 152)]), (8, [(18, (.one .f64)), (122, (.one (.int .i64)))], [(18, 19), (122, 136)])], blocks := [(0, [(3, (.one (.int .i64))), (4, (.one (.int .i64)))], [(3, 4), (6, 6), (27, 35)]), (2, [(3, (.one (.int .i64))), (4, (.one (.int .i64)))], [(3, 4), (11, 19), (49, 153)]), (4, [(13, (.one .f64))], [(13, 15), (66, 88)]), (6, [(3, (.one (.int .i64))), (4, (.one (.int .i64)))], [(3, 4), (16, 19), (104, 152)]), (8, [(18, (.one .f64))], [(18, 19), (122, 136)])], regions := [(10, [(8, (.one .slice)), (9, (.one .slice))], [(8, 9), (38, 45)]), (23, [(96, (.one .bool))], [(89, 96)])], conds := [], ords := [(10, (.q 0 (.q 1 (.q 2 (.q 3 (.q 4 (.q 6 (.alt (.e 5 (.q 8 (.e 7 (.q 9 .done)))) (.e 7 (.e 5 (.q 8 (.q 9 .done)))))))))))), (34, (.q 0 (.q 1 (.q 2 (.q 3 (.q 4 (.q 5 (.q 6 (.q 7 (.q 8 (.q 9 (.q 10 (.q 11 .done)))))))))))))] }
theorem ok_lower_Factor : Ok_lower_Factor nums Go.Proofs.Try.prog := fun q0_0 q0_1 q0_2 q0_2l q0_2c w K h =>
 funD_callsX (fn := Go.Proofs.Try.f4) (an := an_lower_Factor) tok tsize mixed Go.Proofs.Try.func4 (by kernel_rfl) (Eq.mpr (by kernel_rfl) h)
def an_lower_Right : An := { loops := [], blocks := [], regions := [], conds := [], ords := [] }
theorem ok_lower_Right : Ok_lower_Right nums Go.Proofs.Try.prog := fun q0_0 q0_1 q0_1l q0_1c q0_2 q0_2l q0_2c w K h =>
 funD_callsX (fn := Go.Proofs.Try.f5) (an := an_lower_Right) tok tsize mixed Go.Proofs.Try.func5 (by kernel_rfl) (Eq.mpr (by kernel_rfl) h)
def an_math_Copysign : An := { loops := [], blocks := [], regions := [], conds := [], ords := [] }
theorem ok_math_Copysign : Ok_math_Copysign nums Go.Proofs.Try.prog := fun q0 q1 w K h =>
 funD_callsX (fn := Go.Proofs.Try.f6) (an := an_math_Copysign) tok tsize mixed Go.Proofs.Try.func6 (by kernel_rfl) (Eq.mpr (by kernel_rfl) h)
def an_math_NaN : An := { loops := [], blocks := [], regions := [], conds := [], ords := [] }
theorem ok_math_NaN : Ok_math_NaN nums Go.Proofs.Try.prog := fun  w K h =>
 funD_callsX (fn := Go.Proofs.Try.f7) (an := an_math_NaN) tok tsize mixed Go.Proofs.Try.func7 (by kernel_rfl) (Eq.mpr (by kernel_rfl) h)
def an_math_Inf : An := { loops := [], blocks := [], regions := [], conds := [(5, [(3, (.one (.int .u64)))], [(3, 3)])], ords := [] }
theorem ok_math_Inf : Ok_math_Inf nums Go.Proofs.Try.prog := fun q0 w K h =>
 funD_callsX (fn := Go.Proofs.Try.f9) (an := an_math_Inf) tok tsize mixed Go.Proofs.Try.func9 (by kernel_rfl) (Eq.mpr (by kernel_rfl) h)
def an_w12_awake : An := { loops := [], blocks := [], regions := [], conds := [], ords := [] }
theorem ok_w12_awake : Ok_w12_awake nums Go.Proofs.Try.prog := fun  w K h =>
 funD_callsX (fn := Go.Proofs.Try.f10) (an := an_w12_awake) tok tsize mixed Go.Proofs.Try.func10 (by kernel_rfl) (Eq.mpr (by kernel_rfl) h)
def an_matrix_Symmetric : An := { loops := [], blocks := [], regions := [], conds := [], ords := [] }
theorem ok_matrix_Symmetric : Ok_matrix_Symmetric nums Go.Proofs.Try.prog := fun q0_0 q0_1 q0_2 q0_2l q0_2c w K h =>
 funD_callsX (fn := Go.Proofs.Try.f11) (an := an_matrix_Symmetric) tok tsize mixed Go.Proofs.Try.func11 (by kernel_rfl) (Eq.mpr (by kernel_rfl) h)
def an_lower_finite : An := { loops := [], blocks := [], regions := [], conds := [], ords := [] }
theorem ok_lower_finite : Ok_lower_finite nums Go.Proofs.Try.prog := fun q0 w K h =>
 funD_callsX (fn := Go.Proofs.Try.f12) (an := an_lower_finite) tok tsize mixed Go.Proofs.Try.func12 (by kernel_rfl) (Eq.mpr (by kernel_rfl) h)
def an_lower_row : An := { loops := [], blocks := [], regions := [], conds := [], ords := [] }
theorem ok_lower_row : Ok_lower_row nums Go.Proofs.Try.prog := fun q0 q0l q0c q1 w K h =>
 funD_callsX (fn := Go.Proofs.Try.f13) (an := an_lower_row) tok tsize mixed Go.Proofs.Try.func13 (by kernel_rfl) (Eq.mpr (by kernel_rfl) h)
def an_lower_Times : An := { loops := [(0, [(27, (.one (.int .i64)))], [(7, 13), (27, 90)]), (2, [(38, (.one (.int .i64)))], [(9, 13), (38, 89)]), (4, [(11, (.one .f64)), (49, (.one (.int .i64)))], [(11, 13), (49, 70)])], blocks := [(0, [], [(7, 13), (27, 90)]), (2, [], [(9, 13), (38, 89)]), (4, [(11, (.one .f64))], [(11, 13), (49, 70)])], regions := [], conds := [], ords := [(17, (.q 0 (.q 1 (.q 2 (.q 3 (.q 4 (.q 5 (.q 6 (.q 7 (.q 8 (.q 9 (.q 10 .done)))))))))))), (20, (.q 0 (.q 1 (.q 2 (.q 3 (.q 4 (.q 5 (.q 6 (.q 7 (.q 8 (.q 9 (.q 10 (.q 11 (.q 12 (.q 13 (.q 14 (.q 15 (.q 16 (.e 17 (.q 18 (.e 19 .done)))))))))))))))))))))] }
theorem ok_lower_Times : Ok_lower_Times nums Go.Proofs.Try.prog := fun q0_0 q0_1 q0_1l q0_1c q0_2 q0_2l q0_2c w K h =>
 funD_callsX (fn := Go.Proofs.Try.f15) (an := an_lower_Times) tok tsize mixed Go.Proofs.Try.func15 (by kernel_rfl) (Eq.mpr (by kernel_rfl) h)
def an_k_SameFactor : An := { loops := [], blocks := [], regions := [], conds := [], ords := [] }
theorem ok_k_SameFactor : Ok_k_SameFactor nums Go.Proofs.Try.prog := fun q0_0 q0_1 q0_1l q0_1c q0_2 q0_2l q0_2c q1_0 q1_1 q1_1l q1_1c q1_2 q1_2l q1_2c w K h =>
 funD_callsX (fn := Go.Proofs.Try.f16) (an := an_k_SameFactor) tok tsize mixed Go.Proofs.Try.func16 (by kernel_rfl) (Eq.mpr (by kernel_rfl) h)
def an_k_SameMatrix : An := { loops := [], blocks := [], regions := [], conds := [], ords := [] }
theorem ok_k_SameMatrix : Ok_k_SameMatrix nums Go.Proofs.Try.prog := fun q0_0 q0_1 q0_2 q0_2l q0_2c q1_0 q1_1 q1_2 q1_2l q1_2c w K h =>
 funD_callsX (fn := Go.Proofs.Try.f17) (an := an_k_SameMatrix) tok tsize mixed Go.Proofs.Try.func17 (by kernel_rfl) (Eq.mpr (by kernel_rfl) h)
def an_matrix_Transpose : An := { loops := [], blocks := [], regions := [], conds := [], ords := [] }
theorem ok_matrix_Transpose : Ok_matrix_Transpose nums Go.Proofs.Try.prog := fun q0_0 q0_1 q0_2 q0_2l q0_2c w K h =>
 funD_callsX (fn := Go.Proofs.Try.f18) (an := an_matrix_Transpose) tok tsize mixed Go.Proofs.Try.func18 (by kernel_rfl) (Eq.mpr (by kernel_rfl) h)
def an_matrix_Same : An := { loops := [], blocks := [], regions := [], conds := [], ords := [] }
theorem ok_matrix_Same : Ok_matrix_Same nums Go.Proofs.Try.prog := fun q0_0 q0_1 q0_2 q0_2l q0_2c q1_0 q1_1 q1_2 q1_2l q1_2c w K h =>
 funD_callsX (fn := Go.Proofs.Try.f19) (an := an_matrix_Same) tok tsize mixed Go.Proofs.Try.func19 (by kernel_rfl) (Eq.mpr (by kernel_rfl) h)
def an_math_IsNaN : An := { loops := [], blocks := [], regions := [], conds := [], ords := [] }
theorem ok_math_IsNaN : Ok_math_IsNaN nums Go.Proofs.Try.prog := fun q0 w K h =>
 funD_callsX (fn := Go.Proofs.Try.f20) (an := an_math_IsNaN) tok tsize mixed Go.Proofs.Try.func20 (by kernel_rfl) (Eq.mpr (by kernel_rfl) h)
def an_math_IsInf : An := { loops := [], blocks := [], regions := [], conds := [(6, [(0, (.one .f64))], [(0, 0), (7, 12)]), (10, [(0, (.one .f64))], [(0, 0), (11, 12)])], ords := [] }
theorem ok_math_IsInf : Ok_math_IsInf nums Go.Proofs.Try.prog := fun q0 q1 w K h =>
 funD_callsX (fn := Go.Proofs.Try.f21) (an := an_math_IsInf) tok tsize mixed Go.Proofs.Try.func21 (by kernel_rfl) (Eq.mpr (by kernel_rfl) h)
def an_matrix_Make : An := { loops := [], blocks := [], regions := [], conds := [], ords := [] }
theorem ok_matrix_Make : Ok_matrix_Make nums Go.Proofs.Try.prog := fun q0 q1 w K h =>
 funD_callsX (fn := Go.Proofs.Try.f22) (an := an_matrix_Make) tok tsize mixed Go.Proofs.Try.func22 (by kernel_rfl) (Eq.mpr (by kernel_rfl) h)
def an_k_SameReals : An := { loops := [(0, [(5, (.one (.int .i64)))], [(4, 5), (11, 26)])], blocks := [(0, [], [(4, 5), (11, 26)])], regions := [], conds := [], ords := [(6, (.q 0 (.q 1 (.q 2 (.q 3 (.q 4 (.q 5 (.q 6 (.q 7 (.e 8 (.q 9 .done)))))))))))] }
theorem ok_k_SameReals : Ok_k_SameReals nums Go.Proofs.Try.prog := fun q0 q0l q0c q1 q1l q1c w K h =>
 funD_callsX (fn := Go.Proofs.Try.f23) (an := an_k_SameReals) tok tsize mixed Go.Proofs.Try.func23 (by kernel_rfl) (Eq.mpr (by kernel_rfl) h)
def an_matrix_Right : An := { loops := [], blocks := [], regions := [], conds := [], ords := [] }
theorem ok_matrix_Right : Ok_matrix_Right nums Go.Proofs.Try.prog := fun q0_0 q0_1 q0_2 q0_2l q0_2c w K h =>
 funD_callsX (fn := Go.Proofs.Try.f24) (an := an_matrix_Right) tok tsize mixed Go.Proofs.Try.func24 (by kernel_rfl) (Eq.mpr (by kernel_rfl) h)
def an_matrix_laid : An := { loops := [(0, [(18, (.one (.int .i64)))], [(8, 9), (18, 38)]), (2, [(22, (.one (.int .i64)))], [(9, 9), (22, 37)])], blocks := [(0, [], [(8, 9), (18, 38)]), (2, [], [(9, 9), (22, 37)])], regions := [], conds := [], ords := [(8, (.q 0 (.q 1 (.q 2 (.q 3 (.q 4 (.q 5 (.q 6 (.q 7 (.q 8 (.q 9 (.e 10 (.q 11 (.e 12 .done))))))))))))))] }
theorem ok_matrix_laid : Ok_matrix_laid nums Go.Proofs.Try.prog := fun q0 q1 q2 w K h =>
 funD_callsX (fn := Go.Proofs.Try.f25) (an := an_matrix_laid) tok tsize mixed Go.Proofs.Try.func25 (by kernel_rfl) (Eq.mpr (by kernel_rfl) h)
def an_matrix_Transpose_1 : An := { loops := [], blocks := [], regions := [], conds := [], ords := [] }
theorem ok_matrix_Transpose_1 : Ok_matrix_Transpose_1 nums Go.Proofs.Try.prog := fun q0 q1 q2 w K h =>
 funD_callsX (fn := Go.Proofs.Try.f26) (an := an_matrix_Transpose_1) tok tsize mixed Go.Proofs.Try.func26 (by kernel_rfl) (Eq.mpr (by kernel_rfl) h)
def an_vector_Same : An := { loops := [(0, [(14, (.one (.int .i64)))], [(4, 6), (14, 39)])], blocks := [(0, [], [(4, 6), (14, 39)])], regions := [], conds := [], ords := [(6, (.q 0 (.q 2 (.q 3 (.q 4 (.q 5 (.e 1 (.e 6 (.q 7 (.q 8 (.q 9 (.e 10 (.q 11 (.q 12 (.q 13 (.q 14 (.q 15 (.e 16 (.q 17 (.q 18 (.q 19 .done)))))))))))))))))))))] }
theorem ok_vector_Same : Ok_vector_Same nums Go.Proofs.Try.prog := fun q0 q0l q0c q1 q1l q1c w K h =>
 funD_callsX (fn := Go.Proofs.Try.f27) (an := an_vector_Same) tok tsize mixed Go.Proofs.Try.func27 (by kernel_rfl) (Eq.mpr (by kernel_rfl) h)
def an_math_Abs : An := { loops := [], blocks := [], regions := [], conds := [], ords := [] }
theorem ok_math_Abs : Ok_math_Abs nums Go.Proofs.Try.prog := fun q0 w K h =>
 funD_callsX (fn := Go.Proofs.Try.f28) (an := an_math_Abs) tok tsize mixed Go.Proofs.Try.func28 (by kernel_rfl) (Eq.mpr (by kernel_rfl) h)
def an_matrix_fits : An := { loops := [], blocks := [], regions := [], conds := [], ords := [] }
theorem ok_matrix_fits : Ok_matrix_fits nums Go.Proofs.Try.prog := fun q0 w K h =>
 funD_callsX (fn := Go.Proofs.Try.f29) (an := an_matrix_fits) tok tsize mixed Go.Proofs.Try.func29 (by kernel_rfl) (Eq.mpr (by kernel_rfl) h)
def an_matrix_Make_1 : An := { loops := [], blocks := [], regions := [], conds := [], ords := [] }
theorem ok_matrix_Make_1 : Ok_matrix_Make_1 nums Go.Proofs.Try.prog := fun q0 q1 w K h =>
 funD_callsX (fn := Go.Proofs.Try.f30) (an := an_matrix_Make_1) tok tsize mixed Go.Proofs.Try.func30 (by kernel_rfl) (Eq.mpr (by kernel_rfl) h)
def an_k_SameFloat : An := { loops := [], blocks := [], regions := [], conds := [], ords := [] }
theorem ok_k_SameFloat : Ok_k_SameFloat nums Go.Proofs.Try.prog := fun q0 q1 w K h =>
 funD_callsX (fn := Go.Proofs.Try.f31) (an := an_k_SameFloat) tok tsize mixed Go.Proofs.Try.func31 (by kernel_rfl) (Eq.mpr (by kernel_rfl) h)
theorem ok_math_Float64frombits : Ok_math_Float64frombits nums Go.Proofs.Try.prog := by
  intro x w K h
  exact ext_ok (fn := Go.Proofs.Try.f8) (g := Extern.MathFloatBits.float64frombits) Go.Proofs.Try.func8 (by kernel_rfl) (by kernel_rfl) (by kernel_rfl) (by kernel_rfl) rfl h
theorem ok_math_Float64bits : Ok_math_Float64bits nums Go.Proofs.Try.prog := by
  intro x w K h
  exact ext_ok (fn := Go.Proofs.Try.f14) (g := Extern.MathFloatBits.float64bits) Go.Proofs.Try.func14 (by kernel_rfl) (by kernel_rfl) (by kernel_rfl) (by kernel_rfl) rfl h
theorem allOk : AllOk nums Go.Proofs.Try.prog := { w12_LowerNumbers := ok_w12_LowerNumbers, lower_Factor := ok_lower_Factor, lower_Right := ok_lower_Right, math_Copysign := ok_math_Copysign, math_NaN := ok_math_NaN, math_Inf := ok_math_Inf, w12_awake := ok_w12_awake, matrix_Symmetric := ok_matrix_Symmetric, lower_finite := ok_lower_finite, lower_row := ok_lower_row, lower_Times := ok_lower_Times, k_SameFactor := ok_k_SameFactor, k_SameMatrix := ok_k_SameMatrix, matrix_Transpose := ok_matrix_Transpose, matrix_Same := ok_matrix_Same, math_IsNaN := ok_math_IsNaN, math_IsInf := ok_math_IsInf, matrix_Make := ok_matrix_Make, k_SameReals := ok_k_SameReals, matrix_Right := ok_matrix_Right, matrix_laid := ok_matrix_laid, matrix_Transpose_1 := ok_matrix_Transpose_1, vector_Same := ok_vector_Same, math_Abs := ok_math_Abs, matrix_fits := ok_matrix_fits, matrix_Make_1 := ok_matrix_Make_1, k_SameFloat := ok_k_SameFloat, math_Float64frombits := ok_math_Float64frombits, math_Float64bits := ok_math_Float64bits }
end Go.Eng
