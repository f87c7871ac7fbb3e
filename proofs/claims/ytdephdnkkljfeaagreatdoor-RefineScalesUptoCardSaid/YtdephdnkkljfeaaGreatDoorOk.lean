/-
  Each function of the program comes to what its proposition says: one equation a function, by the kernel. No condition.
-/
import Derived.Test.YtdephdnkkljfeaaGreatDoorLn
import Derived.Test.YtdephdnkkljfeaaGreatDoorRow2
import Derived.Test.YtdephdnkkljfeaaGreatDoorSh
import Derived.Test.YtdephdnkkljfeaaGreatDoorTb
set_option linter.all false
set_option maxRecDepth 100000
namespace Go.Eng
open Go Go.Proofs
def an_w14_RefineScales : An := ⟨[(0, [(7, (.one .f64)), (9, (.one (.int .i64)))], [(7, 7), (9, 9), (49, 55)]), (2, [(7, (.one .f64)), (10, (.one (.int .i64)))], [(7, 7), (10, 10), (56, 62)]), (4, [(13, (.one .slice)), (14, (.one .slice)), (15, (.one .slice)), (16, (.one .slice)), (17, (.one (.int .i64)))], [(13, 21), (68, 176)]), (6, [(18, (.one (.int .i64)))], [(18, 19), (73, 114)])], [(0, [(7, (.one .f64))], [(7, 7), (9, 9), (49, 55)]), (2, [(7, (.one .f64))], [(7, 7), (10, 10), (56, 62)]), (4, [(13, (.one .slice)), (14, (.one .slice)), (15, (.one .slice)), (16, (.one .slice))], [(13, 21), (68, 176)]), (6, [], [(18, 19), (73, 114)]), (7, [], [(19, 19), (78, 114)])], [(40, [(220, (.one .bool))], [(207, 220)])], [(85, [(19, (.one (.int .i64)))], [(19, 19), (86, 95)]), (105, [], [(106, 114)])], [(3, (.q 0 (.q 1 (.q 2 (.q 3 (.q 4 (.q 5 (.q 6 (.q 7 (.q 8 .done)))))))))), (32, (.q 0 (.q 1 (.q 2 (.q 3 (.q 4 (.q 5 (.q 6 (.q 7 (.q 8 (.q 9 (.q 10 (.q 11 (.q 12 (.q 13 (.q 14 (.q 15 (.q 16 (.q 17 (.q 18 (.q 19 (.q 20 (.q 21 (.q 22 (.q 23 (.q 24 (.e 25 (.e 26 (.q 27 (.e 28 .done)))))))))))))))))))))))))))))), (33, (.q 0 (.q 1 (.q 2 (.q 3 (.q 4 (.q 5 (.q 6 (.q 7 (.q 8 (.q 9 (.q 10 (.q 11 (.q 12 (.q 13 (.q 14 (.q 15 .done)))))))))))))))))]⟩
theorem ok_w14_RefineScales : Ok_w14_RefineScales nums Tryz.prog := fun q0_0 q0_0l q0_0c q0_1 q0_1l q0_1c q0_2 q0_2l q0_2c q0_3 w K h =>
 funD_callsX (fn := Tryz.f8) (an := an_w14_RefineScales) tok tsize mixed Tryz.func8 (by kernel_rfl) (Eq.mpr (by kernel_rfl) h)
def an_w14_awake : An := ⟨[], [], [], [], []⟩
theorem ok_w14_awake : Ok_w14_awake nums Tryz.prog := fun  w K h =>
 funD_callsX (fn := Tryz.f9) (an := an_w14_awake) tok tsize mixed Tryz.func9 (by kernel_rfl) (Eq.mpr (by kernel_rfl) h)
def an_refine_Left : An := ⟨[(1, [(8, (.one .slice)), (35, (.one (.int .i64)))], [(8, 8), (10, 11), (13, 15), (35, 76)]), (3, [(11, (.one .slice)), (56, (.one (.int .i64)))], [(11, 11), (13, 13), (56, 65)])], [(1, [(8, (.one .slice))], [(8, 8), (10, 11), (13, 15), (35, 76)]), (3, [(11, (.one .slice))], [(11, 11), (13, 13), (56, 65)])], [], [], []⟩
theorem ok_refine_Left : Ok_refine_Left nums Tryz.prog := fun q0_0 q0_1 q0_2 q0_2l q0_2c q1 q1l q1c q2 q2l q2c w K h =>
 funD_callsX (fn := Tryz.f13) (an := an_refine_Left) tok tsize mixed Tryz.func13 (by kernel_rfl) (Eq.mpr (by kernel_rfl) h)
def an_k_SameReals : An := ⟨[(0, [(5, (.one (.int .i64)))], [(4, 5), (11, 26)])], [(0, [], [(4, 5), (11, 26)])], [], [], [(6, (.q 0 (.q 1 (.q 2 (.q 3 (.q 4 (.q 5 (.q 6 (.q 7 (.e 8 (.q 9 .done)))))))))))]⟩
theorem ok_k_SameReals : Ok_k_SameReals nums Tryz.prog := fun q0 q0l q0c q1 q1l q1c w K h =>
 funD_callsX (fn := Tryz.f15) (an := an_k_SameReals) tok tsize mixed Tryz.func15 (by kernel_rfl) (Eq.mpr (by kernel_rfl) h)
def an_refine_Step : An := ⟨[], [], [(1, [(25, (.one .bool))], [(15, 25)])], [], []⟩
theorem ok_refine_Step : Ok_refine_Step nums Tryz.prog := fun q0_0 q0_1 q0_2 q0_2l q0_2c q1_0 q1_1 q1_1l q1_1c q1_2 q1_2l q1_2c q2 q2l q2c q3 q3l q3c w K h =>
 funD_callsX (fn := Tryz.f19) (an := an_refine_Step) tok tsize mixed Tryz.func19 (by kernel_rfl) (Eq.mpr (by kernel_rfl) h)
def an_refine_Until : An := ⟨[(1, [(11, (.one .slice)), (14, (.one .f64)), (71, (.one (.int .i64)))], [(8, 11), (14, 18), (71, 106)])], [(1, [(11, (.one .slice))], [(8, 11), (14, 18), (71, 106)])], [(1, [(19, (.one .bool))], [(19, 25)]), (3, [(26, (.one .bool))], [(26, 37)])], [], []⟩
theorem ok_refine_Until : Ok_refine_Until nums Tryz.prog := fun q0_0 q0_1 q0_2 q0_2l q0_2c q1_0 q1_1 q1_1l q1_1c q1_2 q1_2l q1_2c q2 q2l q2c q3 w K h =>
 funD_callsX (fn := Tryz.f22) (an := an_refine_Until) tok tsize mixed Tryz.func22 (by kernel_rfl) (Eq.mpr (by kernel_rfl) h)
def an_k_Pick : An := ⟨[], [], [], [(11, [(0, (.one (.int .i64)))], [(0, 0), (12, 14)])], []⟩
theorem ok_k_Pick : Ok_k_Pick nums Tryz.prog := fun q0 q1 w K h =>
 funD_callsX (fn := Tryz.f24) (an := an_k_Pick) tok tsize mixed Tryz.func24 (by kernel_rfl) (Eq.mpr (by kernel_rfl) h)
def an_solve_Solve : An := ⟨[], [], [], [], []⟩
theorem ok_solve_Solve : Ok_solve_Solve nums Tryz.prog := fun q0_0 q0_1 q0_1l q0_1c q0_2 q0_2l q0_2c q1 q1l q1c w K h =>
 funD_callsX (fn := Tryz.f25) (an := an_solve_Solve) tok tsize mixed Tryz.func25 (by kernel_rfl) (Eq.mpr (by kernel_rfl) h)
def an_k_LikeReals : An := ⟨[(0, [(5, (.one (.int .i64)))], [(4, 5), (11, 26)])], [(0, [], [(4, 5), (11, 26)])], [], [], [(6, (.q 0 (.q 1 (.q 2 (.q 3 (.q 4 (.q 5 (.q 6 (.q 7 (.e 8 (.q 9 .done)))))))))))]⟩
theorem ok_k_LikeReals : Ok_k_LikeReals nums Tryz.prog := fun q0 q0l q0c q1 q1l q1c w K h =>
 funD_callsX (fn := Tryz.f27) (an := an_k_LikeReals) tok tsize mixed Tryz.func27 (by kernel_rfl) (Eq.mpr (by kernel_rfl) h)
def an_vector_Scale : An := ⟨[(0, [(5, (.one .slice)), (13, (.one (.int .i64)))], [(5, 5), (7, 7), (13, 23)])], [(0, [(5, (.one .slice))], [(5, 5), (7, 7), (13, 23)])], [], [], []⟩
theorem ok_vector_Scale : Ok_vector_Scale nums Tryz.prog := fun q0 q1 q1l q1c w K h =>
 funD_callsX (fn := Tryz.f28) (an := an_vector_Scale) tok tsize mixed Tryz.func28 (by kernel_rfl) (Eq.mpr (by kernel_rfl) h)
def an_w14_two : An := ⟨[], [], [], [], []⟩
theorem ok_w14_two : Ok_w14_two nums Tryz.prog := fun  w K h =>
 funD_callsX (fn := Tryz.f29) (an := an_w14_two) tok tsize mixed Tryz.func29 (by kernel_rfl) (Eq.mpr (by kernel_rfl) h)
def an_k_mark : An := ⟨[], [], [], [], []⟩
theorem ok_k_mark : Ok_k_mark nums Tryz.prog := fun q0 q1 w K h =>
 funD_callsX (fn := Tryz.f30) (an := an_k_mark) tok tsize mixed Tryz.func30 (by kernel_rfl) (Eq.mpr (by kernel_rfl) h)
def an_refine_fit : An := ⟨[], [], [], [], []⟩
theorem ok_refine_fit : Ok_refine_fit nums Tryz.prog := fun q0_0 q0_1 q0_2 q0_2l q0_2c q1 q1l q1c q2 q2l q2c w K h =>
 funD_callsX (fn := Tryz.f31) (an := an_refine_fit) tok tsize mixed Tryz.func31 (by kernel_rfl) (Eq.mpr (by kernel_rfl) h)
def an_refine_finite : An := ⟨[(0, [(9, (.one (.int .i64)))], [(2, 2), (4, 4), (6, 6), (9, 24)]), (2, [(15, (.one (.int .i64)))], [(2, 2), (6, 6), (15, 23)])], [(0, [], [(2, 2), (4, 4), (6, 6), (9, 24)]), (2, [], [(2, 2), (6, 6), (15, 23)])], [], [], []⟩
theorem ok_refine_finite : Ok_refine_finite nums Tryz.prog := fun q0 q0l q0c w K h =>
 funD_callsX (fn := Tryz.f32) (an := an_refine_finite) tok tsize mixed Tryz.func32 (by kernel_rfl) (Eq.mpr (by kernel_rfl) h)
def an_sums_DotExact : An := ⟨[], [], [], [], []⟩
theorem ok_sums_DotExact : Ok_sums_DotExact nums Tryz.prog := fun q0 q0l q0c q1 q1l q1c q2 w K h =>
 funD_callsX (fn := Tryz.f33) (an := an_sums_DotExact) tok tsize mixed Tryz.func33 (by kernel_rfl) (Eq.mpr (by kernel_rfl) h)
def an_k_SameFloat : An := ⟨[], [], [], [], []⟩
theorem ok_k_SameFloat : Ok_k_SameFloat nums Tryz.prog := fun q0 q1 w K h =>
 funD_callsX (fn := Tryz.f41) (an := an_k_SameFloat) tok tsize mixed Tryz.func41 (by kernel_rfl) (Eq.mpr (by kernel_rfl) h)
def an_refine_fits : An := ⟨[], [], [], [], []⟩
theorem ok_refine_fits : Ok_refine_fits nums Tryz.prog := fun q0_0 q0_1 q0_2 q0_2l q0_2c q1_0 q1_1 q1_1l q1_1c q1_2 q1_2l q1_2c w K h =>
 funD_callsX (fn := Tryz.f43) (an := an_refine_fits) tok tsize mixed Tryz.func43 (by kernel_rfl) (Eq.mpr (by kernel_rfl) h)
def an_vector_Add : An := ⟨[], [], [], [], []⟩
theorem ok_vector_Add : Ok_vector_Add nums Tryz.prog := fun q0 q0l q0c q1 q1l q1c w K h =>
 funD_callsX (fn := Tryz.f44) (an := an_vector_Add) tok tsize mixed Tryz.func44 (by kernel_rfl) (Eq.mpr (by kernel_rfl) h)
def an_vector_Norm : An := ⟨[(0, [(3, (.one .f64)), (8, (.one (.int .i64)))], [(3, 3), (5, 5), (8, 16)])], [(0, [(3, (.one .f64))], [(3, 3), (5, 5), (8, 16)])], [], [], []⟩
theorem ok_vector_Norm : Ok_vector_Norm nums Tryz.prog := fun q0 q0l q0c w K h =>
 funD_callsX (fn := Tryz.f48) (an := an_vector_Norm) tok tsize mixed Tryz.func48 (by kernel_rfl) (Eq.mpr (by kernel_rfl) h)
def an_solve_Forward : An := ⟨[(0, [(21, (.one (.int .i64)))], [(8, 9), (21, 44)]), (2, [(25, (.one (.int .i64)))], [(9, 9), (25, 43)])], [(0, [], [(8, 9), (21, 44)]), (2, [], [(9, 9), (25, 43)])], [], [], [(11, (.q 0 (.q 1 (.q 2 (.q 3 (.q 4 (.q 5 (.q 6 (.q 8 (.q 9 (.q 10 (.q 11 (.e 7 (.q 12 (.q 13 (.q 14 (.e 15 .done)))))))))))))))))]⟩
theorem ok_solve_Forward : Ok_solve_Forward nums Tryz.prog := fun q0_0 q0_1 q0_1l q0_1c q0_2 q0_2l q0_2c q1 q1l q1c w K h =>
 funD_callsX (fn := Tryz.f50) (an := an_solve_Forward) tok tsize mixed Tryz.func50 (by kernel_rfl) (Eq.mpr (by kernel_rfl) h)
def an_solve_Back : An := ⟨[(0, [(28, (.one (.int .i64)))], [(8, 9), (28, 40)]), (2, [(43, (.one (.int .i64)))], [(10, 12), (43, 74)]), (4, [(12, (.one (.int .i64)))], [(12, 12), (53, 73)])], [(0, [], [(8, 9), (28, 40)]), (2, [], [(10, 12), (43, 74)]), (4, [], [(12, 12), (53, 73)])], [], [], [(19, (.q 0 (.q 1 (.q 2 (.q 3 (.q 4 (.q 5 (.q 6 (.q 8 (.q 9 (.q 10 (.q 11 (.e 7 (.q 12 (.q 13 (.q 14 (.e 15 .done)))))))))))))))))]⟩
theorem ok_solve_Back : Ok_solve_Back nums Tryz.prog := fun q0_0 q0_1 q0_1l q0_1c q0_2 q0_2l q0_2c q1 q1l q1c w K h =>
 funD_callsX (fn := Tryz.f51) (an := an_solve_Back) tok tsize mixed Tryz.func51 (by kernel_rfl) (Eq.mpr (by kernel_rfl) h)
def an_k_Like : An := ⟨[], [], [], [], []⟩
theorem ok_k_Like : Ok_k_Like nums Tryz.prog := fun q0 q1 w K h =>
 funD_callsX (fn := Tryz.f52) (an := an_k_Like) tok tsize mixed Tryz.func52 (by kernel_rfl) (Eq.mpr (by kernel_rfl) h)
def an_matrix_Right : An := ⟨[], [], [], [], []⟩
theorem ok_matrix_Right : Ok_matrix_Right nums Tryz.prog := fun q0_0 q0_1 q0_2 q0_2l q0_2c w K h =>
 funD_callsX (fn := Tryz.f53) (an := an_matrix_Right) tok tsize mixed Tryz.func53 (by kernel_rfl) (Eq.mpr (by kernel_rfl) h)
def an_sums_finite : An := ⟨[(0, [(7, (.one (.int .i64)))], [(2, 2), (4, 4), (7, 17)])], [(0, [], [(2, 2), (4, 4), (7, 17)])], [], [], []⟩
theorem ok_sums_finite : Ok_sums_finite nums Tryz.prog := fun q0 q0l q0c w K h =>
 funD_callsX (fn := Tryz.f54) (an := an_sums_finite) tok tsize mixed Tryz.func54 (by kernel_rfl) (Eq.mpr (by kernel_rfl) h)
def an_sums_total : An := ⟨[(0, [(9, (.one (.int .i64)))], [(6, 6), (9, 20)])], [(0, [], [(6, 6), (9, 20)])], [], [], [(5, (.q 0 (.q 1 (.q 2 (.e 3 (.e 4 (.q 5 (.q 6 (.q 7 (.e 8 .done))))))))))]⟩
theorem ok_sums_total : Ok_sums_total nums Tryz.prog := fun q0 q1 w K h =>
 funD_callsX (fn := Tryz.f55) (an := an_sums_total) tok tsize mixed Tryz.func55 (by kernel_rfl) (Eq.mpr (by kernel_rfl) h)
def an_sums_DotExact_1 : An := ⟨[], [], [], [], []⟩
theorem ok_sums_DotExact_1 : Ok_sums_DotExact_1 nums Tryz.prog := fun q0 q1 q2 w K h =>
 funD_callsX (fn := Tryz.f56) (an := an_sums_DotExact_1) tok tsize mixed Tryz.func56 (by kernel_rfl) (Eq.mpr (by kernel_rfl) h)
def an_dyad_Of : An := ⟨[], [], [], [], []⟩
theorem ok_dyad_Of : Ok_dyad_Of nums Tryz.prog := fun q0 w K h =>
 funD_callsX (fn := Tryz.f57) (an := an_dyad_Of) tok tsize mixed Tryz.func57 (by kernel_rfl) (Eq.mpr (by kernel_rfl) h)
def an_dyad_Mul : An := ⟨[], [], [], [], [(4, (.q 0 (.q 1 (.q 2 (.q 5 (.q 6 (.q 7 (.q 8 (.q 9 (.e 3 (.e 4 (.e 10 (.q 11 (.q 12 (.e 13 (.q 14 .done))))))))))))))))]⟩
theorem ok_dyad_Mul : Ok_dyad_Mul nums Tryz.prog := fun q0_0 q0_1 q0_1l q0_1c q0_2 q1_0 q1_1 q1_1l q1_1c q1_2 w K h =>
 funD_callsX (fn := Tryz.f58) (an := an_dyad_Mul) tok tsize mixed Tryz.func58 (by kernel_rfl) (Eq.mpr (by kernel_rfl) h)
def an_dyad_Round : An := ⟨[], [], [], [(34, [(8, (.one (.int .u64)))], [(8, 8), (10, 12), (35, 79)]), (77, [(8, (.one (.int .u64)))], [(8, 8), (78, 79)])], []⟩
theorem ok_dyad_Round : Ok_dyad_Round nums Tryz.prog := fun q0_0 q0_1 q0_1l q0_1c q0_2 q1 w K h =>
 funD_callsX (fn := Tryz.f59) (an := an_dyad_Round) tok tsize mixed Tryz.func59 (by kernel_rfl) (Eq.mpr (by kernel_rfl) h)
def an_lower_Right : An := ⟨[], [], [], [], []⟩
theorem ok_lower_Right : Ok_lower_Right nums Tryz.prog := fun q0_0 q0_1 q0_1l q0_1c q0_2 q0_2l q0_2c w K h =>
 funD_callsX (fn := Tryz.f76) (an := an_lower_Right) tok tsize mixed Tryz.func76 (by kernel_rfl) (Eq.mpr (by kernel_rfl) h)
def an_vector_each : An := ⟨[(0, [(22, (.one (.int .i64)))], [(10, 10), (22, 38)])], [(0, [], [(10, 10), (22, 38)])], [], [], [(8, (.q 0 (.q 1 (.q 2 (.q 3 (.q 4 (.q 5 (.q 6 (.q 7 (.q 8 (.q 9 (.q 10 (.e 11 (.q 12 (.e 13 .done)))))))))))))))]⟩
theorem ok_vector_each : Ok_vector_each nums Tryz.prog := fun q0 q0l q0c q1 q1l q1c q2 w K h =>
 funD_callsX (fn := Tryz.f77) (an := an_vector_each) tok tsize mixed Tryz.func77 (by kernel_rfl) (Eq.mpr (by kernel_rfl) h)
def an_vector_Add_1 : An := ⟨[], [], [], [], []⟩
theorem ok_vector_Add_1 : Ok_vector_Add_1 nums Tryz.prog := fun q0 q1 w K h =>
 funD_callsX (fn := Tryz.f78) (an := an_vector_Add_1) tok tsize mixed Tryz.func78 (by kernel_rfl) (Eq.mpr (by kernel_rfl) h)
def an_round_Add : An := ⟨[], [], [(5, [(22, (.one .bool))], [(22, 39)])], [(58, [(8, (.one .f64)), (9, (.one .f64))], [(8, 9), (59, 60)])], []⟩
theorem ok_round_Add : Ok_round_Add nums Tryz.prog := fun q0 q1 q2 w K h =>
 funD_callsX (fn := Tryz.f82) (an := an_round_Add) tok tsize mixed Tryz.func82 (by kernel_rfl) (Eq.mpr (by kernel_rfl) h)
def an_math_Abs : An := ⟨[], [], [], [], []⟩
theorem ok_math_Abs : Ok_math_Abs nums Tryz.prog := fun q0 w K h =>
 funD_callsX (fn := Tryz.f83) (an := an_math_Abs) tok tsize mixed Tryz.func83 (by kernel_rfl) (Eq.mpr (by kernel_rfl) h)
def an_solve_fits : An := ⟨[], [], [], [], []⟩
theorem ok_solve_fits : Ok_solve_fits nums Tryz.prog := fun q0_0 q0_1 q0_1l q0_1c q0_2 q0_2l q0_2c q1 w K h =>
 funD_callsX (fn := Tryz.f85) (an := an_solve_fits) tok tsize mixed Tryz.func85 (by kernel_rfl) (Eq.mpr (by kernel_rfl) h)
def an_slices_Clone___float64_float64 : An := ⟨[], [], [], [], []⟩
theorem ok_slices_Clone___float64_float64 : Ok_slices_Clone___float64_float64 nums Tryz.prog := fun q0 q0l q0c w K h =>
 funD_callsX (fn := Tryz.f86) (an := an_slices_Clone___float64_float64) tok tsize mixed Tryz.func86 (by kernel_rfl) (Eq.mpr (by kernel_rfl) h)
def an_solve_below : An := ⟨[], [], [], [], []⟩
theorem ok_solve_below : Ok_solve_below nums Tryz.prog := fun q0_0 q0_1 q0_1l q0_1c q0_2 q0_2l q0_2c q1 q2 w K h =>
 funD_callsX (fn := Tryz.f87) (an := an_solve_below) tok tsize mixed Tryz.func87 (by kernel_rfl) (Eq.mpr (by kernel_rfl) h)
def an_slices_Contains___float64_float64 : An := ⟨[], [], [], [], []⟩
theorem ok_slices_Contains___float64_float64 : Ok_slices_Contains___float64_float64 nums Tryz.prog := fun q0 q0l q0c q1 w K h =>
 funD_callsX (fn := Tryz.f88) (an := an_slices_Contains___float64_float64) tok tsize mixed Tryz.func88 (by kernel_rfl) (Eq.mpr (by kernel_rfl) h)
def an_matrix_fits : An := ⟨[], [], [], [], []⟩
theorem ok_matrix_fits : Ok_matrix_fits nums Tryz.prog := fun q0 w K h =>
 funD_callsX (fn := Tryz.f89) (an := an_matrix_fits) tok tsize mixed Tryz.func89 (by kernel_rfl) (Eq.mpr (by kernel_rfl) h)
def an_math_IsNaN : An := ⟨[], [], [], [], []⟩
theorem ok_math_IsNaN : Ok_math_IsNaN nums Tryz.prog := fun q0 w K h =>
 funD_callsX (fn := Tryz.f90) (an := an_math_IsNaN) tok tsize mixed Tryz.func90 (by kernel_rfl) (Eq.mpr (by kernel_rfl) h)
def an_math_IsInf : An := ⟨[], [], [], [(6, [(0, (.one .f64))], [(0, 0), (7, 12)]), (10, [(0, (.one .f64))], [(0, 0), (11, 12)])], []⟩
theorem ok_math_IsInf : Ok_math_IsInf nums Tryz.prog := fun q0 q1 w K h =>
 funD_callsX (fn := Tryz.f91) (an := an_math_IsInf) tok tsize mixed Tryz.func91 (by kernel_rfl) (Eq.mpr (by kernel_rfl) h)
def an_dyad_Int : An := ⟨[], [], [], [], []⟩
theorem ok_dyad_Int : Ok_dyad_Int nums Tryz.prog := fun q0 w K h =>
 funD_callsX (fn := Tryz.f92) (an := an_dyad_Int) tok tsize mixed Tryz.func92 (by kernel_rfl) (Eq.mpr (by kernel_rfl) h)
def an_dyad_Add : An := ⟨[], [], [(4, [(25, (.one .bool))], [(18, 25)])], [(42, [(6, (.one .ptr)), (7, (.one .ptr))], [(6, 7), (43, 46)])], [(3, (.q 0 (.q 2 (.e 1 (.e 3 (.q 4 (.q 5 .done))))))), (5, (.q 0 (.q 1 (.q 2 (.q 4 (.q 5 (.q 6 (.q 7 (.q 8 (.e 3 (.e 9 (.q 10 (.q 11 (.e 12 (.q 13 .done))))))))))))))), (11, (.q 0 (.q 1 (.q 2 (.q 3 (.q 4 (.q 6 (.q 8 (.q 9 (.e 5 (.e 7 (.e 10 (.q 11 (.q 12 (.e 13 (.q 14 .done))))))))))))))))]⟩
theorem ok_dyad_Add : Ok_dyad_Add nums Tryz.prog := fun q0_0 q0_1 q0_1l q0_1c q0_2 q1_0 q1_1 q1_1l q1_1c q1_2 w K h =>
 funD_callsX (fn := Tryz.f93) (an := an_dyad_Add) tok tsize mixed Tryz.func93 (by kernel_rfl) (Eq.mpr (by kernel_rfl) h)
def an_bits_Split : An := ⟨[], [], [], [], []⟩
theorem ok_bits_Split : Ok_bits_Split nums Tryz.prog := fun q0 w K h =>
 funD_callsX (fn := Tryz.f94) (an := an_bits_Split) tok tsize mixed Tryz.func94 (by kernel_rfl) (Eq.mpr (by kernel_rfl) h)
def an_dyad_both : An := ⟨[], [], [], [], []⟩
theorem ok_dyad_both : Ok_dyad_both nums Tryz.prog := fun q0_0 q0_1 q0_1l q0_1c q0_2 q1_0 q1_1 q1_1l q1_1c q1_2 w K h =>
 funD_callsX (fn := Tryz.f95) (an := an_dyad_both) tok tsize mixed Tryz.func95 (by kernel_rfl) (Eq.mpr (by kernel_rfl) h)
def an_dyad_whole : An := ⟨[(0, [(9, (.one (.int .i64)))], [(4, 4), (9, 30)])], [(0, [], [(4, 4), (9, 30)])], [], [(32, [], [(33, 35)])], []⟩
theorem ok_dyad_whole : Ok_dyad_whole nums Tryz.prog := fun q0_0 q0_1 q0_1l q0_1c q0_2 w K h =>
 funD_callsX (fn := Tryz.f96) (an := an_dyad_whole) tok tsize mixed Tryz.func96 (by kernel_rfl) (Eq.mpr (by kernel_rfl) h)
def an_dyad_made : An := ⟨[], [], [], [], []⟩
theorem ok_dyad_made : Ok_dyad_made nums Tryz.prog := fun q0 q1 w K h =>
 funD_callsX (fn := Tryz.f97) (an := an_dyad_made) tok tsize mixed Tryz.func97 (by kernel_rfl) (Eq.mpr (by kernel_rfl) h)
def an_bI_Mul : An := ⟨[], [], [], [], [(1, (.q 0 (.q 1 (.q 2 (.q 3 (.q 4 (.q 5 (.q 6 (.q 7 (.q 8 (.q 9 (.q 10 (.q 11 (.q 12 (.q 13 (.q 14 (.q 15 (.q 16 (.q 17 (.e 18 (.e 19 (.q 20 .done))))))))))))))))))))))]⟩
theorem ok_bI_Mul : Ok_bI_Mul nums Tryz.prog := fun q0 q1 q2 w K h =>
 funD_callsX (fn := Tryz.f98) (an := an_bI_Mul) tok tsize mixed Tryz.func98 (by kernel_rfl) (Eq.mpr (by kernel_rfl) h)
def an_dyad_Right : An := ⟨[], [], [], [], []⟩
theorem ok_dyad_Right : Ok_dyad_Right nums Tryz.prog := fun q0_0 q0_1 q0_1l q0_1c q0_2 w K h =>
 funD_callsX (fn := Tryz.f99) (an := an_dyad_Right) tok tsize mixed Tryz.func99 (by kernel_rfl) (Eq.mpr (by kernel_rfl) h)
def an_bI_Abs : An := ⟨[], [], [], [], []⟩
theorem ok_bI_Abs : Ok_bI_Abs nums Tryz.prog := fun q0 q1 w K h =>
 funD_callsX (fn := Tryz.f100) (an := an_bI_Abs) tok tsize mixed Tryz.func100 (by kernel_rfl) (Eq.mpr (by kernel_rfl) h)
def an_dyad_top : An := ⟨[], [], [], [], [(2, (.q 0 (.q 1 (.q 2 (.q 3 (.q 4 (.q 5 (.q 6 (.q 7 (.q 8 (.q 9 (.q 10 (.q 11 (.e 12 (.q 13 (.q 14 .done))))))))))))))))]⟩
theorem ok_dyad_top : Ok_dyad_top nums Tryz.prog := fun q0_0 q0_1 q0_1l q0_1c q0_2 w K h =>
 funD_callsX (fn := Tryz.f101) (an := an_dyad_top) tok tsize mixed Tryz.func101 (by kernel_rfl) (Eq.mpr (by kernel_rfl) h)
def an_bI_Lsh : An := ⟨[], [], [], [], [(1, (.q 0 (.q 1 (.q 2 (.q 3 (.q 4 (.q 5 (.q 6 (.q 7 (.q 8 (.q 9 (.e 10 (.e 11 (.q 12 .done))))))))))))))]⟩
theorem ok_bI_Lsh : Ok_bI_Lsh nums Tryz.prog := fun q0 q1 q2 w K h =>
 funD_callsX (fn := Tryz.f102) (an := an_bI_Lsh) tok tsize mixed Tryz.func102 (by kernel_rfl) (Eq.mpr (by kernel_rfl) h)
def an_bI_Uint64 : An := ⟨[], [], [], [(9, [(3, (.one (.int .u64)))], [(3, 3), (10, 16)]), (22, [(3, (.one (.int .u64)))], [(3, 3), (23, 32)])], []⟩
theorem ok_bI_Uint64 : Ok_bI_Uint64 nums Tryz.prog := fun q0 w K h =>
 funD_callsX (fn := Tryz.f103) (an := an_bI_Uint64) tok tsize mixed Tryz.func103 (by kernel_rfl) (Eq.mpr (by kernel_rfl) h)
def an_bI_Rsh : An := ⟨[], [], [], [], []⟩
theorem ok_bI_Rsh : Ok_bI_Rsh nums Tryz.prog := fun q0 q1 q2 w K h =>
 funD_callsX (fn := Tryz.f104) (an := an_bI_Rsh) tok tsize mixed Tryz.func104 (by kernel_rfl) (Eq.mpr (by kernel_rfl) h)
def an_bI_Sub : An := ⟨[], [], [], [], [(1, (.q 0 (.q 1 (.q 2 (.q 3 (.q 4 (.q 5 (.q 6 (.q 7 (.q 8 (.q 9 (.q 10 (.q 11 (.q 12 (.q 13 (.q 14 (.q 15 (.q 16 (.q 17 (.e 18 (.q 19 (.q 20 (.e 21 (.q 22 .done))))))))))))))))))))))))]⟩
theorem ok_bI_Sub : Ok_bI_Sub nums Tryz.prog := fun q0 q1 q2 w K h =>
 funD_callsX (fn := Tryz.f105) (an := an_bI_Sub) tok tsize mixed Tryz.func105 (by kernel_rfl) (Eq.mpr (by kernel_rfl) h)
def an_bI_Cmp : An := ⟨[], [], [], [], [(1, (.q 0 (.q 1 (.q 2 (.q 3 (.q 4 (.q 5 (.q 6 (.q 7 (.q 8 .done)))))))))), (5, (.q 0 (.q 1 (.q 2 (.q 3 (.q 4 (.q 5 (.q 6 (.q 7 (.e 8 (.q 9 .done)))))))))))]⟩
theorem ok_bI_Cmp : Ok_bI_Cmp nums Tryz.prog := fun q0 q1 w K h =>
 funD_callsX (fn := Tryz.f106) (an := an_bI_Cmp) tok tsize mixed Tryz.func106 (by kernel_rfl) (Eq.mpr (by kernel_rfl) h)
def an_bn_NewInt : An := ⟨[], [], [], [], []⟩
theorem ok_bn_NewInt : Ok_bn_NewInt nums Tryz.prog := fun q0 w K h =>
 funD_callsX (fn := Tryz.f107) (an := an_bn_NewInt) tok tsize mixed Tryz.func107 (by kernel_rfl) (Eq.mpr (by kernel_rfl) h)
def an_bI_Sign : An := ⟨[], [], [], [], []⟩
theorem ok_bI_Sign : Ok_bI_Sign nums Tryz.prog := fun q0 w K h =>
 funD_callsX (fn := Tryz.f108) (an := an_bI_Sign) tok tsize mixed Tryz.func108 (by kernel_rfl) (Eq.mpr (by kernel_rfl) h)
def an_dyad_away : An := ⟨[], [], [], [], []⟩
theorem ok_dyad_away : Ok_dyad_away nums Tryz.prog := fun q0 q1 q2 q3 w K h =>
 funD_callsX (fn := Tryz.f109) (an := an_dyad_away) tok tsize mixed Tryz.func109 (by kernel_rfl) (Eq.mpr (by kernel_rfl) h)
def an_dyad_float : An := ⟨[], [], [], [(18, [], [(10, 10), (19, 28)])], [(5, (.q 0 (.q 1 (.q 3 (.q 4 (.e 2 (.q 5 (.q 6 .done))))))))]⟩
theorem ok_dyad_float : Ok_dyad_float nums Tryz.prog := fun q0 q1 q2 q3 w K h =>
 funD_callsX (fn := Tryz.f110) (an := an_dyad_float) tok tsize mixed Tryz.func110 (by kernel_rfl) (Eq.mpr (by kernel_rfl) h)
def an_vector_fit : An := ⟨[], [], [], [], []⟩
theorem ok_vector_fit : Ok_vector_fit nums Tryz.prog := fun q0 q0l q0c q1 q1l q1c w K h =>
 funD_callsX (fn := Tryz.f121) (an := an_vector_fit) tok tsize mixed Tryz.func121 (by kernel_rfl) (Eq.mpr (by kernel_rfl) h)
def an_round_way : An := ⟨[], [], [], [], []⟩
theorem ok_round_way : Ok_round_way nums Tryz.prog := fun q0 w K h =>
 funD_callsX (fn := Tryz.f125) (an := an_round_way) tok tsize mixed Tryz.func125 (by kernel_rfl) (Eq.mpr (by kernel_rfl) h)
def an_round_finite : An := ⟨[(0, [(7, (.one (.int .i64)))], [(2, 2), (4, 4), (7, 17)])], [(0, [], [(2, 2), (4, 4), (7, 17)])], [], [], []⟩
theorem ok_round_finite : Ok_round_finite nums Tryz.prog := fun q0 q0l q0c w K h =>
 funD_callsX (fn := Tryz.f126) (an := an_round_finite) tok tsize mixed Tryz.func126 (by kernel_rfl) (Eq.mpr (by kernel_rfl) h)
def an_math_Signbit : An := ⟨[], [], [], [], []⟩
theorem ok_math_Signbit : Ok_math_Signbit nums Tryz.prog := fun q0 w K h =>
 funD_callsX (fn := Tryz.f127) (an := an_math_Signbit) tok tsize mixed Tryz.func127 (by kernel_rfl) (Eq.mpr (by kernel_rfl) h)
def an_round_none : An := ⟨[], [], [], [], []⟩
theorem ok_round_none : Ok_round_none nums Tryz.prog := fun q0 w K h =>
 funD_callsX (fn := Tryz.f128) (an := an_round_none) tok tsize mixed Tryz.func128 (by kernel_rfl) (Eq.mpr (by kernel_rfl) h)
def an_round_settle : An := ⟨[], [], [], [(8, [(2, (.one (.int .i8)))], [(2, 2), (9, 10)]), (10, [(2, (.one (.int .i8)))], [(2, 2)])], []⟩
theorem ok_round_settle : Ok_round_settle nums Tryz.prog := fun q0 q1 q2 w K h =>
 funD_callsX (fn := Tryz.f129) (an := an_round_settle) tok tsize mixed Tryz.func129 (by kernel_rfl) (Eq.mpr (by kernel_rfl) h)
def an_round_sign : An := ⟨[], [], [], [], []⟩
theorem ok_round_sign : Ok_round_sign nums Tryz.prog := fun q0 w K h =>
 funD_callsX (fn := Tryz.f130) (an := an_round_sign) tok tsize mixed Tryz.func130 (by kernel_rfl) (Eq.mpr (by kernel_rfl) h)
def an_slices_Index___float64_float64 : An := ⟨[(0, [(8, (.one (.int .i64)))], [(4, 5), (8, 18)])], [(0, [], [(4, 5), (8, 18)])], [], [], []⟩
theorem ok_slices_Index___float64_float64 : Ok_slices_Index___float64_float64 nums Tryz.prog := fun q0 q0l q0c q1 w K h =>
 funD_callsX (fn := Tryz.f137) (an := an_slices_Index___float64_float64) tok tsize mixed Tryz.func137 (by kernel_rfl) (Eq.mpr (by kernel_rfl) h)
def an_bI_Add : An := ⟨[], [], [], [], [(1, (.q 0 (.q 1 (.q 2 (.q 3 (.q 4 (.q 5 (.q 6 (.q 7 (.q 8 (.q 9 (.q 10 (.q 11 (.q 12 (.q 13 (.q 14 (.q 15 (.q 16 (.e 17 (.q 18 (.q 19 (.e 20 (.q 21 .done)))))))))))))))))))))))]⟩
theorem ok_bI_Add : Ok_bI_Add nums Tryz.prog := fun q0 q1 q2 w K h =>
 funD_callsX (fn := Tryz.f138) (an := an_bI_Add) tok tsize mixed Tryz.func138 (by kernel_rfl) (Eq.mpr (by kernel_rfl) h)
def an_bits_Kind : An := ⟨[], [], [], [], []⟩
theorem ok_bits_Kind : Ok_bits_Kind nums Tryz.prog := fun q0 w K h =>
 funD_callsX (fn := Tryz.f139) (an := an_bits_Kind) tok tsize mixed Tryz.func139 (by kernel_rfl) (Eq.mpr (by kernel_rfl) h)
def an_math_Frexp : An := ⟨[], [], [], [], []⟩
theorem ok_math_Frexp : Ok_math_Frexp nums Tryz.prog := fun q0 w K h =>
 funD_callsX (fn := Tryz.f140) (an := an_math_Frexp) tok tsize mixed Tryz.func140 (by kernel_rfl) (Eq.mpr (by kernel_rfl) h)
def an_math_Ldexp : An := ⟨[], [], [], [], []⟩
theorem ok_math_Ldexp : Ok_math_Ldexp nums Tryz.prog := fun q0 q1 w K h =>
 funD_callsX (fn := Tryz.f141) (an := an_math_Ldexp) tok tsize mixed Tryz.func141 (by kernel_rfl) (Eq.mpr (by kernel_rfl) h)
def an_math_bits_TrailingZeros64 : An := ⟨[], [], [], [], []⟩
theorem ok_math_bits_TrailingZeros64 : Ok_math_bits_TrailingZeros64 nums Tryz.prog := fun q0 w K h =>
 funD_callsX (fn := Tryz.f142) (an := an_math_bits_TrailingZeros64) tok tsize mixed Tryz.func142 (by kernel_rfl) (Eq.mpr (by kernel_rfl) h)
def an_bI_Or : An := ⟨[(0, [(10, (.one (.int .i64)))], [(10, 10), (29, 43)])], [(0, [], [(10, 10), (29, 43)])], [], [], [(1, (.q 0 (.q 1 (.q 2 (.q 3 (.q 4 (.q 5 (.q 6 (.q 7 (.q 8 (.q 9 (.q 10 (.q 11 (.q 12 .done)))))))))))))), (6, (.q 0 (.q 1 (.q 2 (.q 3 (.q 4 (.q 5 (.q 6 (.q 7 (.q 8 (.q 9 (.e 10 .done))))))))))))]⟩
theorem ok_bI_Or : Ok_bI_Or nums Tryz.prog := fun q0 q1 q2 w K h =>
 funD_callsX (fn := Tryz.f143) (an := an_bI_Or) tok tsize mixed Tryz.func143 (by kernel_rfl) (Eq.mpr (by kernel_rfl) h)
def an_bI_SetUint64 : An := ⟨[], [], [], [], []⟩
theorem ok_bI_SetUint64 : Ok_bI_SetUint64 nums Tryz.prog := fun q0 q1 w K h =>
 funD_callsX (fn := Tryz.f144) (an := an_bI_SetUint64) tok tsize mixed Tryz.func144 (by kernel_rfl) (Eq.mpr (by kernel_rfl) h)
def an_bI_Neg : An := ⟨[], [], [], [], [(1, (.q 0 (.q 1 (.q 2 (.q 3 (.q 4 (.q 5 (.q 6 (.q 7 (.q 8 (.q 9 (.e 10 (.e 11 (.q 12 .done))))))))))))))]⟩
theorem ok_bI_Neg : Ok_bI_Neg nums Tryz.prog := fun q0 q1 w K h =>
 funD_callsX (fn := Tryz.f145) (an := an_bI_Neg) tok tsize mixed Tryz.func145 (by kernel_rfl) (Eq.mpr (by kernel_rfl) h)
def an_bI_TrailingZeroBits : An := ⟨[(0, [(3, (.one (.int .u64)))], [(3, 3), (10, 19)])], [(0, [(3, (.one (.int .u64)))], [(3, 3), (10, 19)])], [], [], []⟩
theorem ok_bI_TrailingZeroBits : Ok_bI_TrailingZeroBits nums Tryz.prog := fun q0 w K h =>
 funD_callsX (fn := Tryz.f146) (an := an_bI_TrailingZeroBits) tok tsize mixed Tryz.func146 (by kernel_rfl) (Eq.mpr (by kernel_rfl) h)
def an_bI_BitLen : An := ⟨[], [], [], [], []⟩
theorem ok_bI_BitLen : Ok_bI_BitLen nums Tryz.prog := fun q0 w K h =>
 funD_callsX (fn := Tryz.f147) (an := an_bI_BitLen) tok tsize mixed Tryz.func147 (by kernel_rfl) (Eq.mpr (by kernel_rfl) h)
def an_dyad_limbs : An := ⟨[(0, [(3, (.one .slice))], [(3, 3), (13, 26)])], [(0, [(3, (.one .slice))], [(3, 3), (13, 26)])], [], [], []⟩
theorem ok_dyad_limbs : Ok_dyad_limbs nums Tryz.prog := fun q0 w K h =>
 funD_callsX (fn := Tryz.f148) (an := an_dyad_limbs) tok tsize mixed Tryz.func148 (by kernel_rfl) (Eq.mpr (by kernel_rfl) h)
def an_bI_give : An := ⟨[], [], [], [], []⟩
theorem ok_bI_give : Ok_bI_give nums Tryz.prog := fun q0 q1 q2 q2l q2c w K h =>
 funD_callsX (fn := Tryz.f149) (an := an_bI_give) tok tsize mixed Tryz.func149 (by kernel_rfl) (Eq.mpr (by kernel_rfl) h)
def an_bn_mul : An := ⟨[(0, [(6, (.one (.int .i64)))], [(6, 8), (23, 72)]), (2, [(7, (.one (.int .u64))), (8, (.one (.int .i64)))], [(7, 8), (29, 64)])], [(0, [], [(6, 8), (23, 72)]), (2, [(7, (.one (.int .u64)))], [(7, 8), (29, 64)])], [(1, [(16, (.one .bool))], [(9, 16)])], [], [(11, (.q 0 (.q 1 (.q 2 (.q 3 (.q 4 (.q 5 (.q 6 (.q 7 (.q 8 (.q 9 (.q 10 (.q 11 (.q 12 (.q 13 (.q 14 (.q 15 (.q 16 (.q 17 (.q 18 (.q 19 (.q 20 (.q 21 .done)))))))))))))))))))))))]⟩
theorem ok_bn_mul : Ok_bn_mul nums Tryz.prog := fun q0 q0l q0c q1 q1l q1c w K h =>
 funD_callsX (fn := Tryz.f150) (an := an_bn_mul) tok tsize mixed Tryz.func150 (by kernel_rfl) (Eq.mpr (by kernel_rfl) h)
def an_bn_twin : An := ⟨[], [], [], [], []⟩
theorem ok_bn_twin : Ok_bn_twin nums Tryz.prog := fun q0 q0l q0c w K h =>
 funD_callsX (fn := Tryz.f151) (an := an_bn_twin) tok tsize mixed Tryz.func151 (by kernel_rfl) (Eq.mpr (by kernel_rfl) h)
def an_bn_left : An := ⟨[(0, [(8, (.one (.int .i64)))], [(8, 9), (24, 58)])], [(0, [], [(8, 9), (24, 58)])], [], [], []⟩
theorem ok_bn_left : Ok_bn_left nums Tryz.prog := fun q0 q0l q0c q1 w K h =>
 funD_callsX (fn := Tryz.f153) (an := an_bn_left) tok tsize mixed Tryz.func153 (by kernel_rfl) (Eq.mpr (by kernel_rfl) h)
def an_bn_add : An := ⟨[(0, [(6, (.one (.int .u64))), (7, (.one (.int .i64)))], [(6, 7), (19, 49)])], [(0, [(6, (.one (.int .u64)))], [(6, 7), (19, 49)])], [], [(12, [(0, (.one .slice)), (1, (.one .slice))], [(0, 1), (13, 14)]), (35, [(6, (.one (.int .u64)))], [(6, 6), (36, 42)])], []⟩
theorem ok_bn_add : Ok_bn_add nums Tryz.prog := fun q0 q0l q0c q1 q1l q1c w K h =>
 funD_callsX (fn := Tryz.f154) (an := an_bn_add) tok tsize mixed Tryz.func154 (by kernel_rfl) (Eq.mpr (by kernel_rfl) h)
def an_bn_right : An := ⟨[(0, [(8, (.one (.int .i64)))], [(8, 9), (24, 61)])], [(0, [], [(8, 9), (24, 61)])], [], [(43, [(9, (.one (.int .u64)))], [(9, 9), (44, 54)])], []⟩
theorem ok_bn_right : Ok_bn_right nums Tryz.prog := fun q0 q0l q0c q1 w K h =>
 funD_callsX (fn := Tryz.f155) (an := an_bn_right) tok tsize mixed Tryz.func155 (by kernel_rfl) (Eq.mpr (by kernel_rfl) h)
def an_bn_sub : An := ⟨[(0, [(6, (.one (.int .u64))), (7, (.one (.int .i64)))], [(6, 8), (12, 42)])], [(0, [], [(6, 8), (12, 42)])], [], [(28, [(8, (.one (.int .u64)))], [(8, 8), (29, 35)])], []⟩
theorem ok_bn_sub : Ok_bn_sub nums Tryz.prog := fun q0 q0l q0c q1 q1l q1c w K h =>
 funD_callsX (fn := Tryz.f156) (an := an_bn_sub) tok tsize mixed Tryz.func156 (by kernel_rfl) (Eq.mpr (by kernel_rfl) h)
def an_bn_sum : An := ⟨[], [], [], [], []⟩
theorem ok_bn_sum : Ok_bn_sum nums Tryz.prog := fun q0 q1 q1l q1c q2 q3 q3l q3c w K h =>
 funD_callsX (fn := Tryz.f157) (an := an_bn_sum) tok tsize mixed Tryz.func157 (by kernel_rfl) (Eq.mpr (by kernel_rfl) h)
def an_bn_cmp : An := ⟨[(0, [(5, (.one (.int .i64)))], [(4, 5), (19, 40)])], [(0, [], [(4, 5), (19, 40)])], [], [], [(8, (.q 0 (.q 1 (.q 2 (.q 3 (.q 4 (.q 5 (.q 6 (.q 7 (.q 8 .done)))))))))), (9, (.q 0 (.q 1 (.q 2 (.q 3 (.q 4 (.q 5 (.q 6 (.q 7 (.q 8 .done))))))))))]⟩
theorem ok_bn_cmp : Ok_bn_cmp nums Tryz.prog := fun q0 q0l q0c q1 q1l q1c w K h =>
 funD_callsX (fn := Tryz.f158) (an := an_bn_cmp) tok tsize mixed Tryz.func158 (by kernel_rfl) (Eq.mpr (by kernel_rfl) h)
def an_bI_SetInt64 : An := ⟨[], [], [], [(9, [(5, (.one (.int .u64)))], [(5, 5), (10, 11)])], []⟩
theorem ok_bI_SetInt64 : Ok_bI_SetInt64 nums Tryz.prog := fun q0 q1 w K h =>
 funD_callsX (fn := Tryz.f159) (an := an_bI_SetInt64) tok tsize mixed Tryz.func159 (by kernel_rfl) (Eq.mpr (by kernel_rfl) h)
def an_bits_Join : An := ⟨[], [], [(2, [(9, (.one .bool))], [(9, 28)]), (4, [(29, (.one .bool))], [(29, 53)])], [(61, [(5, (.one .f64))], [(5, 5), (62, 63)])], []⟩
theorem ok_bits_Join : Ok_bits_Join nums Tryz.prog := fun q0_0 q0_1 q0_2 w K h =>
 funD_callsX (fn := Tryz.f160) (an := an_bits_Join) tok tsize mixed Tryz.func160 (by kernel_rfl) (Eq.mpr (by kernel_rfl) h)
def an_bits_Next : An := ⟨[], [], [], [(17, [(5, (.one (.int .i64)))], [(5, 5), (18, 23)])], []⟩
theorem ok_bits_Next : Ok_bits_Next nums Tryz.prog := fun q0 q1 w K h =>
 funD_callsX (fn := Tryz.f161) (an := an_bits_Next) tok tsize mixed Tryz.func161 (by kernel_rfl) (Eq.mpr (by kernel_rfl) h)
def an_math_Copysign : An := ⟨[], [], [], [], []⟩
theorem ok_math_Copysign : Ok_math_Copysign nums Tryz.prog := fun q0 q1 w K h =>
 funD_callsX (fn := Tryz.f164) (an := an_math_Copysign) tok tsize mixed Tryz.func164 (by kernel_rfl) (Eq.mpr (by kernel_rfl) h)
def an_round_step : An := ⟨[], [(0, [(5, (.one (.int .u64)))], [(5, 5), (8, 23)])], [], [(10, [(5, (.one (.int .u64)))], [(5, 5), (8, 9), (13, 23)]), (14, [(5, (.one (.int .u64)))], [(5, 5), (15, 16)]), (17, [(5, (.one (.int .u64)))], [(5, 5), (8, 9), (22, 23)])], []⟩
theorem ok_round_step : Ok_round_step nums Tryz.prog := fun q0 q1 w K h =>
 funD_callsX (fn := Tryz.f165) (an := an_round_step) tok tsize mixed Tryz.func165 (by kernel_rfl) (Eq.mpr (by kernel_rfl) h)
def an_math_frexp : An := ⟨[], [], [], [], []⟩
theorem ok_math_frexp : Ok_math_frexp nums Tryz.prog := fun q0 w K h =>
 funD_callsX (fn := Tryz.f169) (an := an_math_frexp) tok tsize mixed Tryz.func169 (by kernel_rfl) (Eq.mpr (by kernel_rfl) h)
def an_math_ldexp : An := ⟨[], [], [(3, [(12, (.one .bool))], [(12, 18)])], [(48, [(1, (.one (.int .i64))), (7, (.one .f64))], [(1, 1), (7, 7), (49, 50)])], []⟩
theorem ok_math_ldexp : Ok_math_ldexp nums Tryz.prog := fun q0 q1 w K h =>
 funD_callsX (fn := Tryz.f171) (an := an_math_ldexp) tok tsize mixed Tryz.func171 (by kernel_rfl) (Eq.mpr (by kernel_rfl) h)
def an_bI_low : An := ⟨[(0, [(6, (.one (.int .u64))), (7, (.one (.int .i64)))], [(6, 7), (20, 39)])], [(0, [], [(6, 7), (20, 39)])], [], [(19, [], [(6, 7), (20, 39)])], []⟩
theorem ok_bI_low : Ok_bI_low nums Tryz.prog := fun q0 q1 w K h =>
 funD_callsX (fn := Tryz.f172) (an := an_bI_low) tok tsize mixed Tryz.func172 (by kernel_rfl) (Eq.mpr (by kernel_rfl) h)
def an_bI_of : An := ⟨[(0, [(5, (.one (.int .u64))), (6, (.one (.int .i64)))], [(5, 6), (20, 40)])], [(0, [], [(5, 6), (20, 40)])], [(1, [(19, (.one .bool))], [(7, 19)])], [], []⟩
theorem ok_bI_of : Ok_bI_of nums Tryz.prog := fun q0 q1 q1l q1c w K h =>
 funD_callsX (fn := Tryz.f173) (an := an_bI_of) tok tsize mixed Tryz.func173 (by kernel_rfl) (Eq.mpr (by kernel_rfl) h)
def an_bn_words : An := ⟨[], [], [], [], []⟩
theorem ok_bn_words : Ok_bn_words nums Tryz.prog := fun q0 w K h =>
 funD_callsX (fn := Tryz.f174) (an := an_bn_words) tok tsize mixed Tryz.func174 (by kernel_rfl) (Eq.mpr (by kernel_rfl) h)
def an_bn_bit : An := ⟨[], [], [], [], []⟩
theorem ok_bn_bit : Ok_bn_bit nums Tryz.prog := fun q0 q0l q0c q1 w K h =>
 funD_callsX (fn := Tryz.f175) (an := an_bn_bit) tok tsize mixed Tryz.func175 (by kernel_rfl) (Eq.mpr (by kernel_rfl) h)
def an_bn_length : An := ⟨[(0, [(3, (.one (.int .i64))), (4, (.one (.int .u32)))], [(3, 4), (14, 19)])], [(0, [(3, (.one (.int .i64)))], [(3, 4), (14, 19)])], [], [], []⟩
theorem ok_bn_length : Ok_bn_length nums Tryz.prog := fun q0 q0l q0c w K h =>
 funD_callsX (fn := Tryz.f176) (an := an_bn_length) tok tsize mixed Tryz.func176 (by kernel_rfl) (Eq.mpr (by kernel_rfl) h)
def an_bI_And : An := ⟨[(0, [(10, (.one (.int .i64)))], [(10, 10), (29, 43)])], [(0, [], [(10, 10), (29, 43)])], [], [], [(1, (.q 0 (.q 1 (.q 2 (.q 3 (.q 4 (.q 5 (.q 6 (.q 7 (.q 8 (.q 9 (.q 10 (.q 11 (.q 12 .done)))))))))))))), (6, (.q 0 (.q 1 (.q 2 (.q 3 (.q 4 (.q 5 (.q 6 (.q 7 (.q 8 (.q 9 (.e 10 .done))))))))))))]⟩
theorem ok_bI_And : Ok_bI_And nums Tryz.prog := fun q0 q1 q2 w K h =>
 funD_callsX (fn := Tryz.f177) (an := an_bI_And) tok tsize mixed Tryz.func177 (by kernel_rfl) (Eq.mpr (by kernel_rfl) h)
def an_bn_trim : An := ⟨[(0, [(3, (.one (.int .i64)))], [(3, 3), (6, 17)])], [(0, [(3, (.one (.int .i64)))], [(3, 3), (6, 17)])], [], [], []⟩
theorem ok_bn_trim : Ok_bn_trim nums Tryz.prog := fun q0 q0l q0c w K h =>
 funD_callsX (fn := Tryz.f178) (an := an_bn_trim) tok tsize mixed Tryz.func178 (by kernel_rfl) (Eq.mpr (by kernel_rfl) h)
def an_bits_Place : An := ⟨[], [], [], [(13, [(4, (.one (.int .i64)))], [(4, 4), (14, 15)])], []⟩
theorem ok_bits_Place : Ok_bits_Place nums Tryz.prog := fun q0 w K h =>
 funD_callsX (fn := Tryz.f179) (an := an_bits_Place) tok tsize mixed Tryz.func179 (by kernel_rfl) (Eq.mpr (by kernel_rfl) h)
def an_bits_At : An := ⟨[], [], [], [], []⟩
theorem ok_bits_At : Ok_bits_At nums Tryz.prog := fun q0 w K h =>
 funD_callsX (fn := Tryz.f180) (an := an_bits_At) tok tsize mixed Tryz.func180 (by kernel_rfl) (Eq.mpr (by kernel_rfl) h)
def an_math_normalize : An := ⟨[], [], [], [], []⟩
theorem ok_math_normalize : Ok_math_normalize nums Tryz.prog := fun q0 w K h =>
 funD_callsX (fn := Tryz.f183) (an := an_math_normalize) tok tsize mixed Tryz.func183 (by kernel_rfl) (Eq.mpr (by kernel_rfl) h)
def an_math_Inf : An := ⟨[], [], [], [(5, [(3, (.one (.int .u64)))], [(3, 3)])], []⟩
theorem ok_math_Inf : Ok_math_Inf nums Tryz.prog := fun q0 w K h =>
 funD_callsX (fn := Tryz.f184) (an := an_math_Inf) tok tsize mixed Tryz.func184 (by kernel_rfl) (Eq.mpr (by kernel_rfl) h)
theorem ok_math_Float64bits : Ok_math_Float64bits nums Tryz.prog := by
  intro x w K h
  exact ext_ok (fn := Tryz.f75) (g := Extern.MathFloatBits.float64bits) Tryz.func75 (by kernel_rfl) (by kernel_rfl) (by kernel_rfl) (by kernel_rfl) rfl h
theorem ok_math_Float64frombits : Ok_math_Float64frombits nums Tryz.prog := by
  intro x w K h
  exact ext_ok (fn := Tryz.f131) (g := Extern.MathFloatBits.float64frombits) Tryz.func131 (by kernel_rfl) (by kernel_rfl) (by kernel_rfl) (by kernel_rfl) rfl h
theorem ok_math_bits_Len64 : Ok_math_bits_Len64 nums Tryz.prog := by
  intro x h0 h1 w K h
  exact callsX_of (fn := Tryz.f152) Tryz.func152 (by kernel_rfl) (by kernel_rfl) ((Tryz.bits_Len64 x w h0 h1).mono fun e w1 ⟨he, hw⟩ => ⟨_, he, by subst hw; exact h⟩)
theorem allOk : AllOk nums Tryz.prog := { w14_RefineScales := ok_w14_RefineScales, w14_awake := ok_w14_awake, refine_Left := ok_refine_Left, k_SameReals := ok_k_SameReals, refine_Step := ok_refine_Step, refine_Until := ok_refine_Until, k_Pick := ok_k_Pick, solve_Solve := ok_solve_Solve, k_LikeReals := ok_k_LikeReals, vector_Scale := ok_vector_Scale, w14_two := ok_w14_two, k_mark := ok_k_mark, refine_fit := ok_refine_fit, refine_finite := ok_refine_finite, sums_DotExact := ok_sums_DotExact, k_SameFloat := ok_k_SameFloat, refine_fits := ok_refine_fits, vector_Add := ok_vector_Add, vector_Norm := ok_vector_Norm, solve_Forward := ok_solve_Forward, solve_Back := ok_solve_Back, k_Like := ok_k_Like, matrix_Right := ok_matrix_Right, sums_finite := ok_sums_finite, sums_total := ok_sums_total, sums_DotExact_1 := ok_sums_DotExact_1, dyad_Of := ok_dyad_Of, dyad_Mul := ok_dyad_Mul, dyad_Round := ok_dyad_Round, lower_Right := ok_lower_Right, vector_each := ok_vector_each, vector_Add_1 := ok_vector_Add_1, round_Add := ok_round_Add, math_Abs := ok_math_Abs, solve_fits := ok_solve_fits, slices_Clone___float64_float64 := ok_slices_Clone___float64_float64, solve_below := ok_solve_below, slices_Contains___float64_float64 := ok_slices_Contains___float64_float64, matrix_fits := ok_matrix_fits, math_IsNaN := ok_math_IsNaN, math_IsInf := ok_math_IsInf, dyad_Int := ok_dyad_Int, dyad_Add := ok_dyad_Add, bits_Split := ok_bits_Split, dyad_both := ok_dyad_both, dyad_whole := ok_dyad_whole, dyad_made := ok_dyad_made, bI_Mul := ok_bI_Mul, dyad_Right := ok_dyad_Right, bI_Abs := ok_bI_Abs, dyad_top := ok_dyad_top, bI_Lsh := ok_bI_Lsh, bI_Uint64 := ok_bI_Uint64, bI_Rsh := ok_bI_Rsh, bI_Sub := ok_bI_Sub, bI_Cmp := ok_bI_Cmp, bn_NewInt := ok_bn_NewInt, bI_Sign := ok_bI_Sign, dyad_away := ok_dyad_away, dyad_float := ok_dyad_float, vector_fit := ok_vector_fit, round_way := ok_round_way, round_finite := ok_round_finite, math_Signbit := ok_math_Signbit, round_none := ok_round_none, round_settle := ok_round_settle, round_sign := ok_round_sign, slices_Index___float64_float64 := ok_slices_Index___float64_float64, bI_Add := ok_bI_Add, bits_Kind := ok_bits_Kind, math_Frexp := ok_math_Frexp, math_Ldexp := ok_math_Ldexp, math_bits_TrailingZeros64 := ok_math_bits_TrailingZeros64, bI_Or := ok_bI_Or, bI_SetUint64 := ok_bI_SetUint64, bI_Neg := ok_bI_Neg, bI_TrailingZeroBits := ok_bI_TrailingZeroBits, bI_BitLen := ok_bI_BitLen, dyad_limbs := ok_dyad_limbs, bI_give := ok_bI_give, bn_mul := ok_bn_mul, bn_twin := ok_bn_twin, bn_left := ok_bn_left, bn_add := ok_bn_add, bn_right := ok_bn_right, bn_sub := ok_bn_sub, bn_sum := ok_bn_sum, bn_cmp := ok_bn_cmp, bI_SetInt64 := ok_bI_SetInt64, bits_Join := ok_bits_Join, bits_Next := ok_bits_Next, math_Copysign := ok_math_Copysign, round_step := ok_round_step, math_frexp := ok_math_frexp, math_ldexp := ok_math_ldexp, bI_low := ok_bI_low, bI_of := ok_bI_of, bn_words := ok_bn_words, bn_bit := ok_bn_bit, bn_length := ok_bn_length, bI_And := ok_bI_And, bn_trim := ok_bn_trim, bits_Place := ok_bits_Place, bits_At := ok_bits_At, math_normalize := ok_math_normalize, math_Inf := ok_math_Inf, math_Float64bits := ok_math_Float64bits, math_Float64frombits := ok_math_Float64frombits, math_bits_Len64 := ok_math_bits_Len64 }
end Go.Eng
