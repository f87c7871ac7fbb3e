/-
  Each function of the program comes to what its proposition says: one equation a function, by the kernel. No condition.
-/
import Derived.Test.YtdephdnkkljfeaaDoorLn
import Derived.Test.YtdephdnkkljfeaaDoorRow2
import Derived.Test.YtdephdnkkljfeaaDoorSh
import Derived.Test.YtdephdnkkljfeaaDoorTb
set_option linter.all false
set_option maxRecDepth 100000
namespace Go.Eng
open Go Go.Proofs
def an_w09_VectorNorm : An := ⟨[(0, [(8, (.one .bool)), (9, (.one (.int .i64)))], [(2, 2), (8, 9), (33, 88)]), (2, [(7, (.one (.int .i64))), (10, (.one (.int .i64)))], [(7, 7), (10, 11), (132, 158)])], [(0, [(8, (.one .bool))], [(2, 2), (8, 9), (33, 88)]), (2, [(7, (.one (.int .i64)))], [(7, 7), (10, 11), (132, 158)]), (3, [(7, (.one (.int .i64)))], [(7, 7), (11, 11), (142, 158)])], [(18, [(127, (.one .bool))], [(89, 127)]), (23, [(139, (.one .bool))], [(132, 139)]), (35, [(179, (.one .bool))], [(174, 179)])], [(22, [(0, (.one .slice))], [(0, 0), (23, 24)]), (152, [(7, (.one (.int .i64)))], [(7, 7), (153, 158)])], [(13, (.q 0 (.q 1 (.q 2 (.q 3 (.q 4 (.q 5 (.q 6 (.q 7 (.q 8 .done))))))))))]⟩
theorem ok_w09_VectorNorm : Ok_w09_VectorNorm nums Tryd.prog := fun q0 q0l q0c w K h =>
 funD_callsX (fn := Tryd.f4) (an := an_w09_VectorNorm) tok tsize mixed Tryd.func4 (by kernel_rfl) (Eq.mpr (by kernel_rfl) h)
def an_math_IsInf : An := ⟨[], [], [], [(6, [(0, (.one .f64))], [(0, 0), (7, 12)]), (10, [(0, (.one .f64))], [(0, 0), (11, 12)])], []⟩
theorem ok_math_IsInf : Ok_math_IsInf nums Tryd.prog := fun q0 q1 w K h =>
 funD_callsX (fn := Tryd.f9) (an := an_math_IsInf) tok tsize mixed Tryd.func9 (by kernel_rfl) (Eq.mpr (by kernel_rfl) h)
def an_w09_awake : An := ⟨[], [], [], [], []⟩
theorem ok_w09_awake : Ok_w09_awake nums Tryd.prog := fun  w K h =>
 funD_callsX (fn := Tryd.f11) (an := an_w09_awake) tok tsize mixed Tryd.func11 (by kernel_rfl) (Eq.mpr (by kernel_rfl) h)
def an_vector_Norm : An := ⟨[(0, [(3, (.one .f64)), (8, (.one (.int .i64)))], [(3, 3), (5, 5), (8, 16)])], [(0, [(3, (.one .f64))], [(3, 3), (5, 5), (8, 16)])], [], [], []⟩
theorem ok_vector_Norm : Ok_vector_Norm nums Tryd.prog := fun q0 q0l q0c w K h =>
 funD_callsX (fn := Tryd.f12) (an := an_vector_Norm) tok tsize mixed Tryd.func12 (by kernel_rfl) (Eq.mpr (by kernel_rfl) h)
def an_vector_Most : An := ⟨[(0, [(4, (.one (.int .i64))), (5, (.one .f64)), (10, (.one (.int .i64)))], [(4, 7), (10, 30)])], [(0, [(4, (.one (.int .i64))), (5, (.one .f64))], [(4, 7), (10, 30)]), (1, [(4, (.one (.int .i64))), (5, (.one .f64))], [(4, 7), (12, 29)])], [], [(27, [(4, (.one (.int .i64))), (5, (.one .f64))], [(4, 5), (28, 29)])], []⟩
theorem ok_vector_Most : Ok_vector_Most nums Tryd.prog := fun q0 q0l q0c w K h =>
 funD_callsX (fn := Tryd.f13) (an := an_vector_Most) tok tsize mixed Tryd.func13 (by kernel_rfl) (Eq.mpr (by kernel_rfl) h)
def an_dyad_Int : An := ⟨[], [], [], [], []⟩
theorem ok_dyad_Int : Ok_dyad_Int nums Tryd.prog := fun q0 w K h =>
 funD_callsX (fn := Tryd.f14) (an := an_dyad_Int) tok tsize mixed Tryd.func14 (by kernel_rfl) (Eq.mpr (by kernel_rfl) h)
def an_math_Abs : An := ⟨[], [], [], [], []⟩
theorem ok_math_Abs : Ok_math_Abs nums Tryd.prog := fun q0 w K h =>
 funD_callsX (fn := Tryd.f15) (an := an_math_Abs) tok tsize mixed Tryd.func15 (by kernel_rfl) (Eq.mpr (by kernel_rfl) h)
def an_k_Finite : An := ⟨[], [], [], [], []⟩
theorem ok_k_Finite : Ok_k_Finite nums Tryd.prog := fun q0 w K h =>
 funD_callsX (fn := Tryd.f16) (an := an_k_Finite) tok tsize mixed Tryd.func16 (by kernel_rfl) (Eq.mpr (by kernel_rfl) h)
def an_math_Signbit : An := ⟨[], [], [], [], []⟩
theorem ok_math_Signbit : Ok_math_Signbit nums Tryd.prog := fun q0 w K h =>
 funD_callsX (fn := Tryd.f17) (an := an_math_Signbit) tok tsize mixed Tryd.func17 (by kernel_rfl) (Eq.mpr (by kernel_rfl) h)
def an_dyad_Of : An := ⟨[], [], [], [], []⟩
theorem ok_dyad_Of : Ok_dyad_Of nums Tryd.prog := fun q0 w K h =>
 funD_callsX (fn := Tryd.f18) (an := an_dyad_Of) tok tsize mixed Tryd.func18 (by kernel_rfl) (Eq.mpr (by kernel_rfl) h)
def an_dyad_Add : An := ⟨[], [], [(4, [(25, (.one .bool))], [(18, 25)])], [(42, [(6, (.one .ptr)), (7, (.one .ptr))], [(6, 7), (43, 46)])], [(3, (.q 0 (.q 2 (.e 1 (.e 3 (.q 4 (.q 5 .done))))))), (5, (.q 0 (.q 1 (.q 2 (.q 4 (.q 5 (.q 6 (.q 7 (.q 8 (.e 3 (.e 9 (.q 10 (.q 11 (.e 12 (.q 13 .done))))))))))))))), (11, (.q 0 (.q 1 (.q 2 (.q 3 (.q 4 (.q 6 (.q 8 (.q 9 (.e 5 (.e 7 (.e 10 (.q 11 (.q 12 (.e 13 (.q 14 .done))))))))))))))))]⟩
theorem ok_dyad_Add : Ok_dyad_Add nums Tryd.prog := fun q0_0 q0_1 q0_1l q0_1c q0_2 q1_0 q1_1 q1_1l q1_1c q1_2 w K h =>
 funD_callsX (fn := Tryd.f19) (an := an_dyad_Add) tok tsize mixed Tryd.func19 (by kernel_rfl) (Eq.mpr (by kernel_rfl) h)
def an_dyad_Scale : An := ⟨[], [], [(5, [(17, (.one .bool))], [(17, 23)])], [], [(7, (.q 0 (.q 2 (.q 3 (.q 4 (.q 5 (.e 1 (.e 6 (.q 7 (.q 8 (.e 9 (.q 10 .done))))))))))))]⟩
theorem ok_dyad_Scale : Ok_dyad_Scale nums Tryd.prog := fun q0_0 q0_1 q0_1l q0_1c q0_2 q1 w K h =>
 funD_callsX (fn := Tryd.f20) (an := an_dyad_Scale) tok tsize mixed Tryd.func20 (by kernel_rfl) (Eq.mpr (by kernel_rfl) h)
def an_dyad_Cmp : An := ⟨[], [], [(3, [(22, (.one .bool))], [(22, 28)])], [(61, [], [(62, 79)])], [(11, (.q 0 (.q 2 (.e 1 (.e 3 (.q 4 (.q 5 .done))))))), (12, (.q 0 (.q 2 (.e 1 (.e 3 (.q 4 .done)))))), (15, (.q 0 (.q 2 (.e 1 (.e 3 (.q 4 (.q 5 .done)))))))]⟩
theorem ok_dyad_Cmp : Ok_dyad_Cmp nums Tryd.prog := fun q0_0 q0_1 q0_1l q0_1c q0_2 q1_0 q1_1 q1_1l q1_1c q1_2 w K h =>
 funD_callsX (fn := Tryd.f21) (an := an_dyad_Cmp) tok tsize mixed Tryd.func21 (by kernel_rfl) (Eq.mpr (by kernel_rfl) h)
def an_vector_Axpy : An := ⟨[], [], [], [], []⟩
theorem ok_vector_Axpy : Ok_vector_Axpy nums Tryd.prog := fun q0 q1 q1l q1c q2 q2l q2c w K h =>
 funD_callsX (fn := Tryd.f33) (an := an_vector_Axpy) tok tsize mixed Tryd.func33 (by kernel_rfl) (Eq.mpr (by kernel_rfl) h)
def an_vector_Dot : An := ⟨[(0, [(7, (.one .f64)), (17, (.one (.int .i64)))], [(7, 8), (17, 31)])], [(0, [(7, (.one .f64))], [(7, 8), (17, 31)])], [], [], [(8, (.q 0 (.q 1 (.q 2 (.q 3 (.q 4 (.q 5 (.q 6 (.q 7 (.q 8 (.q 9 (.q 10 (.q 11 .done)))))))))))))]⟩
theorem ok_vector_Dot : Ok_vector_Dot nums Tryd.prog := fun q0 q0l q0c q1 q1l q1c w K h =>
 funD_callsX (fn := Tryd.f34) (an := an_vector_Dot) tok tsize mixed Tryd.func34 (by kernel_rfl) (Eq.mpr (by kernel_rfl) h)
def an_k_SameReals : An := ⟨[(0, [(5, (.one (.int .i64)))], [(4, 5), (11, 26)])], [(0, [], [(4, 5), (11, 26)])], [], [], [(6, (.q 0 (.q 1 (.q 2 (.q 3 (.q 4 (.q 5 (.q 6 (.q 7 (.e 8 (.q 9 .done)))))))))))]⟩
theorem ok_k_SameReals : Ok_k_SameReals nums Tryd.prog := fun q0 q0l q0c q1 q1l q1c w K h =>
 funD_callsX (fn := Tryd.f35) (an := an_k_SameReals) tok tsize mixed Tryd.func35 (by kernel_rfl) (Eq.mpr (by kernel_rfl) h)
def an_vector_Same : An := ⟨[(0, [(14, (.one (.int .i64)))], [(4, 6), (14, 39)])], [(0, [], [(4, 6), (14, 39)])], [], [], [(6, (.q 0 (.q 2 (.q 3 (.q 4 (.q 5 (.e 1 (.e 6 (.q 7 (.q 8 (.q 9 (.e 10 (.q 11 (.q 12 (.q 13 (.q 14 (.q 15 (.e 16 (.q 17 (.q 18 (.q 19 .done)))))))))))))))))))))]⟩
theorem ok_vector_Same : Ok_vector_Same nums Tryd.prog := fun q0 q0l q0c q1 q1l q1c w K h =>
 funD_callsX (fn := Tryd.f36) (an := an_vector_Same) tok tsize mixed Tryd.func36 (by kernel_rfl) (Eq.mpr (by kernel_rfl) h)
def an_math_Copysign : An := ⟨[], [], [], [], []⟩
theorem ok_math_Copysign : Ok_math_Copysign nums Tryd.prog := fun q0 q1 w K h =>
 funD_callsX (fn := Tryd.f37) (an := an_math_Copysign) tok tsize mixed Tryd.func37 (by kernel_rfl) (Eq.mpr (by kernel_rfl) h)
def an_round_Add : An := ⟨[], [], [(5, [(22, (.one .bool))], [(22, 39)])], [(58, [(8, (.one .f64)), (9, (.one .f64))], [(8, 9), (59, 60)])], []⟩
theorem ok_round_Add : Ok_round_Add nums Tryd.prog := fun q0 q1 q2 w K h =>
 funD_callsX (fn := Tryd.f38) (an := an_round_Add) tok tsize mixed Tryd.func38 (by kernel_rfl) (Eq.mpr (by kernel_rfl) h)
def an_dyad_made : An := ⟨[], [], [], [], []⟩
theorem ok_dyad_made : Ok_dyad_made nums Tryd.prog := fun q0 q1 w K h =>
 funD_callsX (fn := Tryd.f39) (an := an_dyad_made) tok tsize mixed Tryd.func39 (by kernel_rfl) (Eq.mpr (by kernel_rfl) h)
def an_bn_NewInt : An := ⟨[], [], [], [], []⟩
theorem ok_bn_NewInt : Ok_bn_NewInt nums Tryd.prog := fun q0 w K h =>
 funD_callsX (fn := Tryd.f40) (an := an_bn_NewInt) tok tsize mixed Tryd.func40 (by kernel_rfl) (Eq.mpr (by kernel_rfl) h)
def an_bits_Split : An := ⟨[], [], [], [], []⟩
theorem ok_bits_Split : Ok_bits_Split nums Tryd.prog := fun q0 w K h =>
 funD_callsX (fn := Tryd.f43) (an := an_bits_Split) tok tsize mixed Tryd.func43 (by kernel_rfl) (Eq.mpr (by kernel_rfl) h)
def an_dyad_both : An := ⟨[], [], [], [], []⟩
theorem ok_dyad_both : Ok_dyad_both nums Tryd.prog := fun q0_0 q0_1 q0_1l q0_1c q0_2 q1_0 q1_1 q1_1l q1_1c q1_2 w K h =>
 funD_callsX (fn := Tryd.f44) (an := an_dyad_both) tok tsize mixed Tryd.func44 (by kernel_rfl) (Eq.mpr (by kernel_rfl) h)
def an_dyad_whole : An := ⟨[(0, [(9, (.one (.int .i64)))], [(4, 4), (9, 30)])], [(0, [], [(4, 4), (9, 30)])], [], [(32, [], [(33, 35)])], []⟩
theorem ok_dyad_whole : Ok_dyad_whole nums Tryd.prog := fun q0_0 q0_1 q0_1l q0_1c q0_2 w K h =>
 funD_callsX (fn := Tryd.f45) (an := an_dyad_whole) tok tsize mixed Tryd.func45 (by kernel_rfl) (Eq.mpr (by kernel_rfl) h)
def an_bI_Sign : An := ⟨[], [], [], [], []⟩
theorem ok_bI_Sign : Ok_bI_Sign nums Tryd.prog := fun q0 w K h =>
 funD_callsX (fn := Tryd.f46) (an := an_bI_Sign) tok tsize mixed Tryd.func46 (by kernel_rfl) (Eq.mpr (by kernel_rfl) h)
def an_bI_Add : An := ⟨[], [], [], [], [(1, (.q 0 (.q 1 (.q 2 (.q 3 (.q 4 (.q 5 (.q 6 (.q 7 (.q 8 (.q 9 (.q 10 (.q 11 (.q 12 (.q 13 (.q 14 (.q 15 (.q 16 (.e 17 (.q 18 (.q 19 (.e 20 (.q 21 .done)))))))))))))))))))))))]⟩
theorem ok_bI_Add : Ok_bI_Add nums Tryd.prog := fun q0 q1 q2 w K h =>
 funD_callsX (fn := Tryd.f47) (an := an_bI_Add) tok tsize mixed Tryd.func47 (by kernel_rfl) (Eq.mpr (by kernel_rfl) h)
def an_bI_Lsh : An := ⟨[], [], [], [], [(1, (.q 0 (.q 1 (.q 2 (.q 3 (.q 4 (.q 5 (.q 6 (.q 7 (.q 8 (.q 9 (.e 10 (.e 11 (.q 12 .done))))))))))))))]⟩
theorem ok_bI_Lsh : Ok_bI_Lsh nums Tryd.prog := fun q0 q1 q2 w K h =>
 funD_callsX (fn := Tryd.f48) (an := an_bI_Lsh) tok tsize mixed Tryd.func48 (by kernel_rfl) (Eq.mpr (by kernel_rfl) h)
def an_dyad_Right : An := ⟨[], [], [], [], []⟩
theorem ok_dyad_Right : Ok_dyad_Right nums Tryd.prog := fun q0_0 q0_1 q0_1l q0_1c q0_2 w K h =>
 funD_callsX (fn := Tryd.f49) (an := an_dyad_Right) tok tsize mixed Tryd.func49 (by kernel_rfl) (Eq.mpr (by kernel_rfl) h)
def an_dyad_Sign : An := ⟨[], [], [], [], []⟩
theorem ok_dyad_Sign : Ok_dyad_Sign nums Tryd.prog := fun q0_0 q0_1 q0_1l q0_1c q0_2 w K h =>
 funD_callsX (fn := Tryd.f50) (an := an_dyad_Sign) tok tsize mixed Tryd.func50 (by kernel_rfl) (Eq.mpr (by kernel_rfl) h)
def an_dyad_top : An := ⟨[], [], [], [], [(2, (.q 0 (.q 1 (.q 2 (.q 3 (.q 4 (.q 5 (.q 6 (.q 7 (.q 8 (.q 9 (.q 10 (.q 11 (.e 12 (.q 13 (.q 14 .done))))))))))))))))]⟩
theorem ok_dyad_top : Ok_dyad_top nums Tryd.prog := fun q0_0 q0_1 q0_1l q0_1c q0_2 w K h =>
 funD_callsX (fn := Tryd.f51) (an := an_dyad_top) tok tsize mixed Tryd.func51 (by kernel_rfl) (Eq.mpr (by kernel_rfl) h)
def an_bI_Cmp : An := ⟨[], [], [], [], [(1, (.q 0 (.q 1 (.q 2 (.q 3 (.q 4 (.q 5 (.q 6 (.q 7 (.q 8 .done)))))))))), (5, (.q 0 (.q 1 (.q 2 (.q 3 (.q 4 (.q 5 (.q 6 (.q 7 (.e 8 (.q 9 .done)))))))))))]⟩
theorem ok_bI_Cmp : Ok_bI_Cmp nums Tryd.prog := fun q0 q1 w K h =>
 funD_callsX (fn := Tryd.f52) (an := an_bI_Cmp) tok tsize mixed Tryd.func52 (by kernel_rfl) (Eq.mpr (by kernel_rfl) h)
def an_math_IsNaN : An := ⟨[], [], [], [], []⟩
theorem ok_math_IsNaN : Ok_math_IsNaN nums Tryd.prog := fun q0 w K h =>
 funD_callsX (fn := Tryd.f56) (an := an_math_IsNaN) tok tsize mixed Tryd.func56 (by kernel_rfl) (Eq.mpr (by kernel_rfl) h)
def an_bI_Mul : An := ⟨[], [], [], [], [(1, (.q 0 (.q 1 (.q 2 (.q 3 (.q 4 (.q 5 (.q 6 (.q 7 (.q 8 (.q 9 (.q 10 (.q 11 (.q 12 (.q 13 (.q 14 (.q 15 (.q 16 (.q 17 (.e 18 (.e 19 (.q 20 .done))))))))))))))))))))))]⟩
theorem ok_bI_Mul : Ok_bI_Mul nums Tryd.prog := fun q0 q1 q2 w K h =>
 funD_callsX (fn := Tryd.f58) (an := an_bI_Mul) tok tsize mixed Tryd.func58 (by kernel_rfl) (Eq.mpr (by kernel_rfl) h)
def an_vector_each : An := ⟨[(0, [(22, (.one (.int .i64)))], [(10, 10), (22, 38)])], [(0, [], [(10, 10), (22, 38)])], [], [], [(8, (.q 0 (.q 1 (.q 2 (.q 3 (.q 4 (.q 5 (.q 6 (.q 7 (.q 8 (.q 9 (.q 10 (.e 11 (.q 12 (.e 13 .done)))))))))))))))]⟩
theorem ok_vector_each : Ok_vector_each nums Tryd.prog := fun q0 q0l q0c q1 q1l q1c q2 w K h =>
 funD_callsX (fn := Tryd.f59) (an := an_vector_each) tok tsize mixed Tryd.func59 (by kernel_rfl) (Eq.mpr (by kernel_rfl) h)
def an_vector_Axpy_1 : An := ⟨[], [], [], [], []⟩
theorem ok_vector_Axpy_1 : Ok_vector_Axpy_1 nums Tryd.prog := fun q0 q1 q2 w K h =>
 funD_callsX (fn := Tryd.f60) (an := an_vector_Axpy_1) tok tsize mixed Tryd.func60 (by kernel_rfl) (Eq.mpr (by kernel_rfl) h)
def an_vector_fit : An := ⟨[], [], [], [], []⟩
theorem ok_vector_fit : Ok_vector_fit nums Tryd.prog := fun q0 q0l q0c q1 q1l q1c w K h =>
 funD_callsX (fn := Tryd.f61) (an := an_vector_fit) tok tsize mixed Tryd.func61 (by kernel_rfl) (Eq.mpr (by kernel_rfl) h)
def an_k_SameFloat : An := ⟨[], [], [], [], []⟩
theorem ok_k_SameFloat : Ok_k_SameFloat nums Tryd.prog := fun q0 q1 w K h =>
 funD_callsX (fn := Tryd.f62) (an := an_k_SameFloat) tok tsize mixed Tryd.func62 (by kernel_rfl) (Eq.mpr (by kernel_rfl) h)
def an_round_way : An := ⟨[], [], [], [], []⟩
theorem ok_round_way : Ok_round_way nums Tryd.prog := fun q0 w K h =>
 funD_callsX (fn := Tryd.f63) (an := an_round_way) tok tsize mixed Tryd.func63 (by kernel_rfl) (Eq.mpr (by kernel_rfl) h)
def an_round_finite : An := ⟨[(0, [(7, (.one (.int .i64)))], [(2, 2), (4, 4), (7, 17)])], [(0, [], [(2, 2), (4, 4), (7, 17)])], [], [], []⟩
theorem ok_round_finite : Ok_round_finite nums Tryd.prog := fun q0 q0l q0c w K h =>
 funD_callsX (fn := Tryd.f64) (an := an_round_finite) tok tsize mixed Tryd.func64 (by kernel_rfl) (Eq.mpr (by kernel_rfl) h)
def an_round_none : An := ⟨[], [], [], [], []⟩
theorem ok_round_none : Ok_round_none nums Tryd.prog := fun q0 w K h =>
 funD_callsX (fn := Tryd.f65) (an := an_round_none) tok tsize mixed Tryd.func65 (by kernel_rfl) (Eq.mpr (by kernel_rfl) h)
def an_round_settle : An := ⟨[], [], [], [(8, [(2, (.one (.int .i8)))], [(2, 2), (9, 10)]), (10, [(2, (.one (.int .i8)))], [(2, 2)])], []⟩
theorem ok_round_settle : Ok_round_settle nums Tryd.prog := fun q0 q1 q2 w K h =>
 funD_callsX (fn := Tryd.f66) (an := an_round_settle) tok tsize mixed Tryd.func66 (by kernel_rfl) (Eq.mpr (by kernel_rfl) h)
def an_round_sign : An := ⟨[], [], [], [], []⟩
theorem ok_round_sign : Ok_round_sign nums Tryd.prog := fun q0 w K h =>
 funD_callsX (fn := Tryd.f67) (an := an_round_sign) tok tsize mixed Tryd.func67 (by kernel_rfl) (Eq.mpr (by kernel_rfl) h)
def an_bI_TrailingZeroBits : An := ⟨[(0, [(3, (.one (.int .u64)))], [(3, 3), (10, 19)])], [(0, [(3, (.one (.int .u64)))], [(3, 3), (10, 19)])], [], [], []⟩
theorem ok_bI_TrailingZeroBits : Ok_bI_TrailingZeroBits nums Tryd.prog := fun q0 w K h =>
 funD_callsX (fn := Tryd.f68) (an := an_bI_TrailingZeroBits) tok tsize mixed Tryd.func68 (by kernel_rfl) (Eq.mpr (by kernel_rfl) h)
def an_bI_BitLen : An := ⟨[], [], [], [], []⟩
theorem ok_bI_BitLen : Ok_bI_BitLen nums Tryd.prog := fun q0 w K h =>
 funD_callsX (fn := Tryd.f69) (an := an_bI_BitLen) tok tsize mixed Tryd.func69 (by kernel_rfl) (Eq.mpr (by kernel_rfl) h)
def an_dyad_limbs : An := ⟨[(0, [(3, (.one .slice))], [(3, 3), (13, 26)])], [(0, [(3, (.one .slice))], [(3, 3), (13, 26)])], [], [], []⟩
theorem ok_dyad_limbs : Ok_dyad_limbs nums Tryd.prog := fun q0 w K h =>
 funD_callsX (fn := Tryd.f70) (an := an_dyad_limbs) tok tsize mixed Tryd.func70 (by kernel_rfl) (Eq.mpr (by kernel_rfl) h)
def an_bI_Rsh : An := ⟨[], [], [], [], []⟩
theorem ok_bI_Rsh : Ok_bI_Rsh nums Tryd.prog := fun q0 q1 q2 w K h =>
 funD_callsX (fn := Tryd.f71) (an := an_bI_Rsh) tok tsize mixed Tryd.func71 (by kernel_rfl) (Eq.mpr (by kernel_rfl) h)
def an_bI_Abs : An := ⟨[], [], [], [], []⟩
theorem ok_bI_Abs : Ok_bI_Abs nums Tryd.prog := fun q0 q1 w K h =>
 funD_callsX (fn := Tryd.f72) (an := an_bI_Abs) tok tsize mixed Tryd.func72 (by kernel_rfl) (Eq.mpr (by kernel_rfl) h)
def an_bI_SetInt64 : An := ⟨[], [], [], [(9, [(5, (.one (.int .u64)))], [(5, 5), (10, 11)])], []⟩
theorem ok_bI_SetInt64 : Ok_bI_SetInt64 nums Tryd.prog := fun q0 q1 w K h =>
 funD_callsX (fn := Tryd.f73) (an := an_bI_SetInt64) tok tsize mixed Tryd.func73 (by kernel_rfl) (Eq.mpr (by kernel_rfl) h)
def an_bits_Kind : An := ⟨[], [], [], [], []⟩
theorem ok_bits_Kind : Ok_bits_Kind nums Tryd.prog := fun q0 w K h =>
 funD_callsX (fn := Tryd.f74) (an := an_bits_Kind) tok tsize mixed Tryd.func74 (by kernel_rfl) (Eq.mpr (by kernel_rfl) h)
def an_math_Frexp : An := ⟨[], [], [], [], []⟩
theorem ok_math_Frexp : Ok_math_Frexp nums Tryd.prog := fun q0 w K h =>
 funD_callsX (fn := Tryd.f75) (an := an_math_Frexp) tok tsize mixed Tryd.func75 (by kernel_rfl) (Eq.mpr (by kernel_rfl) h)
def an_math_Ldexp : An := ⟨[], [], [], [], []⟩
theorem ok_math_Ldexp : Ok_math_Ldexp nums Tryd.prog := fun q0 q1 w K h =>
 funD_callsX (fn := Tryd.f76) (an := an_math_Ldexp) tok tsize mixed Tryd.func76 (by kernel_rfl) (Eq.mpr (by kernel_rfl) h)
def an_math_bits_TrailingZeros64 : An := ⟨[], [], [], [], []⟩
theorem ok_math_bits_TrailingZeros64 : Ok_math_bits_TrailingZeros64 nums Tryd.prog := fun q0 w K h =>
 funD_callsX (fn := Tryd.f77) (an := an_math_bits_TrailingZeros64) tok tsize mixed Tryd.func77 (by kernel_rfl) (Eq.mpr (by kernel_rfl) h)
def an_bI_Or : An := ⟨[(0, [(10, (.one (.int .i64)))], [(10, 10), (29, 43)])], [(0, [], [(10, 10), (29, 43)])], [], [], [(1, (.q 0 (.q 1 (.q 2 (.q 3 (.q 4 (.q 5 (.q 6 (.q 7 (.q 8 (.q 9 (.q 10 (.q 11 (.q 12 .done)))))))))))))), (6, (.q 0 (.q 1 (.q 2 (.q 3 (.q 4 (.q 5 (.q 6 (.q 7 (.q 8 (.q 9 (.e 10 .done))))))))))))]⟩
theorem ok_bI_Or : Ok_bI_Or nums Tryd.prog := fun q0 q1 q2 w K h =>
 funD_callsX (fn := Tryd.f78) (an := an_bI_Or) tok tsize mixed Tryd.func78 (by kernel_rfl) (Eq.mpr (by kernel_rfl) h)
def an_bI_SetUint64 : An := ⟨[], [], [], [], []⟩
theorem ok_bI_SetUint64 : Ok_bI_SetUint64 nums Tryd.prog := fun q0 q1 w K h =>
 funD_callsX (fn := Tryd.f79) (an := an_bI_SetUint64) tok tsize mixed Tryd.func79 (by kernel_rfl) (Eq.mpr (by kernel_rfl) h)
def an_bI_Neg : An := ⟨[], [], [], [], [(1, (.q 0 (.q 1 (.q 2 (.q 3 (.q 4 (.q 5 (.q 6 (.q 7 (.q 8 (.q 9 (.e 10 (.e 11 (.q 12 .done))))))))))))))]⟩
theorem ok_bI_Neg : Ok_bI_Neg nums Tryd.prog := fun q0 q1 w K h =>
 funD_callsX (fn := Tryd.f80) (an := an_bI_Neg) tok tsize mixed Tryd.func80 (by kernel_rfl) (Eq.mpr (by kernel_rfl) h)
def an_bI_give : An := ⟨[], [], [], [], []⟩
theorem ok_bI_give : Ok_bI_give nums Tryd.prog := fun q0 q1 q2 q2l q2c w K h =>
 funD_callsX (fn := Tryd.f81) (an := an_bI_give) tok tsize mixed Tryd.func81 (by kernel_rfl) (Eq.mpr (by kernel_rfl) h)
def an_bn_sum : An := ⟨[], [], [], [], []⟩
theorem ok_bn_sum : Ok_bn_sum nums Tryd.prog := fun q0 q1 q1l q1c q2 q3 q3l q3c w K h =>
 funD_callsX (fn := Tryd.f82) (an := an_bn_sum) tok tsize mixed Tryd.func82 (by kernel_rfl) (Eq.mpr (by kernel_rfl) h)
def an_bn_left : An := ⟨[(0, [(8, (.one (.int .i64)))], [(8, 9), (24, 58)])], [(0, [], [(8, 9), (24, 58)])], [], [], []⟩
theorem ok_bn_left : Ok_bn_left nums Tryd.prog := fun q0 q0l q0c q1 w K h =>
 funD_callsX (fn := Tryd.f83) (an := an_bn_left) tok tsize mixed Tryd.func83 (by kernel_rfl) (Eq.mpr (by kernel_rfl) h)
def an_bn_cmp : An := ⟨[(0, [(5, (.one (.int .i64)))], [(4, 5), (19, 40)])], [(0, [], [(4, 5), (19, 40)])], [], [], [(8, (.q 0 (.q 1 (.q 2 (.q 3 (.q 4 (.q 5 (.q 6 (.q 7 (.q 8 .done)))))))))), (9, (.q 0 (.q 1 (.q 2 (.q 3 (.q 4 (.q 5 (.q 6 (.q 7 (.q 8 .done))))))))))]⟩
theorem ok_bn_cmp : Ok_bn_cmp nums Tryd.prog := fun q0 q0l q0c q1 q1l q1c w K h =>
 funD_callsX (fn := Tryd.f85) (an := an_bn_cmp) tok tsize mixed Tryd.func85 (by kernel_rfl) (Eq.mpr (by kernel_rfl) h)
def an_bn_mul : An := ⟨[(0, [(6, (.one (.int .i64)))], [(6, 8), (23, 72)]), (2, [(7, (.one (.int .u64))), (8, (.one (.int .i64)))], [(7, 8), (29, 64)])], [(0, [], [(6, 8), (23, 72)]), (2, [(7, (.one (.int .u64)))], [(7, 8), (29, 64)])], [(1, [(16, (.one .bool))], [(9, 16)])], [], [(11, (.q 0 (.q 1 (.q 2 (.q 3 (.q 4 (.q 5 (.q 6 (.q 7 (.q 8 (.q 9 (.q 10 (.q 11 (.q 12 (.q 13 (.q 14 (.q 15 (.q 16 (.q 17 (.q 18 (.q 19 (.q 20 (.q 21 .done)))))))))))))))))))))))]⟩
theorem ok_bn_mul : Ok_bn_mul nums Tryd.prog := fun q0 q0l q0c q1 q1l q1c w K h =>
 funD_callsX (fn := Tryd.f91) (an := an_bn_mul) tok tsize mixed Tryd.func91 (by kernel_rfl) (Eq.mpr (by kernel_rfl) h)
def an_round_step : An := ⟨[], [(0, [(5, (.one (.int .u64)))], [(5, 5), (8, 23)])], [], [(10, [(5, (.one (.int .u64)))], [(5, 5), (8, 9), (13, 23)]), (14, [(5, (.one (.int .u64)))], [(5, 5), (15, 16)]), (17, [(5, (.one (.int .u64)))], [(5, 5), (8, 9), (22, 23)])], []⟩
theorem ok_round_step : Ok_round_step nums Tryd.prog := fun q0 q1 w K h =>
 funD_callsX (fn := Tryd.f92) (an := an_round_step) tok tsize mixed Tryd.func92 (by kernel_rfl) (Eq.mpr (by kernel_rfl) h)
def an_bn_bit : An := ⟨[], [], [], [], []⟩
theorem ok_bn_bit : Ok_bn_bit nums Tryd.prog := fun q0 q0l q0c q1 w K h =>
 funD_callsX (fn := Tryd.f93) (an := an_bn_bit) tok tsize mixed Tryd.func93 (by kernel_rfl) (Eq.mpr (by kernel_rfl) h)
def an_bn_length : An := ⟨[(0, [(3, (.one (.int .i64))), (4, (.one (.int .u32)))], [(3, 4), (14, 19)])], [(0, [(3, (.one (.int .i64)))], [(3, 4), (14, 19)])], [], [], []⟩
theorem ok_bn_length : Ok_bn_length nums Tryd.prog := fun q0 q0l q0c w K h =>
 funD_callsX (fn := Tryd.f94) (an := an_bn_length) tok tsize mixed Tryd.func94 (by kernel_rfl) (Eq.mpr (by kernel_rfl) h)
def an_bI_And : An := ⟨[(0, [(10, (.one (.int .i64)))], [(10, 10), (29, 43)])], [(0, [], [(10, 10), (29, 43)])], [], [], [(1, (.q 0 (.q 1 (.q 2 (.q 3 (.q 4 (.q 5 (.q 6 (.q 7 (.q 8 (.q 9 (.q 10 (.q 11 (.q 12 .done)))))))))))))), (6, (.q 0 (.q 1 (.q 2 (.q 3 (.q 4 (.q 5 (.q 6 (.q 7 (.q 8 (.q 9 (.e 10 .done))))))))))))]⟩
theorem ok_bI_And : Ok_bI_And nums Tryd.prog := fun q0 q1 q2 w K h =>
 funD_callsX (fn := Tryd.f95) (an := an_bI_And) tok tsize mixed Tryd.func95 (by kernel_rfl) (Eq.mpr (by kernel_rfl) h)
def an_bI_Uint64 : An := ⟨[], [], [], [(9, [(3, (.one (.int .u64)))], [(3, 3), (10, 16)]), (22, [(3, (.one (.int .u64)))], [(3, 3), (23, 32)])], []⟩
theorem ok_bI_Uint64 : Ok_bI_Uint64 nums Tryd.prog := fun q0 w K h =>
 funD_callsX (fn := Tryd.f96) (an := an_bI_Uint64) tok tsize mixed Tryd.func96 (by kernel_rfl) (Eq.mpr (by kernel_rfl) h)
def an_bn_add : An := ⟨[(0, [(6, (.one (.int .u64))), (7, (.one (.int .i64)))], [(6, 7), (19, 49)])], [(0, [(6, (.one (.int .u64)))], [(6, 7), (19, 49)])], [], [(12, [(0, (.one .slice)), (1, (.one .slice))], [(0, 1), (13, 14)]), (35, [(6, (.one (.int .u64)))], [(6, 6), (36, 42)])], []⟩
theorem ok_bn_add : Ok_bn_add nums Tryd.prog := fun q0 q0l q0c q1 q1l q1c w K h =>
 funD_callsX (fn := Tryd.f97) (an := an_bn_add) tok tsize mixed Tryd.func97 (by kernel_rfl) (Eq.mpr (by kernel_rfl) h)
def an_bn_right : An := ⟨[(0, [(8, (.one (.int .i64)))], [(8, 9), (24, 61)])], [(0, [], [(8, 9), (24, 61)])], [], [(43, [(9, (.one (.int .u64)))], [(9, 9), (44, 54)])], []⟩
theorem ok_bn_right : Ok_bn_right nums Tryd.prog := fun q0 q0l q0c q1 w K h =>
 funD_callsX (fn := Tryd.f98) (an := an_bn_right) tok tsize mixed Tryd.func98 (by kernel_rfl) (Eq.mpr (by kernel_rfl) h)
def an_bn_sub : An := ⟨[(0, [(6, (.one (.int .u64))), (7, (.one (.int .i64)))], [(6, 8), (12, 42)])], [(0, [], [(6, 8), (12, 42)])], [], [(28, [(8, (.one (.int .u64)))], [(8, 8), (29, 35)])], []⟩
theorem ok_bn_sub : Ok_bn_sub nums Tryd.prog := fun q0 q0l q0c q1 q1l q1c w K h =>
 funD_callsX (fn := Tryd.f99) (an := an_bn_sub) tok tsize mixed Tryd.func99 (by kernel_rfl) (Eq.mpr (by kernel_rfl) h)
def an_bn_twin : An := ⟨[], [], [], [], []⟩
theorem ok_bn_twin : Ok_bn_twin nums Tryd.prog := fun q0 q0l q0c w K h =>
 funD_callsX (fn := Tryd.f100) (an := an_bn_twin) tok tsize mixed Tryd.func100 (by kernel_rfl) (Eq.mpr (by kernel_rfl) h)
def an_bn_words : An := ⟨[], [], [], [], []⟩
theorem ok_bn_words : Ok_bn_words nums Tryd.prog := fun q0 w K h =>
 funD_callsX (fn := Tryd.f101) (an := an_bn_words) tok tsize mixed Tryd.func101 (by kernel_rfl) (Eq.mpr (by kernel_rfl) h)
def an_math_frexp : An := ⟨[], [], [], [], []⟩
theorem ok_math_frexp : Ok_math_frexp nums Tryd.prog := fun q0 w K h =>
 funD_callsX (fn := Tryd.f103) (an := an_math_frexp) tok tsize mixed Tryd.func103 (by kernel_rfl) (Eq.mpr (by kernel_rfl) h)
def an_math_ldexp : An := ⟨[], [], [(3, [(12, (.one .bool))], [(12, 18)])], [(48, [(1, (.one (.int .i64))), (7, (.one .f64))], [(1, 1), (7, 7), (49, 50)])], []⟩
theorem ok_math_ldexp : Ok_math_ldexp nums Tryd.prog := fun q0 q1 w K h =>
 funD_callsX (fn := Tryd.f105) (an := an_math_ldexp) tok tsize mixed Tryd.func105 (by kernel_rfl) (Eq.mpr (by kernel_rfl) h)
def an_bI_low : An := ⟨[(0, [(6, (.one (.int .u64))), (7, (.one (.int .i64)))], [(6, 7), (20, 39)])], [(0, [], [(6, 7), (20, 39)])], [], [(19, [], [(6, 7), (20, 39)])], []⟩
theorem ok_bI_low : Ok_bI_low nums Tryd.prog := fun q0 q1 w K h =>
 funD_callsX (fn := Tryd.f106) (an := an_bI_low) tok tsize mixed Tryd.func106 (by kernel_rfl) (Eq.mpr (by kernel_rfl) h)
def an_bI_of : An := ⟨[(0, [(5, (.one (.int .u64))), (6, (.one (.int .i64)))], [(5, 6), (20, 40)])], [(0, [], [(5, 6), (20, 40)])], [(1, [(19, (.one .bool))], [(7, 19)])], [], []⟩
theorem ok_bI_of : Ok_bI_of nums Tryd.prog := fun q0 q1 q1l q1c w K h =>
 funD_callsX (fn := Tryd.f107) (an := an_bI_of) tok tsize mixed Tryd.func107 (by kernel_rfl) (Eq.mpr (by kernel_rfl) h)
def an_bn_trim : An := ⟨[(0, [(3, (.one (.int .i64)))], [(3, 3), (6, 17)])], [(0, [(3, (.one (.int .i64)))], [(3, 3), (6, 17)])], [], [], []⟩
theorem ok_bn_trim : Ok_bn_trim nums Tryd.prog := fun q0 q0l q0c w K h =>
 funD_callsX (fn := Tryd.f108) (an := an_bn_trim) tok tsize mixed Tryd.func108 (by kernel_rfl) (Eq.mpr (by kernel_rfl) h)
def an_math_normalize : An := ⟨[], [], [], [], []⟩
theorem ok_math_normalize : Ok_math_normalize nums Tryd.prog := fun q0 w K h =>
 funD_callsX (fn := Tryd.f109) (an := an_math_normalize) tok tsize mixed Tryd.func109 (by kernel_rfl) (Eq.mpr (by kernel_rfl) h)
def an_math_Inf : An := ⟨[], [], [], [(5, [(3, (.one (.int .u64)))], [(3, 3)])], []⟩
theorem ok_math_Inf : Ok_math_Inf nums Tryd.prog := fun q0 w K h =>
 funD_callsX (fn := Tryd.f110) (an := an_math_Inf) tok tsize mixed Tryd.func110 (by kernel_rfl) (Eq.mpr (by kernel_rfl) h)
theorem ok_math_Float64frombits : Ok_math_Float64frombits nums Tryd.prog := by
  intro x w K h
  exact ext_ok (fn := Tryd.f41) (g := Extern.MathFloatBits.float64frombits) Tryd.func41 (by kernel_rfl) (by kernel_rfl) (by kernel_rfl) (by kernel_rfl) rfl h
theorem ok_math_Float64bits : Ok_math_Float64bits nums Tryd.prog := by
  intro x w K h
  exact ext_ok (fn := Tryd.f42) (g := Extern.MathFloatBits.float64bits) Tryd.func42 (by kernel_rfl) (by kernel_rfl) (by kernel_rfl) (by kernel_rfl) rfl h
theorem ok_math_bits_Len64 : Ok_math_bits_Len64 nums Tryd.prog := by
  intro x h0 h1 w K h
  exact callsX_of (fn := Tryd.f84) Tryd.func84 (by kernel_rfl) (by kernel_rfl) ((Tryd.bits_Len64 x w h0 h1).mono fun e w1 ⟨he, hw⟩ => ⟨_, he, by subst hw; exact h⟩)
theorem allOk : AllOk nums Tryd.prog := { w09_VectorNorm := ok_w09_VectorNorm, math_IsInf := ok_math_IsInf, w09_awake := ok_w09_awake, vector_Norm := ok_vector_Norm, vector_Most := ok_vector_Most, dyad_Int := ok_dyad_Int, math_Abs := ok_math_Abs, k_Finite := ok_k_Finite, math_Signbit := ok_math_Signbit, dyad_Of := ok_dyad_Of, dyad_Add := ok_dyad_Add, dyad_Scale := ok_dyad_Scale, dyad_Cmp := ok_dyad_Cmp, vector_Axpy := ok_vector_Axpy, vector_Dot := ok_vector_Dot, k_SameReals := ok_k_SameReals, vector_Same := ok_vector_Same, math_Copysign := ok_math_Copysign, round_Add := ok_round_Add, dyad_made := ok_dyad_made, bn_NewInt := ok_bn_NewInt, bits_Split := ok_bits_Split, dyad_both := ok_dyad_both, dyad_whole := ok_dyad_whole, bI_Sign := ok_bI_Sign, bI_Add := ok_bI_Add, bI_Lsh := ok_bI_Lsh, dyad_Right := ok_dyad_Right, dyad_Sign := ok_dyad_Sign, dyad_top := ok_dyad_top, bI_Cmp := ok_bI_Cmp, math_IsNaN := ok_math_IsNaN, bI_Mul := ok_bI_Mul, vector_each := ok_vector_each, vector_Axpy_1 := ok_vector_Axpy_1, vector_fit := ok_vector_fit, k_SameFloat := ok_k_SameFloat, round_way := ok_round_way, round_finite := ok_round_finite, round_none := ok_round_none, round_settle := ok_round_settle, round_sign := ok_round_sign, bI_TrailingZeroBits := ok_bI_TrailingZeroBits, bI_BitLen := ok_bI_BitLen, dyad_limbs := ok_dyad_limbs, bI_Rsh := ok_bI_Rsh, bI_Abs := ok_bI_Abs, bI_SetInt64 := ok_bI_SetInt64, bits_Kind := ok_bits_Kind, math_Frexp := ok_math_Frexp, math_Ldexp := ok_math_Ldexp, math_bits_TrailingZeros64 := ok_math_bits_TrailingZeros64, bI_Or := ok_bI_Or, bI_SetUint64 := ok_bI_SetUint64, bI_Neg := ok_bI_Neg, bI_give := ok_bI_give, bn_sum := ok_bn_sum, bn_left := ok_bn_left, bn_cmp := ok_bn_cmp, bn_mul := ok_bn_mul, round_step := ok_round_step, bn_bit := ok_bn_bit, bn_length := ok_bn_length, bI_And := ok_bI_And, bI_Uint64 := ok_bI_Uint64, bn_add := ok_bn_add, bn_right := ok_bn_right, bn_sub := ok_bn_sub, bn_twin := ok_bn_twin, bn_words := ok_bn_words, math_frexp := ok_math_frexp, math_ldexp := ok_math_ldexp, bI_low := ok_bI_low, bI_of := ok_bI_of, bn_trim := ok_bn_trim, math_normalize := ok_math_normalize, math_Inf := ok_math_Inf, math_Float64frombits := ok_math_Float64frombits, math_Float64bits := ok_math_Float64bits, math_bits_Len64 := ok_math_bits_Len64 }
end Go.Eng
