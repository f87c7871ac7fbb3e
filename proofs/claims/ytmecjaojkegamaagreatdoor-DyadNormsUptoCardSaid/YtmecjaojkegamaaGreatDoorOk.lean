/-
  Each function of the program comes to what its proposition says: one equation a function, by the kernel. No condition.
-/
import Derived.Test.YtmecjaojkegamaaGreatDoorLn
import Derived.Test.YtmecjaojkegamaaGreatDoorRow2
import Derived.Test.YtmecjaojkegamaaGreatDoorSh
import Derived.Test.YtmecjaojkegamaaGreatDoorTb
set_option linter.unusedVariables false
set_option linter.unusedSimpArgs false
set_option linter.unnecessarySimpa false
set_option linter.unusedSectionVars false
set_option maxRecDepth 100000
namespace Go.Eng
open Go

def an_girderlaw02_DyadNorms : An := { loops := [], blocks := [], regions := [], conds := [], ords := [(4, (.q 0 (.q 2 (.e 1 (.e 3 (.q 4 (.q 5 .done)))))))] }
theorem ok_girderlaw02_DyadNorms : Ok_girderlaw02_DyadNorms nums Go.Proofs.Tryz.prog := fun q0_0 q0_1 q0_1l q0_1c q0_2 w K h =>
 funD_callsX (fn := Go.Proofs.Tryz.f4) (an := an_girderlaw02_DyadNorms) tok tsize mixed Go.Proofs.Tryz.func4 (by kernel_rfl) (Eq.mpr (by kernel_rfl) h)
def an_girderlaw02_awake : An := { loops := [], blocks := [], regions := [(2, [(3, (.one .ptr)), (4, (.one (.int .i64)))], [(3, 4), (15, 20)]), (3, [(5, (.one .ptr)), (6, (.one (.int .i64)))], [(5, 6), (21, 26)])], conds := [], ords := [(2, (.q 0 (.alt (.e 1 (.alt (.e 2 (.q 3 (.q 4 (.q 5 (.e 6 (.e 7 (.q 8 .done))))))) (.e 6 (.e 2 (.q 3 (.q 4 (.q 5 (.e 7 (.q 8 .done))))))))) (.e 6 (.e 1 (.e 2 (.q 3 (.q 4 (.q 5 (.e 7 (.q 8 .done))))))))))), (3, (.q 0 (.alt (.e 1 (.alt (.e 2 (.q 3 (.q 4 (.q 5 (.e 6 (.e 7 (.q 8 .done))))))) (.e 6 (.e 2 (.q 3 (.q 4 (.q 5 (.e 7 (.q 8 .done))))))))) (.e 6 (.e 1 (.e 2 (.q 3 (.q 4 (.q 5 (.e 7 (.q 8 .done)))))))))))] }
theorem ok_girderlaw02_awake : Ok_girderlaw02_awake nums Go.Proofs.Tryz.prog := fun  w K h =>
 funD_callsX (fn := Go.Proofs.Tryz.f6) (an := an_girderlaw02_awake) tok tsize mixed Go.Proofs.Tryz.func6 (by kernel_rfl) (Eq.mpr (by kernel_rfl) h)
def an_girderkit_LentDyad : An := { loops := [], blocks := [], regions := [], conds := [], ords := [] }
theorem ok_girderkit_LentDyad : Ok_girderkit_LentDyad nums Go.Proofs.Tryz.prog := fun q0_0 q0_1 q0_1l q0_1c q0_2 w K h =>
 funD_callsX (fn := Go.Proofs.Tryz.f7) (an := an_girderkit_LentDyad) tok tsize mixed Go.Proofs.Tryz.func7 (by kernel_rfl) (Eq.mpr (by kernel_rfl) h)
def an_dyad_Round : An := { loops := [], blocks := [], regions := [], conds := [(34, [(8, (.one (.int .u64)))], [(8, 8), (10, 12), (35, 79)]), (77, [(8, (.one (.int .u64)))], [(8, 8), (78, 79)])], ords := [] }
theorem ok_dyad_Round : Ok_dyad_Round nums Go.Proofs.Tryz.prog := fun q0_0 q0_1 q0_1l q0_1c q0_2 q1 w K h =>
 funD_callsX (fn := Go.Proofs.Tryz.f8) (an := an_dyad_Round) tok tsize mixed Go.Proofs.Tryz.func8 (by kernel_rfl) (Eq.mpr (by kernel_rfl) h)
def an_girderkit_KeptDyad : An := { loops := [], blocks := [], regions := [], conds := [], ords := [] }
theorem ok_girderkit_KeptDyad : Ok_girderkit_KeptDyad nums Go.Proofs.Tryz.prog := fun q0_0 q0_1 q0_1l q0_1c q0_2 q1_0 q1_1 q1_1l q1_1c q1_2 w K h =>
 funD_callsX (fn := Go.Proofs.Tryz.f10) (an := an_girderkit_KeptDyad) tok tsize mixed Go.Proofs.Tryz.func10 (by kernel_rfl) (Eq.mpr (by kernel_rfl) h)
def an_dyad_Right : An := { loops := [], blocks := [], regions := [], conds := [], ords := [] }
theorem ok_dyad_Right : Ok_dyad_Right nums Go.Proofs.Tryz.prog := fun q0_0 q0_1 q0_1l q0_1c q0_2 w K h =>
 funD_callsX (fn := Go.Proofs.Tryz.f12) (an := an_dyad_Right) tok tsize mixed Go.Proofs.Tryz.func12 (by kernel_rfl) (Eq.mpr (by kernel_rfl) h)
def an_dyad_Fits : An := { loops := [], blocks := [], regions := [], conds := [], ords := [] }
theorem ok_dyad_Fits : Ok_dyad_Fits nums Go.Proofs.Tryz.prog := fun q0_0 q0_1 q0_1l q0_1c q0_2 w K h =>
 funD_callsX (fn := Go.Proofs.Tryz.f13) (an := an_dyad_Fits) tok tsize mixed Go.Proofs.Tryz.func13 (by kernel_rfl) (Eq.mpr (by kernel_rfl) h)
def an_dyad_Norm : An := { loops := [], blocks := [], regions := [], conds := [], ords := [(1, (.q 0 (.q 2 (.q 3 (.e 1 (.e 4 (.q 5 (.q 6 (.e 7 (.q 8 .done))))))))))] }
theorem ok_dyad_Norm : Ok_dyad_Norm nums Go.Proofs.Tryz.prog := fun q0_0 q0_1 q0_1l q0_1c q0_2 w K h =>
 funD_callsX (fn := Go.Proofs.Tryz.f14) (an := an_dyad_Norm) tok tsize mixed Go.Proofs.Tryz.func14 (by kernel_rfl) (Eq.mpr (by kernel_rfl) h)
def an_girderkit_OverDyad : An := { loops := [], blocks := [], regions := [], conds := [], ords := [] }
theorem ok_girderkit_OverDyad : Ok_girderkit_OverDyad nums Go.Proofs.Tryz.prog := fun q0_0 q0_1 q0_1l q0_1c q0_2 w K h =>
 funD_callsX (fn := Go.Proofs.Tryz.f15) (an := an_girderkit_OverDyad) tok tsize mixed Go.Proofs.Tryz.func15 (by kernel_rfl) (Eq.mpr (by kernel_rfl) h)
def an_girderref02_Norm : An := { loops := [(0, [(5, (.one (.int .i64)))], [(5, 5), (13, 25)])], blocks := [(0, [(5, (.one (.int .i64)))], [(5, 5), (13, 25)])], regions := [(8, [(53, (.one .bool))], [(32, 53)])], conds := [], ords := [] }
theorem ok_girderref02_Norm : Ok_girderref02_Norm nums Go.Proofs.Tryz.prog := fun q0_0 q0_1 q0_1l q0_1c q0_2 w K h =>
 funD_callsX (fn := Go.Proofs.Tryz.f16) (an := an_girderref02_Norm) tok tsize mixed Go.Proofs.Tryz.func16 (by kernel_rfl) (Eq.mpr (by kernel_rfl) h)
def an_girderref02_Right : An := { loops := [], blocks := [], regions := [], conds := [], ords := [] }
theorem ok_girderref02_Right : Ok_girderref02_Right nums Go.Proofs.Tryz.prog := fun q0_0 q0_1 q0_1l q0_1c q0_2 w K h =>
 funD_callsX (fn := Go.Proofs.Tryz.f17) (an := an_girderref02_Right) tok tsize mixed Go.Proofs.Tryz.func17 (by kernel_rfl) (Eq.mpr (by kernel_rfl) h)
def an_girderref02_Fits : An := { loops := [], blocks := [], regions := [], conds := [], ords := [(5, (.q 0 (.q 1 (.q 2 (.q 3 (.q 5 (.e 4 (.e 6 (.e 7 (.q 8 (.q 9 (.q 10 .done))))))))))))] }
theorem ok_girderref02_Fits : Ok_girderref02_Fits nums Go.Proofs.Tryz.prog := fun q0_0 q0_1 q0_1l q0_1c q0_2 w K h =>
 funD_callsX (fn := Go.Proofs.Tryz.f18) (an := an_girderref02_Fits) tok tsize mixed Go.Proofs.Tryz.func18 (by kernel_rfl) (Eq.mpr (by kernel_rfl) h)
def an_girderkit_SameDyad : An := { loops := [], blocks := [], regions := [], conds := [], ords := [] }
theorem ok_girderkit_SameDyad : Ok_girderkit_SameDyad nums Go.Proofs.Tryz.prog := fun q0_0 q0_1 q0_1l q0_1c q0_2 q1_0 q1_1 q1_1l q1_1c q1_2 w K h =>
 funD_callsX (fn := Go.Proofs.Tryz.f19) (an := an_girderkit_SameDyad) tok tsize mixed Go.Proofs.Tryz.func19 (by kernel_rfl) (Eq.mpr (by kernel_rfl) h)
def an_dyad_Add : An := { loops := [], blocks := [], regions := [(4, [(25, (.one .bool))], [(18, 25)])], conds := [(42, [(6, (.one .ptr)), (7, (.one .ptr))], [(6, 7), (43, 46)])], ords := [(3, (.q 0 (.q 2 (.e 1 (.e 3 (.q 4 (.q 5 .done))))))), (5, (.q 0 (.q 1 (.q 2 (.q 4 (.q 5 (.q 6 (.q 7 (.q 8 (.e 3 (.e 9 (.q 10 (.q 11 (.e 12 (.q 13 .done))))))))))))))), (11, (.q 0 (.q 1 (.q 2 (.q 3 (.q 4 (.q 6 (.q 8 (.q 9 (.e 5 (.e 7 (.e 10 (.q 11 (.q 12 (.e 13 (.q 14 .done))))))))))))))))] }
theorem ok_dyad_Add : Ok_dyad_Add nums Go.Proofs.Tryz.prog := fun q0_0 q0_1 q0_1l q0_1c q0_2 q1_0 q1_1 q1_1l q1_1c q1_2 w K h =>
 funD_callsX (fn := Go.Proofs.Tryz.f20) (an := an_dyad_Add) tok tsize mixed Go.Proofs.Tryz.func20 (by kernel_rfl) (Eq.mpr (by kernel_rfl) h)
def an_dyad_Mul : An := { loops := [], blocks := [], regions := [], conds := [], ords := [(4, (.q 0 (.q 1 (.q 2 (.q 5 (.q 6 (.q 7 (.q 8 (.q 9 (.e 3 (.e 4 (.e 10 (.q 11 (.q 12 (.e 13 (.q 14 .done))))))))))))))))] }
theorem ok_dyad_Mul : Ok_dyad_Mul nums Go.Proofs.Tryz.prog := fun q0_0 q0_1 q0_1l q0_1c q0_2 q1_0 q1_1 q1_1l q1_1c q1_2 w K h =>
 funD_callsX (fn := Go.Proofs.Tryz.f22) (an := an_dyad_Mul) tok tsize mixed Go.Proofs.Tryz.func22 (by kernel_rfl) (Eq.mpr (by kernel_rfl) h)
def an_dyad_Of : An := { loops := [], blocks := [], regions := [], conds := [], ords := [] }
theorem ok_dyad_Of : Ok_dyad_Of nums Go.Proofs.Tryz.prog := fun q0 w K h =>
 funD_callsX (fn := Go.Proofs.Tryz.f32) (an := an_dyad_Of) tok tsize mixed Go.Proofs.Tryz.func32 (by kernel_rfl) (Eq.mpr (by kernel_rfl) h)
def an_dyad_Int : An := { loops := [], blocks := [], regions := [], conds := [], ords := [] }
theorem ok_dyad_Int : Ok_dyad_Int nums Go.Proofs.Tryz.prog := fun q0 w K h =>
 funD_callsX (fn := Go.Proofs.Tryz.f33) (an := an_dyad_Int) tok tsize mixed Go.Proofs.Tryz.func33 (by kernel_rfl) (Eq.mpr (by kernel_rfl) h)
def an_girderkit_LentLimbs : An := { loops := [(0, [(3, (.one .slice)), (4, (.one (.int .i64)))], [(3, 4), (12, 21)])], blocks := [(0, [(3, (.one .slice))], [(3, 4), (12, 21)])], regions := [], conds := [], ords := [] }
theorem ok_girderkit_LentLimbs : Ok_girderkit_LentLimbs nums Go.Proofs.Tryz.prog := fun q0 q0l q0c w K h =>
 funD_callsX (fn := Go.Proofs.Tryz.f34) (an := an_girderkit_LentLimbs) tok tsize mixed Go.Proofs.Tryz.func34 (by kernel_rfl) (Eq.mpr (by kernel_rfl) h)
def an_dyad_whole : An := { loops := [(0, [(9, (.one (.int .i64)))], [(4, 4), (9, 30)])], blocks := [(0, [], [(4, 4), (9, 30)])], regions := [], conds := [(32, [], [(33, 35)])], ords := [] }
theorem ok_dyad_whole : Ok_dyad_whole nums Go.Proofs.Tryz.prog := fun q0_0 q0_1 q0_1l q0_1c q0_2 w K h =>
 funD_callsX (fn := Go.Proofs.Tryz.f35) (an := an_dyad_whole) tok tsize mixed Go.Proofs.Tryz.func35 (by kernel_rfl) (Eq.mpr (by kernel_rfl) h)
def an_p_bignum_Int_Abs : An := { loops := [], blocks := [], regions := [], conds := [], ords := [] }
theorem ok_p_bignum_Int_Abs : Ok_p_bignum_Int_Abs nums Go.Proofs.Tryz.prog := fun q0 q1 w K h =>
 funD_callsX (fn := Go.Proofs.Tryz.f36) (an := an_p_bignum_Int_Abs) tok tsize mixed Go.Proofs.Tryz.func36 (by kernel_rfl) (Eq.mpr (by kernel_rfl) h)
def an_dyad_top : An := { loops := [], blocks := [], regions := [], conds := [], ords := [(2, (.q 0 (.q 1 (.q 2 (.q 3 (.q 4 (.q 5 (.q 6 (.q 7 (.q 8 (.q 9 (.q 10 (.q 11 (.e 12 (.q 13 (.q 14 .done))))))))))))))))] }
theorem ok_dyad_top : Ok_dyad_top nums Go.Proofs.Tryz.prog := fun q0_0 q0_1 q0_1l q0_1c q0_2 w K h =>
 funD_callsX (fn := Go.Proofs.Tryz.f37) (an := an_dyad_top) tok tsize mixed Go.Proofs.Tryz.func37 (by kernel_rfl) (Eq.mpr (by kernel_rfl) h)
def an_p_bignum_Int_Lsh : An := { loops := [], blocks := [], regions := [], conds := [], ords := [(1, (.q 0 (.q 1 (.q 2 (.q 3 (.q 4 (.q 5 (.q 6 (.q 7 (.q 8 (.q 9 (.e 10 (.e 11 (.q 12 .done))))))))))))))] }
theorem ok_p_bignum_Int_Lsh : Ok_p_bignum_Int_Lsh nums Go.Proofs.Tryz.prog := fun q0 q1 q2 w K h =>
 funD_callsX (fn := Go.Proofs.Tryz.f38) (an := an_p_bignum_Int_Lsh) tok tsize mixed Go.Proofs.Tryz.func38 (by kernel_rfl) (Eq.mpr (by kernel_rfl) h)
def an_p_bignum_Int_Uint64 : An := { loops := [], blocks := [], regions := [], conds := [(9, [(3, (.one (.int .u64)))], [(3, 3), (10, 16)]), (22, [(3, (.one (.int .u64)))], [(3, 3), (23, 32)])], ords := [] }
theorem ok_p_bignum_Int_Uint64 : Ok_p_bignum_Int_Uint64 nums Go.Proofs.Tryz.prog := fun q0 w K h =>
 funD_callsX (fn := Go.Proofs.Tryz.f39) (an := an_p_bignum_Int_Uint64) tok tsize mixed Go.Proofs.Tryz.func39 (by kernel_rfl) (Eq.mpr (by kernel_rfl) h)
def an_p_bignum_Int_Rsh : An := { loops := [], blocks := [], regions := [], conds := [], ords := [] }
theorem ok_p_bignum_Int_Rsh : Ok_p_bignum_Int_Rsh nums Go.Proofs.Tryz.prog := fun q0 q1 q2 w K h =>
 funD_callsX (fn := Go.Proofs.Tryz.f40) (an := an_p_bignum_Int_Rsh) tok tsize mixed Go.Proofs.Tryz.func40 (by kernel_rfl) (Eq.mpr (by kernel_rfl) h)
def an_p_bignum_Int_Sub : An := { loops := [], blocks := [], regions := [], conds := [], ords := [(1, (.q 0 (.q 1 (.q 2 (.q 3 (.q 4 (.q 5 (.q 6 (.q 7 (.q 8 (.q 9 (.q 10 (.q 11 (.q 12 (.q 13 (.q 14 (.q 15 (.q 16 (.q 17 (.e 18 (.q 19 (.q 20 (.e 21 (.q 22 .done))))))))))))))))))))))))] }
theorem ok_p_bignum_Int_Sub : Ok_p_bignum_Int_Sub nums Go.Proofs.Tryz.prog := fun q0 q1 q2 w K h =>
 funD_callsX (fn := Go.Proofs.Tryz.f41) (an := an_p_bignum_Int_Sub) tok tsize mixed Go.Proofs.Tryz.func41 (by kernel_rfl) (Eq.mpr (by kernel_rfl) h)
def an_p_bignum_Int_Cmp : An := { loops := [], blocks := [], regions := [], conds := [], ords := [(1, (.q 0 (.q 1 (.q 2 (.q 3 (.q 4 (.q 5 (.q 6 (.q 7 (.q 8 .done)))))))))), (5, (.q 0 (.q 1 (.q 2 (.q 3 (.q 4 (.q 5 (.q 6 (.q 7 (.e 8 (.q 9 .done)))))))))))] }
theorem ok_p_bignum_Int_Cmp : Ok_p_bignum_Int_Cmp nums Go.Proofs.Tryz.prog := fun q0 q1 w K h =>
 funD_callsX (fn := Go.Proofs.Tryz.f42) (an := an_p_bignum_Int_Cmp) tok tsize mixed Go.Proofs.Tryz.func42 (by kernel_rfl) (Eq.mpr (by kernel_rfl) h)
def an_bignum_NewInt : An := { loops := [], blocks := [], regions := [], conds := [], ords := [] }
theorem ok_bignum_NewInt : Ok_bignum_NewInt nums Go.Proofs.Tryz.prog := fun q0 w K h =>
 funD_callsX (fn := Go.Proofs.Tryz.f43) (an := an_bignum_NewInt) tok tsize mixed Go.Proofs.Tryz.func43 (by kernel_rfl) (Eq.mpr (by kernel_rfl) h)
def an_p_bignum_Int_Sign : An := { loops := [], blocks := [], regions := [], conds := [], ords := [] }
theorem ok_p_bignum_Int_Sign : Ok_p_bignum_Int_Sign nums Go.Proofs.Tryz.prog := fun q0 w K h =>
 funD_callsX (fn := Go.Proofs.Tryz.f44) (an := an_p_bignum_Int_Sign) tok tsize mixed Go.Proofs.Tryz.func44 (by kernel_rfl) (Eq.mpr (by kernel_rfl) h)
def an_dyad_away : An := { loops := [], blocks := [], regions := [], conds := [], ords := [] }
theorem ok_dyad_away : Ok_dyad_away nums Go.Proofs.Tryz.prog := fun q0 q1 q2 q3 w K h =>
 funD_callsX (fn := Go.Proofs.Tryz.f45) (an := an_dyad_away) tok tsize mixed Go.Proofs.Tryz.func45 (by kernel_rfl) (Eq.mpr (by kernel_rfl) h)
def an_dyad_float : An := { loops := [], blocks := [], regions := [], conds := [(18, [], [(10, 10), (19, 28)])], ords := [(5, (.q 0 (.q 1 (.q 3 (.q 4 (.e 2 (.q 5 (.q 6 .done))))))))] }
theorem ok_dyad_float : Ok_dyad_float nums Go.Proofs.Tryz.prog := fun q0 q1 q2 q3 w K h =>
 funD_callsX (fn := Go.Proofs.Tryz.f46) (an := an_dyad_float) tok tsize mixed Go.Proofs.Tryz.func46 (by kernel_rfl) (Eq.mpr (by kernel_rfl) h)
def an_girderref02_Rounded : An := { loops := [], blocks := [], regions := [(13, [(61, (.one .bool))], [(52, 61)])], conds := [(23, [(6, (.one .slice))], [(6, 12), (24, 80)]), (43, [(6, (.one .slice))], [(6, 6), (10, 12), (44, 80)]), (61, [(12, (.one (.int .i64)))], [(12, 12), (62, 62)]), (62, [(12, (.one (.int .i64)))], [(12, 12)]), (77, [(6, (.one .slice))], [(6, 6), (78, 80)]), (92, [(13, (.one (.int .u64)))], [(13, 13), (93, 95)])], ords := [(17, (.q 0 (.q 1 (.q 2 (.q 3 (.q 4 (.q 5 (.q 6 (.q 7 (.q 8 (.q 9 (.q 10 (.q 11 (.q 12 (.q 13 (.e 14 .done))))))))))))))))] }
theorem ok_girderref02_Rounded : Ok_girderref02_Rounded nums Go.Proofs.Tryz.prog := fun q0_0 q0_1 q0_1l q0_1c q0_2 q1 w K h =>
 funD_callsX (fn := Go.Proofs.Tryz.f47) (an := an_girderref02_Rounded) tok tsize mixed Go.Proofs.Tryz.func47 (by kernel_rfl) (Eq.mpr (by kernel_rfl) h)
def an_girderref02_Dyad : An := { loops := [], blocks := [], regions := [], conds := [], ords := [(1, (.q 0 (.q 1 (.q 2 (.q 3 (.q 5 (.q 6 (.e 4 (.q 7 (.e 8 .done))))))))))] }
theorem ok_girderref02_Dyad : Ok_girderref02_Dyad nums Go.Proofs.Tryz.prog := fun q0_0 q0_1 q0_1l q0_1c q0_2 w K h =>
 funD_callsX (fn := Go.Proofs.Tryz.f48) (an := an_girderref02_Dyad) tok tsize mixed Go.Proofs.Tryz.func48 (by kernel_rfl) (Eq.mpr (by kernel_rfl) h)
def an_girderkit_KeptLimbs : An := { loops := [(0, [(6, (.one (.int .i64)))], [(4, 4), (6, 6), (17, 58)])], blocks := [(0, [], [(4, 4), (6, 6), (17, 58)])], regions := [], conds := [], ords := [(7, (.q 0 (.q 1 (.q 2 (.q 3 (.q 4 (.q 5 (.q 6 (.q 7 (.q 8 (.q 9 (.q 10 (.q 11 (.q 12 (.q 13 (.q 14 (.q 15 (.q 16 (.q 17 (.q 18 (.q 19 (.q 20 (.q 21 (.q 22 (.q 23 (.q 24 (.q 25 (.q 26 (.q 27 (.q 28 (.q 29 (.e 30 (.q 31 (.q 32 (.q 33 (.q 34 (.q 35 .done)))))))))))))))))))))))))))))))))))))] }
theorem ok_girderkit_KeptLimbs : Ok_girderkit_KeptLimbs nums Go.Proofs.Tryz.prog := fun q0 q0l q0c q1 q1l q1c w K h =>
 funD_callsX (fn := Go.Proofs.Tryz.f49) (an := an_girderkit_KeptLimbs) tok tsize mixed Go.Proofs.Tryz.func49 (by kernel_rfl) (Eq.mpr (by kernel_rfl) h)
def an_dyad_made : An := { loops := [], blocks := [], regions := [], conds := [], ords := [] }
theorem ok_dyad_made : Ok_dyad_made nums Go.Proofs.Tryz.prog := fun q0 q1 w K h =>
 funD_callsX (fn := Go.Proofs.Tryz.f52) (an := an_dyad_made) tok tsize mixed Go.Proofs.Tryz.func52 (by kernel_rfl) (Eq.mpr (by kernel_rfl) h)
def an_girderkit_OverLimbs : An := { loops := [(0, [(3, (.one (.int .i64)))], [(3, 3), (9, 20)])], blocks := [(0, [], [(3, 3), (9, 20)])], regions := [], conds := [], ords := [] }
theorem ok_girderkit_OverLimbs : Ok_girderkit_OverLimbs nums Go.Proofs.Tryz.prog := fun q0 q0l q0c w K h =>
 funD_callsX (fn := Go.Proofs.Tryz.f53) (an := an_girderkit_OverLimbs) tok tsize mixed Go.Proofs.Tryz.func53 (by kernel_rfl) (Eq.mpr (by kernel_rfl) h)
def an_girderref02_NatTrim : An := { loops := [(0, [(3, (.one (.int .i64)))], [(3, 3), (7, 18)])], blocks := [(0, [(3, (.one (.int .i64)))], [(3, 3), (7, 18)])], regions := [], conds := [], ords := [] }
theorem ok_girderref02_NatTrim : Ok_girderref02_NatTrim nums Go.Proofs.Tryz.prog := fun q0 q0l q0c w K h =>
 funD_callsX (fn := Go.Proofs.Tryz.f54) (an := an_girderref02_NatTrim) tok tsize mixed Go.Proofs.Tryz.func54 (by kernel_rfl) (Eq.mpr (by kernel_rfl) h)
def an_girderref02_NatDown : An := { loops := [(0, [(7, (.one .bool)), (8, (.one (.int .i64)))], [(7, 8), (15, 34)]), (2, [(9, (.one (.int .u64))), (10, (.one (.int .i64)))], [(9, 10), (41, 48)])], blocks := [(0, [(7, (.one .bool))], [(7, 8), (15, 34)]), (2, [(9, (.one (.int .u64)))], [(9, 10), (41, 48)])], regions := [], conds := [], ords := [] }
theorem ok_girderref02_NatDown : Ok_girderref02_NatDown nums Go.Proofs.Tryz.prog := fun q0 q0l q0c q1 w K h =>
 funD_callsX (fn := Go.Proofs.Tryz.f55) (an := an_girderref02_NatDown) tok tsize mixed Go.Proofs.Tryz.func55 (by kernel_rfl) (Eq.mpr (by kernel_rfl) h)
def an_girderref02_Of : An := { loops := [], blocks := [], regions := [], conds := [], ords := [] }
theorem ok_girderref02_Of : Ok_girderref02_Of nums Go.Proofs.Tryz.prog := fun q0 w K h =>
 funD_callsX (fn := Go.Proofs.Tryz.f56) (an := an_girderref02_Of) tok tsize mixed Go.Proofs.Tryz.func56 (by kernel_rfl) (Eq.mpr (by kernel_rfl) h)
def an_girderref02_Compare : An := { loops := [], blocks := [], regions := [(2, [(17, (.one .bool))], [(11, 17)])], conds := [], ords := [(1, (.q 0 (.q 2 (.e 1 (.e 3 (.q 4 (.q 5 .done))))))), (8, (.q 0 (.q 2 (.e 1 (.e 3 (.q 4 .done)))))), (9, (.q 0 (.q 2 (.e 1 (.e 3 (.q 4 .done)))))), (12, (.q 0 (.q 1 (.e 2 (.e 3 (.e 4 (.q 5 .done)))))))] }
theorem ok_girderref02_Compare : Ok_girderref02_Compare nums Go.Proofs.Tryz.prog := fun q0_0 q0_1 q0_1l q0_1c q0_2 q1_0 q1_1 q1_1l q1_1c q1_2 w K h =>
 funD_callsX (fn := Go.Proofs.Tryz.f57) (an := an_girderref02_Compare) tok tsize mixed Go.Proofs.Tryz.func57 (by kernel_rfl) (Eq.mpr (by kernel_rfl) h)
def an_girderkit_SameLimbs : An := { loops := [(0, [(5, (.one (.int .i64)))], [(4, 5), (11, 25)])], blocks := [(0, [], [(4, 5), (11, 25)])], regions := [], conds := [], ords := [(6, (.q 0 (.q 1 (.q 2 (.q 3 (.q 4 (.q 5 (.q 6 (.q 7 (.q 8 .done))))))))))] }
theorem ok_girderkit_SameLimbs : Ok_girderkit_SameLimbs nums Go.Proofs.Tryz.prog := fun q0 q0l q0c q1 q1l q1c w K h =>
 funD_callsX (fn := Go.Proofs.Tryz.f58) (an := an_girderkit_SameLimbs) tok tsize mixed Go.Proofs.Tryz.func58 (by kernel_rfl) (Eq.mpr (by kernel_rfl) h)
def an_dyad_both : An := { loops := [], blocks := [], regions := [], conds := [], ords := [] }
theorem ok_dyad_both : Ok_dyad_both nums Go.Proofs.Tryz.prog := fun q0_0 q0_1 q0_1l q0_1c q0_2 q1_0 q1_1 q1_1l q1_1c q1_2 w K h =>
 funD_callsX (fn := Go.Proofs.Tryz.f59) (an := an_dyad_both) tok tsize mixed Go.Proofs.Tryz.func59 (by kernel_rfl) (Eq.mpr (by kernel_rfl) h)
def an_p_bignum_Int_Add : An := { loops := [], blocks := [], regions := [], conds := [], ords := [(1, (.q 0 (.q 1 (.q 2 (.q 3 (.q 4 (.q 5 (.q 6 (.q 7 (.q 8 (.q 9 (.q 10 (.q 11 (.q 12 (.q 13 (.q 14 (.q 15 (.q 16 (.e 17 (.q 18 (.q 19 (.e 20 (.q 21 .done)))))))))))))))))))))))] }
theorem ok_p_bignum_Int_Add : Ok_p_bignum_Int_Add nums Go.Proofs.Tryz.prog := fun q0 q1 q2 w K h =>
 funD_callsX (fn := Go.Proofs.Tryz.f60) (an := an_p_bignum_Int_Add) tok tsize mixed Go.Proofs.Tryz.func60 (by kernel_rfl) (Eq.mpr (by kernel_rfl) h)
def an_p_bignum_Int_Mul : An := { loops := [], blocks := [], regions := [], conds := [], ords := [(1, (.q 0 (.q 1 (.q 2 (.q 3 (.q 4 (.q 5 (.q 6 (.q 7 (.q 8 (.q 9 (.q 10 (.q 11 (.q 12 (.q 13 (.q 14 (.q 15 (.q 16 (.q 17 (.e 18 (.e 19 (.q 20 .done))))))))))))))))))))))] }
theorem ok_p_bignum_Int_Mul : Ok_p_bignum_Int_Mul nums Go.Proofs.Tryz.prog := fun q0 q1 q2 w K h =>
 funD_callsX (fn := Go.Proofs.Tryz.f61) (an := an_p_bignum_Int_Mul) tok tsize mixed Go.Proofs.Tryz.func61 (by kernel_rfl) (Eq.mpr (by kernel_rfl) h)
def an_girderref02_Plus : An := { loops := [], blocks := [], regions := [], conds := [], ords := [(10, (.q 0 (.q 1 (.q 2 (.q 3 (.q 5 (.q 6 (.e 4 (.q 7 (.e 8 .done)))))))))), (12, (.q 0 (.q 1 (.q 2 (.q 3 (.q 5 (.q 6 (.e 4 (.q 7 (.e 8 .done)))))))))), (13, (.q 0 (.q 1 (.q 2 (.q 3 (.q 5 (.q 6 (.e 4 (.q 7 (.e 8 .done))))))))))] }
theorem ok_girderref02_Plus : Ok_girderref02_Plus nums Go.Proofs.Tryz.prog := fun q0_0 q0_1 q0_1l q0_1c q0_2 q1_0 q1_1 q1_1l q1_1c q1_2 w K h =>
 funD_callsX (fn := Go.Proofs.Tryz.f64) (an := an_girderref02_Plus) tok tsize mixed Go.Proofs.Tryz.func64 (by kernel_rfl) (Eq.mpr (by kernel_rfl) h)
def an_girderref02_Minus : An := { loops := [], blocks := [], regions := [], conds := [], ords := [] }
theorem ok_girderref02_Minus : Ok_girderref02_Minus nums Go.Proofs.Tryz.prog := fun q0_0 q0_1 q0_1l q0_1c q0_2 w K h =>
 funD_callsX (fn := Go.Proofs.Tryz.f66) (an := an_girderref02_Minus) tok tsize mixed Go.Proofs.Tryz.func66 (by kernel_rfl) (Eq.mpr (by kernel_rfl) h)
def an_girderref02_Num_Sign : An := { loops := [], blocks := [], regions := [], conds := [], ords := [] }
theorem ok_girderref02_Num_Sign : Ok_girderref02_Num_Sign nums Go.Proofs.Tryz.prog := fun q0_0 q0_1 q0_1l q0_1c q0_2 w K h =>
 funD_callsX (fn := Go.Proofs.Tryz.f67) (an := an_girderref02_Num_Sign) tok tsize mixed Go.Proofs.Tryz.func67 (by kernel_rfl) (Eq.mpr (by kernel_rfl) h)
def an_bits_Split : An := { loops := [], blocks := [], regions := [], conds := [], ords := [] }
theorem ok_bits_Split : Ok_bits_Split nums Go.Proofs.Tryz.prog := fun q0 w K h =>
 funD_callsX (fn := Go.Proofs.Tryz.f68) (an := an_bits_Split) tok tsize mixed Go.Proofs.Tryz.func68 (by kernel_rfl) (Eq.mpr (by kernel_rfl) h)
def an_girderkit_mark : An := { loops := [], blocks := [], regions := [], conds := [], ords := [] }
theorem ok_girderkit_mark : Ok_girderkit_mark nums Go.Proofs.Tryz.prog := fun q0 q1 w K h =>
 funD_callsX (fn := Go.Proofs.Tryz.f69) (an := an_girderkit_mark) tok tsize mixed Go.Proofs.Tryz.func69 (by kernel_rfl) (Eq.mpr (by kernel_rfl) h)
def an_p_bignum_Int_Or : An := { loops := [(0, [(10, (.one (.int .i64)))], [(10, 10), (29, 43)])], blocks := [(0, [], [(10, 10), (29, 43)])], regions := [], conds := [], ords := [(1, (.q 0 (.q 1 (.q 2 (.q 3 (.q 4 (.q 5 (.q 6 (.q 7 (.q 8 (.q 9 (.q 10 (.q 11 (.q 12 .done)))))))))))))), (6, (.q 0 (.q 1 (.q 2 (.q 3 (.q 4 (.q 5 (.q 6 (.q 7 (.q 8 (.q 9 (.e 10 .done))))))))))))] }
theorem ok_p_bignum_Int_Or : Ok_p_bignum_Int_Or nums Go.Proofs.Tryz.prog := fun q0 q1 q2 w K h =>
 funD_callsX (fn := Go.Proofs.Tryz.f70) (an := an_p_bignum_Int_Or) tok tsize mixed Go.Proofs.Tryz.func70 (by kernel_rfl) (Eq.mpr (by kernel_rfl) h)
def an_p_bignum_Int_SetUint64 : An := { loops := [], blocks := [], regions := [], conds := [], ords := [] }
theorem ok_p_bignum_Int_SetUint64 : Ok_p_bignum_Int_SetUint64 nums Go.Proofs.Tryz.prog := fun q0 q1 w K h =>
 funD_callsX (fn := Go.Proofs.Tryz.f71) (an := an_p_bignum_Int_SetUint64) tok tsize mixed Go.Proofs.Tryz.func71 (by kernel_rfl) (Eq.mpr (by kernel_rfl) h)
def an_p_bignum_Int_Neg : An := { loops := [], blocks := [], regions := [], conds := [], ords := [(1, (.q 0 (.q 1 (.q 2 (.q 3 (.q 4 (.q 5 (.q 6 (.q 7 (.q 8 (.q 9 (.e 10 (.e 11 (.q 12 .done))))))))))))))] }
theorem ok_p_bignum_Int_Neg : Ok_p_bignum_Int_Neg nums Go.Proofs.Tryz.prog := fun q0 q1 w K h =>
 funD_callsX (fn := Go.Proofs.Tryz.f72) (an := an_p_bignum_Int_Neg) tok tsize mixed Go.Proofs.Tryz.func72 (by kernel_rfl) (Eq.mpr (by kernel_rfl) h)
def an_p_bignum_Int_give : An := { loops := [], blocks := [], regions := [], conds := [], ords := [] }
theorem ok_p_bignum_Int_give : Ok_p_bignum_Int_give nums Go.Proofs.Tryz.prog := fun q0 q1 q2 q2l q2c w K h =>
 funD_callsX (fn := Go.Proofs.Tryz.f73) (an := an_p_bignum_Int_give) tok tsize mixed Go.Proofs.Tryz.func73 (by kernel_rfl) (Eq.mpr (by kernel_rfl) h)
def an_bignum_twin : An := { loops := [], blocks := [], regions := [], conds := [], ords := [] }
theorem ok_bignum_twin : Ok_bignum_twin nums Go.Proofs.Tryz.prog := fun q0 q0l q0c w K h =>
 funD_callsX (fn := Go.Proofs.Tryz.f74) (an := an_bignum_twin) tok tsize mixed Go.Proofs.Tryz.func74 (by kernel_rfl) (Eq.mpr (by kernel_rfl) h)
def an_bignum_left : An := { loops := [(0, [(8, (.one (.int .i64)))], [(8, 9), (24, 58)])], blocks := [(0, [], [(8, 9), (24, 58)])], regions := [], conds := [], ords := [] }
theorem ok_bignum_left : Ok_bignum_left nums Go.Proofs.Tryz.prog := fun q0 q0l q0c q1 w K h =>
 funD_callsX (fn := Go.Proofs.Tryz.f75) (an := an_bignum_left) tok tsize mixed Go.Proofs.Tryz.func75 (by kernel_rfl) (Eq.mpr (by kernel_rfl) h)
def an_bignum_add : An := { loops := [(0, [(6, (.one (.int .u64))), (7, (.one (.int .i64)))], [(6, 7), (19, 49)])], blocks := [(0, [(6, (.one (.int .u64)))], [(6, 7), (19, 49)])], regions := [], conds := [(12, [(0, (.one .slice)), (1, (.one .slice))], [(0, 1), (13, 14)]), (35, [(6, (.one (.int .u64)))], [(6, 6), (36, 42)])], ords := [] }
theorem ok_bignum_add : Ok_bignum_add nums Go.Proofs.Tryz.prog := fun q0 q0l q0c q1 q1l q1c w K h =>
 funD_callsX (fn := Go.Proofs.Tryz.f76) (an := an_bignum_add) tok tsize mixed Go.Proofs.Tryz.func76 (by kernel_rfl) (Eq.mpr (by kernel_rfl) h)
def an_bignum_right : An := { loops := [(0, [(8, (.one (.int .i64)))], [(8, 9), (24, 61)])], blocks := [(0, [], [(8, 9), (24, 61)])], regions := [], conds := [(43, [(9, (.one (.int .u64)))], [(9, 9), (44, 54)])], ords := [] }
theorem ok_bignum_right : Ok_bignum_right nums Go.Proofs.Tryz.prog := fun q0 q0l q0c q1 w K h =>
 funD_callsX (fn := Go.Proofs.Tryz.f77) (an := an_bignum_right) tok tsize mixed Go.Proofs.Tryz.func77 (by kernel_rfl) (Eq.mpr (by kernel_rfl) h)
def an_bignum_sub : An := { loops := [(0, [(6, (.one (.int .u64))), (7, (.one (.int .i64)))], [(6, 8), (12, 42)])], blocks := [(0, [], [(6, 8), (12, 42)])], regions := [], conds := [(28, [(8, (.one (.int .u64)))], [(8, 8), (29, 35)])], ords := [] }
theorem ok_bignum_sub : Ok_bignum_sub nums Go.Proofs.Tryz.prog := fun q0 q0l q0c q1 q1l q1c w K h =>
 funD_callsX (fn := Go.Proofs.Tryz.f78) (an := an_bignum_sub) tok tsize mixed Go.Proofs.Tryz.func78 (by kernel_rfl) (Eq.mpr (by kernel_rfl) h)
def an_bignum_sum : An := { loops := [], blocks := [], regions := [], conds := [], ords := [] }
theorem ok_bignum_sum : Ok_bignum_sum nums Go.Proofs.Tryz.prog := fun q0 q1 q1l q1c q2 q3 q3l q3c w K h =>
 funD_callsX (fn := Go.Proofs.Tryz.f79) (an := an_bignum_sum) tok tsize mixed Go.Proofs.Tryz.func79 (by kernel_rfl) (Eq.mpr (by kernel_rfl) h)
def an_bignum_cmp : An := { loops := [(0, [(5, (.one (.int .i64)))], [(4, 5), (19, 40)])], blocks := [(0, [], [(4, 5), (19, 40)])], regions := [], conds := [], ords := [(8, (.q 0 (.q 1 (.q 2 (.q 3 (.q 4 (.q 5 (.q 6 (.q 7 (.q 8 .done)))))))))), (9, (.q 0 (.q 1 (.q 2 (.q 3 (.q 4 (.q 5 (.q 6 (.q 7 (.q 8 .done))))))))))] }
theorem ok_bignum_cmp : Ok_bignum_cmp nums Go.Proofs.Tryz.prog := fun q0 q0l q0c q1 q1l q1c w K h =>
 funD_callsX (fn := Go.Proofs.Tryz.f80) (an := an_bignum_cmp) tok tsize mixed Go.Proofs.Tryz.func80 (by kernel_rfl) (Eq.mpr (by kernel_rfl) h)
def an_p_bignum_Int_SetInt64 : An := { loops := [], blocks := [], regions := [], conds := [(9, [(5, (.one (.int .u64)))], [(5, 5), (10, 11)])], ords := [] }
theorem ok_p_bignum_Int_SetInt64 : Ok_p_bignum_Int_SetInt64 nums Go.Proofs.Tryz.prog := fun q0 q1 w K h =>
 funD_callsX (fn := Go.Proofs.Tryz.f81) (an := an_p_bignum_Int_SetInt64) tok tsize mixed Go.Proofs.Tryz.func81 (by kernel_rfl) (Eq.mpr (by kernel_rfl) h)
def an_math_bits_TrailingZeros64 : An := { loops := [], blocks := [], regions := [], conds := [], ords := [] }
theorem ok_math_bits_TrailingZeros64 : Ok_math_bits_TrailingZeros64 nums Go.Proofs.Tryz.prog := fun q0 w K h =>
 funD_callsX (fn := Go.Proofs.Tryz.f82) (an := an_math_bits_TrailingZeros64) tok tsize mixed Go.Proofs.Tryz.func82 (by kernel_rfl) (Eq.mpr (by kernel_rfl) h)
def an_bits_Join : An := { loops := [], blocks := [], regions := [(2, [(9, (.one .bool))], [(9, 28)]), (4, [(29, (.one .bool))], [(29, 53)])], conds := [(61, [(5, (.one .f64))], [(5, 5), (62, 63)])], ords := [] }
theorem ok_bits_Join : Ok_bits_Join nums Go.Proofs.Tryz.prog := fun q0_0 q0_1 q0_2 w K h =>
 funD_callsX (fn := Go.Proofs.Tryz.f83) (an := an_bits_Join) tok tsize mixed Go.Proofs.Tryz.func83 (by kernel_rfl) (Eq.mpr (by kernel_rfl) h)
def an_bits_Next : An := { loops := [], blocks := [], regions := [], conds := [(17, [(5, (.one (.int .i64)))], [(5, 5), (18, 23)])], ords := [] }
theorem ok_bits_Next : Ok_bits_Next nums Go.Proofs.Tryz.prog := fun q0 q1 w K h =>
 funD_callsX (fn := Go.Proofs.Tryz.f84) (an := an_bits_Next) tok tsize mixed Go.Proofs.Tryz.func84 (by kernel_rfl) (Eq.mpr (by kernel_rfl) h)
def an_girderref02_Num_Zero : An := { loops := [], blocks := [], regions := [], conds := [], ords := [] }
theorem ok_girderref02_Num_Zero : Ok_girderref02_Num_Zero nums Go.Proofs.Tryz.prog := fun q0_0 q0_1 q0_1l q0_1c q0_2 w K h =>
 funD_callsX (fn := Go.Proofs.Tryz.f85) (an := an_girderref02_Num_Zero) tok tsize mixed Go.Proofs.Tryz.func85 (by kernel_rfl) (Eq.mpr (by kernel_rfl) h)
def an_girderref02_Num_top : An := { loops := [], blocks := [], regions := [], conds := [], ords := [(1, (.q 0 (.q 1 (.q 2 (.q 3 (.e 4 (.q 5 (.q 6 .done))))))))] }
theorem ok_girderref02_Num_top : Ok_girderref02_Num_top nums Go.Proofs.Tryz.prog := fun q0_0 q0_1 q0_1l q0_1c q0_2 w K h =>
 funD_callsX (fn := Go.Proofs.Tryz.f86) (an := an_girderref02_Num_top) tok tsize mixed Go.Proofs.Tryz.func86 (by kernel_rfl) (Eq.mpr (by kernel_rfl) h)
def an_girderref02_NatUp : An := { loops := [(0, [(8, (.one (.int .u64))), (9, (.one (.int .i64)))], [(8, 9), (20, 27)]), (2, [(6, (.one .slice)), (7, (.one (.int .u64))), (10, (.one (.int .i64)))], [(6, 7), (10, 11), (28, 48)])], blocks := [(0, [(8, (.one (.int .u64)))], [(8, 9), (20, 27)]), (2, [(6, (.one .slice)), (7, (.one (.int .u64)))], [(6, 7), (10, 11), (28, 48)])], regions := [], conds := [], ords := [] }
theorem ok_girderref02_NatUp : Ok_girderref02_NatUp nums Go.Proofs.Tryz.prog := fun q0 q0l q0c q1 w K h =>
 funD_callsX (fn := Go.Proofs.Tryz.f87) (an := an_girderref02_NatUp) tok tsize mixed Go.Proofs.Tryz.func87 (by kernel_rfl) (Eq.mpr (by kernel_rfl) h)
def an_girderref02_up : An := { loops := [], blocks := [], regions := [], conds := [], ords := [] }
theorem ok_girderref02_up : Ok_girderref02_up nums Go.Proofs.Tryz.prog := fun q0 q1 q2 q3 w K h =>
 funD_callsX (fn := Go.Proofs.Tryz.f88) (an := an_girderref02_up) tok tsize mixed Go.Proofs.Tryz.func88 (by kernel_rfl) (Eq.mpr (by kernel_rfl) h)
def an_girderref02_NatAdd : An := { loops := [(0, [(7, (.one .slice)), (8, (.one (.int .u64))), (9, (.one (.int .i64)))], [(7, 10), (15, 46)])], blocks := [(0, [(7, (.one .slice))], [(7, 10), (15, 46)])], regions := [(5, [(28, (.one .bool))], [(15, 28)])], conds := [], ords := [] }
theorem ok_girderref02_NatAdd : Ok_girderref02_NatAdd nums Go.Proofs.Tryz.prog := fun q0 q0l q0c q1 q1l q1c w K h =>
 funD_callsX (fn := Go.Proofs.Tryz.f89) (an := an_girderref02_NatAdd) tok tsize mixed Go.Proofs.Tryz.func89 (by kernel_rfl) (Eq.mpr (by kernel_rfl) h)
def an_girderref02_NatOf : An := { loops := [], blocks := [], regions := [], conds := [], ords := [] }
theorem ok_girderref02_NatOf : Ok_girderref02_NatOf nums Go.Proofs.Tryz.prog := fun q0 w K h =>
 funD_callsX (fn := Go.Proofs.Tryz.f90) (an := an_girderref02_NatOf) tok tsize mixed Go.Proofs.Tryz.func90 (by kernel_rfl) (Eq.mpr (by kernel_rfl) h)
def an_girderref02_NatBits : An := { loops := [(0, [(4, (.one (.int .i64))), (5, (.one (.int .u64)))], [(4, 5), (21, 26)])], blocks := [(0, [(4, (.one (.int .i64)))], [(4, 5), (21, 26)])], regions := [], conds := [], ords := [] }
theorem ok_girderref02_NatBits : Ok_girderref02_NatBits nums Go.Proofs.Tryz.prog := fun q0 q0l q0c w K h =>
 funD_callsX (fn := Go.Proofs.Tryz.f91) (an := an_girderref02_NatBits) tok tsize mixed Go.Proofs.Tryz.func91 (by kernel_rfl) (Eq.mpr (by kernel_rfl) h)
def an_girderref02_huge : An := { loops := [], blocks := [], regions := [], conds := [(15, [(5, (.one .f64))], [(5, 5)])], ords := [] }
theorem ok_girderref02_huge : Ok_girderref02_huge nums Go.Proofs.Tryz.prog := fun q0 q1 w K h =>
 funD_callsX (fn := Go.Proofs.Tryz.f92) (an := an_girderref02_huge) tok tsize mixed Go.Proofs.Tryz.func92 (by kernel_rfl) (Eq.mpr (by kernel_rfl) h)
def an_girderref02_float : An := { loops := [(0, [(1, (.one (.int .u64))), (2, (.one (.int .i64)))], [(1, 2), (11, 21)])], blocks := [(0, [(1, (.one (.int .u64))), (2, (.one (.int .i64)))], [(1, 2), (11, 21)])], regions := [], conds := [(10, [(2, (.one (.int .i64)))], [(2, 2)])], ords := [] }
theorem ok_girderref02_float : Ok_girderref02_float nums Go.Proofs.Tryz.prog := fun q0 q1 q2 w K h =>
 funD_callsX (fn := Go.Proofs.Tryz.f93) (an := an_girderref02_float) tok tsize mixed Go.Proofs.Tryz.func93 (by kernel_rfl) (Eq.mpr (by kernel_rfl) h)
def an_p_bignum_Int_TrailingZeroBits : An := { loops := [(0, [(3, (.one (.int .u64)))], [(3, 3), (10, 19)])], blocks := [(0, [(3, (.one (.int .u64)))], [(3, 3), (10, 19)])], regions := [], conds := [], ords := [] }
theorem ok_p_bignum_Int_TrailingZeroBits : Ok_p_bignum_Int_TrailingZeroBits nums Go.Proofs.Tryz.prog := fun q0 w K h =>
 funD_callsX (fn := Go.Proofs.Tryz.f94) (an := an_p_bignum_Int_TrailingZeroBits) tok tsize mixed Go.Proofs.Tryz.func94 (by kernel_rfl) (Eq.mpr (by kernel_rfl) h)
def an_p_bignum_Int_BitLen : An := { loops := [], blocks := [], regions := [], conds := [], ords := [] }
theorem ok_p_bignum_Int_BitLen : Ok_p_bignum_Int_BitLen nums Go.Proofs.Tryz.prog := fun q0 w K h =>
 funD_callsX (fn := Go.Proofs.Tryz.f95) (an := an_p_bignum_Int_BitLen) tok tsize mixed Go.Proofs.Tryz.func95 (by kernel_rfl) (Eq.mpr (by kernel_rfl) h)
def an_dyad_limbs : An := { loops := [(0, [(3, (.one .slice))], [(3, 3), (13, 26)])], blocks := [(0, [(3, (.one .slice))], [(3, 3), (13, 26)])], regions := [], conds := [], ords := [] }
theorem ok_dyad_limbs : Ok_dyad_limbs nums Go.Proofs.Tryz.prog := fun q0 w K h =>
 funD_callsX (fn := Go.Proofs.Tryz.f96) (an := an_dyad_limbs) tok tsize mixed Go.Proofs.Tryz.func96 (by kernel_rfl) (Eq.mpr (by kernel_rfl) h)
def an_girderref02_halves : An := { loops := [(0, [(3, (.one .slice)), (4, (.one (.int .i64)))], [(3, 23)])], blocks := [(0, [(3, (.one .slice))], [(3, 23)])], regions := [], conds := [], ords := [(5, (.q 0 (.q 1 (.q 2 (.q 3 (.q 4 (.q 5 (.q 6 (.q 7 (.q 8 (.q 9 (.q 10 (.e 11 (.e 12 (.q 13 .done)))))))))))))))] }
theorem ok_girderref02_halves : Ok_girderref02_halves nums Go.Proofs.Tryz.prog := fun q0 q0l q0c w K h =>
 funD_callsX (fn := Go.Proofs.Tryz.f97) (an := an_girderref02_halves) tok tsize mixed Go.Proofs.Tryz.func97 (by kernel_rfl) (Eq.mpr (by kernel_rfl) h)
def an_girderref02_short : An := { loops := [(0, [(7, (.one (.int .u64))), (8, (.one (.int .i64)))], [(7, 9), (16, 35)])], blocks := [(0, [(7, (.one (.int .u64)))], [(7, 9), (16, 35)])], regions := [], conds := [], ords := [] }
theorem ok_girderref02_short : Ok_girderref02_short nums Go.Proofs.Tryz.prog := fun q0 q0l q0c q1 w K h =>
 funD_callsX (fn := Go.Proofs.Tryz.f98) (an := an_girderref02_short) tok tsize mixed Go.Proofs.Tryz.func98 (by kernel_rfl) (Eq.mpr (by kernel_rfl) h)
def an_girderref02_limbs : An := { loops := [(0, [(3, (.one .slice)), (4, (.one (.int .i64)))], [(3, 32)])], blocks := [(0, [(3, (.one .slice))], [(3, 32)])], regions := [], conds := [(20, [(5, (.one (.int .u64)))], [(5, 5), (21, 28)])], ords := [] }
theorem ok_girderref02_limbs : Ok_girderref02_limbs nums Go.Proofs.Tryz.prog := fun q0 q0l q0c w K h =>
 funD_callsX (fn := Go.Proofs.Tryz.f99) (an := an_girderref02_limbs) tok tsize mixed Go.Proofs.Tryz.func99 (by kernel_rfl) (Eq.mpr (by kernel_rfl) h)
def an_girderref01_Split : An := { loops := [(0, [], [(33, 49)])], blocks := [(0, [], [(33, 49)])], regions := [], conds := [(22, [], [(23, 28)]), (31, [], [(32, 32)])], ords := [] }
theorem ok_girderref01_Split : Ok_girderref01_Split nums Go.Proofs.Tryz.prog := fun q0 w K h =>
 funD_callsX (fn := Go.Proofs.Tryz.f100) (an := an_girderref01_Split) tok tsize mixed Go.Proofs.Tryz.func100 (by kernel_rfl) (Eq.mpr (by kernel_rfl) h)
def an_bignum_mul : An := { loops := [(0, [(6, (.one (.int .i64)))], [(6, 8), (23, 72)]), (2, [(7, (.one (.int .u64))), (8, (.one (.int .i64)))], [(7, 8), (29, 64)])], blocks := [(0, [], [(6, 8), (23, 72)]), (2, [(7, (.one (.int .u64)))], [(7, 8), (29, 64)])], regions := [(1, [(16, (.one .bool))], [(9, 16)])], conds := [], ords := [(11, (.q 0 (.q 1 (.q 2 (.q 3 (.q 4 (.q 5 (.q 6 (.q 7 (.q 8 (.q 9 (.q 10 (.q 11 (.q 12 (.q 13 (.q 14 (.q 15 (.q 16 (.q 17 (.q 18 (.q 19 (.q 20 (.q 21 .done)))))))))))))))))))))))] }
theorem ok_bignum_mul : Ok_bignum_mul nums Go.Proofs.Tryz.prog := fun q0 q0l q0c q1 q1l q1c w K h =>
 funD_callsX (fn := Go.Proofs.Tryz.f101) (an := an_bignum_mul) tok tsize mixed Go.Proofs.Tryz.func101 (by kernel_rfl) (Eq.mpr (by kernel_rfl) h)
def an_girderref02_NatCmp : An := { loops := [(0, [(7, (.one (.int .i64)))], [(4, 4), (7, 7), (25, 46)])], blocks := [(0, [], [(4, 4), (7, 7), (25, 46)])], regions := [], conds := [], ords := [(9, (.q 0 (.q 1 (.q 2 (.q 3 (.q 4 (.q 5 (.q 6 (.q 7 (.q 8 .done)))))))))), (11, (.q 0 (.q 1 (.q 2 (.q 3 (.q 4 (.q 5 (.q 6 (.q 7 (.q 8 .done))))))))))] }
theorem ok_girderref02_NatCmp : Ok_girderref02_NatCmp nums Go.Proofs.Tryz.prog := fun q0 q0l q0c q1 q1l q1c w K h =>
 funD_callsX (fn := Go.Proofs.Tryz.f102) (an := an_girderref02_NatCmp) tok tsize mixed Go.Proofs.Tryz.func102 (by kernel_rfl) (Eq.mpr (by kernel_rfl) h)
def an_girderref02_NatSub : An := { loops := [(0, [(7, (.one .slice)), (8, (.one (.int .u64))), (9, (.one (.int .i64)))], [(7, 10), (15, 39)])], blocks := [(0, [(7, (.one .slice))], [(7, 10), (15, 39)])], regions := [], conds := [], ords := [(7, (.q 0 (.q 1 (.q 2 (.q 3 (.q 4 (.q 5 (.q 6 (.q 9 (.e 7 (.q 8 (.q 10 (.q 11 .done)))))))))))))] }
theorem ok_girderref02_NatSub : Ok_girderref02_NatSub nums Go.Proofs.Tryz.prog := fun q0 q0l q0c q1 q1l q1c w K h =>
 funD_callsX (fn := Go.Proofs.Tryz.f103) (an := an_girderref02_NatSub) tok tsize mixed Go.Proofs.Tryz.func103 (by kernel_rfl) (Eq.mpr (by kernel_rfl) h)
def an_bits_Kind : An := { loops := [], blocks := [], regions := [], conds := [], ords := [] }
theorem ok_bits_Kind : Ok_bits_Kind nums Go.Proofs.Tryz.prog := fun q0 w K h =>
 funD_callsX (fn := Go.Proofs.Tryz.f105) (an := an_bits_Kind) tok tsize mixed Go.Proofs.Tryz.func105 (by kernel_rfl) (Eq.mpr (by kernel_rfl) h)
def an_math_Signbit : An := { loops := [], blocks := [], regions := [], conds := [], ords := [] }
theorem ok_math_Signbit : Ok_math_Signbit nums Go.Proofs.Tryz.prog := fun q0 w K h =>
 funD_callsX (fn := Go.Proofs.Tryz.f106) (an := an_math_Signbit) tok tsize mixed Go.Proofs.Tryz.func106 (by kernel_rfl) (Eq.mpr (by kernel_rfl) h)
def an_math_Frexp : An := { loops := [], blocks := [], regions := [], conds := [], ords := [] }
theorem ok_math_Frexp : Ok_math_Frexp nums Go.Proofs.Tryz.prog := fun q0 w K h =>
 funD_callsX (fn := Go.Proofs.Tryz.f107) (an := an_math_Frexp) tok tsize mixed Go.Proofs.Tryz.func107 (by kernel_rfl) (Eq.mpr (by kernel_rfl) h)
def an_math_Abs : An := { loops := [], blocks := [], regions := [], conds := [], ords := [] }
theorem ok_math_Abs : Ok_math_Abs nums Go.Proofs.Tryz.prog := fun q0 w K h =>
 funD_callsX (fn := Go.Proofs.Tryz.f108) (an := an_math_Abs) tok tsize mixed Go.Proofs.Tryz.func108 (by kernel_rfl) (Eq.mpr (by kernel_rfl) h)
def an_math_Ldexp : An := { loops := [], blocks := [], regions := [], conds := [], ords := [] }
theorem ok_math_Ldexp : Ok_math_Ldexp nums Go.Proofs.Tryz.prog := fun q0 q1 w K h =>
 funD_callsX (fn := Go.Proofs.Tryz.f109) (an := an_math_Ldexp) tok tsize mixed Go.Proofs.Tryz.func109 (by kernel_rfl) (Eq.mpr (by kernel_rfl) h)
def an_p_bignum_Int_low : An := { loops := [(0, [(6, (.one (.int .u64))), (7, (.one (.int .i64)))], [(6, 7), (20, 39)])], blocks := [(0, [], [(6, 7), (20, 39)])], regions := [], conds := [(19, [], [(6, 7), (20, 39)])], ords := [] }
theorem ok_p_bignum_Int_low : Ok_p_bignum_Int_low nums Go.Proofs.Tryz.prog := fun q0 q1 w K h =>
 funD_callsX (fn := Go.Proofs.Tryz.f110) (an := an_p_bignum_Int_low) tok tsize mixed Go.Proofs.Tryz.func110 (by kernel_rfl) (Eq.mpr (by kernel_rfl) h)
def an_p_bignum_Int_of : An := { loops := [(0, [(5, (.one (.int .u64))), (6, (.one (.int .i64)))], [(5, 6), (20, 40)])], blocks := [(0, [], [(5, 6), (20, 40)])], regions := [(1, [(19, (.one .bool))], [(7, 19)])], conds := [], ords := [] }
theorem ok_p_bignum_Int_of : Ok_p_bignum_Int_of nums Go.Proofs.Tryz.prog := fun q0 q1 q1l q1c w K h =>
 funD_callsX (fn := Go.Proofs.Tryz.f111) (an := an_p_bignum_Int_of) tok tsize mixed Go.Proofs.Tryz.func111 (by kernel_rfl) (Eq.mpr (by kernel_rfl) h)
def an_bignum_words : An := { loops := [], blocks := [], regions := [], conds := [], ords := [] }
theorem ok_bignum_words : Ok_bignum_words nums Go.Proofs.Tryz.prog := fun q0 w K h =>
 funD_callsX (fn := Go.Proofs.Tryz.f112) (an := an_bignum_words) tok tsize mixed Go.Proofs.Tryz.func112 (by kernel_rfl) (Eq.mpr (by kernel_rfl) h)
def an_bignum_trim : An := { loops := [(0, [(3, (.one (.int .i64)))], [(3, 3), (6, 17)])], blocks := [(0, [(3, (.one (.int .i64)))], [(3, 3), (6, 17)])], regions := [], conds := [], ords := [] }
theorem ok_bignum_trim : Ok_bignum_trim nums Go.Proofs.Tryz.prog := fun q0 q0l q0c w K h =>
 funD_callsX (fn := Go.Proofs.Tryz.f113) (an := an_bignum_trim) tok tsize mixed Go.Proofs.Tryz.func113 (by kernel_rfl) (Eq.mpr (by kernel_rfl) h)
def an_math_Copysign : An := { loops := [], blocks := [], regions := [], conds := [], ords := [] }
theorem ok_math_Copysign : Ok_math_Copysign nums Go.Proofs.Tryz.prog := fun q0 q1 w K h =>
 funD_callsX (fn := Go.Proofs.Tryz.f114) (an := an_math_Copysign) tok tsize mixed Go.Proofs.Tryz.func114 (by kernel_rfl) (Eq.mpr (by kernel_rfl) h)
def an_bits_Place : An := { loops := [], blocks := [], regions := [], conds := [(13, [(4, (.one (.int .i64)))], [(4, 4), (14, 15)])], ords := [] }
theorem ok_bits_Place : Ok_bits_Place nums Go.Proofs.Tryz.prog := fun q0 w K h =>
 funD_callsX (fn := Go.Proofs.Tryz.f115) (an := an_bits_Place) tok tsize mixed Go.Proofs.Tryz.func115 (by kernel_rfl) (Eq.mpr (by kernel_rfl) h)
def an_bits_At : An := { loops := [], blocks := [], regions := [], conds := [], ords := [] }
theorem ok_bits_At : Ok_bits_At nums Go.Proofs.Tryz.prog := fun q0 w K h =>
 funD_callsX (fn := Go.Proofs.Tryz.f116) (an := an_bits_At) tok tsize mixed Go.Proofs.Tryz.func116 (by kernel_rfl) (Eq.mpr (by kernel_rfl) h)
def an_girderref02_digit : An := { loops := [], blocks := [], regions := [], conds := [], ords := [] }
theorem ok_girderref02_digit : Ok_girderref02_digit nums Go.Proofs.Tryz.prog := fun q0 q0l q0c q1 w K h =>
 funD_callsX (fn := Go.Proofs.Tryz.f117) (an := an_girderref02_digit) tok tsize mixed Go.Proofs.Tryz.func117 (by kernel_rfl) (Eq.mpr (by kernel_rfl) h)
def an_girderref01_Join : An := { loops := [(0, [(4, (.one (.int .u64))), (5, (.one (.int .i64)))], [(4, 5), (44, 57)])], blocks := [(0, [(4, (.one (.int .u64))), (5, (.one (.int .i64)))], [(4, 5), (44, 57)])], regions := [(1, [(39, (.one .bool))], [(7, 39)])], conds := [(62, [(6, (.one (.int .u64)))], [(6, 6), (63, 69)]), (71, [(6, (.one (.int .u64)))], [(6, 6), (72, 73)])], ords := [(3, (.q 0 (.q 1 (.q 2 (.q 3 (.q 4 (.q 5 .done)))))))] }
theorem ok_girderref01_Join : Ok_girderref01_Join nums Go.Proofs.Tryz.prog := fun q0_0 q0_1 q0_2 w K h =>
 funD_callsX (fn := Go.Proofs.Tryz.f118) (an := an_girderref01_Join) tok tsize mixed Go.Proofs.Tryz.func118 (by kernel_rfl) (Eq.mpr (by kernel_rfl) h)
def an_bignum_bit : An := { loops := [], blocks := [], regions := [], conds := [], ords := [] }
theorem ok_bignum_bit : Ok_bignum_bit nums Go.Proofs.Tryz.prog := fun q0 q0l q0c q1 w K h =>
 funD_callsX (fn := Go.Proofs.Tryz.f119) (an := an_bignum_bit) tok tsize mixed Go.Proofs.Tryz.func119 (by kernel_rfl) (Eq.mpr (by kernel_rfl) h)
def an_bignum_length : An := { loops := [(0, [(3, (.one (.int .i64))), (4, (.one (.int .u32)))], [(3, 4), (14, 19)])], blocks := [(0, [(3, (.one (.int .i64)))], [(3, 4), (14, 19)])], regions := [], conds := [], ords := [] }
theorem ok_bignum_length : Ok_bignum_length nums Go.Proofs.Tryz.prog := fun q0 q0l q0c w K h =>
 funD_callsX (fn := Go.Proofs.Tryz.f120) (an := an_bignum_length) tok tsize mixed Go.Proofs.Tryz.func120 (by kernel_rfl) (Eq.mpr (by kernel_rfl) h)
def an_p_bignum_Int_And : An := { loops := [(0, [(10, (.one (.int .i64)))], [(10, 10), (29, 43)])], blocks := [(0, [], [(10, 10), (29, 43)])], regions := [], conds := [], ords := [(1, (.q 0 (.q 1 (.q 2 (.q 3 (.q 4 (.q 5 (.q 6 (.q 7 (.q 8 (.q 9 (.q 10 (.q 11 (.q 12 .done)))))))))))))), (6, (.q 0 (.q 1 (.q 2 (.q 3 (.q 4 (.q 5 (.q 6 (.q 7 (.q 8 (.q 9 (.e 10 .done))))))))))))] }
theorem ok_p_bignum_Int_And : Ok_p_bignum_Int_And nums Go.Proofs.Tryz.prog := fun q0 q1 q2 w K h =>
 funD_callsX (fn := Go.Proofs.Tryz.f121) (an := an_p_bignum_Int_And) tok tsize mixed Go.Proofs.Tryz.func121 (by kernel_rfl) (Eq.mpr (by kernel_rfl) h)
def an_girderref02_low : An := { loops := [(0, [(3, (.one (.int .i64)))], [(3, 3), (6, 17)])], blocks := [(0, [(3, (.one (.int .i64)))], [(3, 3), (6, 17)])], regions := [], conds := [], ords := [] }
theorem ok_girderref02_low : Ok_girderref02_low nums Go.Proofs.Tryz.prog := fun q0 q0l q0c w K h =>
 funD_callsX (fn := Go.Proofs.Tryz.f122) (an := an_girderref02_low) tok tsize mixed Go.Proofs.Tryz.func122 (by kernel_rfl) (Eq.mpr (by kernel_rfl) h)
def an_girderref01_Finite : An := { loops := [], blocks := [], regions := [], conds := [], ords := [] }
theorem ok_girderref01_Finite : Ok_girderref01_Finite nums Go.Proofs.Tryz.prog := fun q0 w K h =>
 funD_callsX (fn := Go.Proofs.Tryz.f123) (an := an_girderref01_Finite) tok tsize mixed Go.Proofs.Tryz.func123 (by kernel_rfl) (Eq.mpr (by kernel_rfl) h)
def an_girderref01_fields : An := { loops := [], blocks := [], regions := [], conds := [], ords := [] }
theorem ok_girderref01_fields : Ok_girderref01_fields nums Go.Proofs.Tryz.prog := fun q0 w K h =>
 funD_callsX (fn := Go.Proofs.Tryz.f124) (an := an_girderref01_fields) tok tsize mixed Go.Proofs.Tryz.func124 (by kernel_rfl) (Eq.mpr (by kernel_rfl) h)
def an_math_IsInf : An := { loops := [], blocks := [], regions := [], conds := [(6, [(0, (.one .f64))], [(0, 0), (7, 12)]), (10, [(0, (.one .f64))], [(0, 0), (11, 12)])], ords := [] }
theorem ok_math_IsInf : Ok_math_IsInf nums Go.Proofs.Tryz.prog := fun q0 q1 w K h =>
 funD_callsX (fn := Go.Proofs.Tryz.f126) (an := an_math_IsInf) tok tsize mixed Go.Proofs.Tryz.func126 (by kernel_rfl) (Eq.mpr (by kernel_rfl) h)
def an_math_frexp : An := { loops := [], blocks := [], regions := [], conds := [], ords := [] }
theorem ok_math_frexp : Ok_math_frexp nums Go.Proofs.Tryz.prog := fun q0 w K h =>
 funD_callsX (fn := Go.Proofs.Tryz.f128) (an := an_math_frexp) tok tsize mixed Go.Proofs.Tryz.func128 (by kernel_rfl) (Eq.mpr (by kernel_rfl) h)
def an_math_ldexp : An := { loops := [], blocks := [], regions := [(3, [(12, (.one .bool))], [(12, 18)])], conds := [(48, [(1, (.one (.int .i64))), (7, (.one .f64))], [(1, 1), (7, 7), (49, 50)])], ords := [] }
theorem ok_math_ldexp : Ok_math_ldexp nums Go.Proofs.Tryz.prog := fun q0 q1 w K h =>
 funD_callsX (fn := Go.Proofs.Tryz.f131) (an := an_math_ldexp) tok tsize mixed Go.Proofs.Tryz.func131 (by kernel_rfl) (Eq.mpr (by kernel_rfl) h)
def an_girderref01_Kind : An := { loops := [], blocks := [], regions := [], conds := [], ords := [] }
theorem ok_girderref01_Kind : Ok_girderref01_Kind nums Go.Proofs.Tryz.prog := fun q0 w K h =>
 funD_callsX (fn := Go.Proofs.Tryz.f132) (an := an_girderref01_Kind) tok tsize mixed Go.Proofs.Tryz.func132 (by kernel_rfl) (Eq.mpr (by kernel_rfl) h)
def an_math_IsNaN : An := { loops := [], blocks := [], regions := [], conds := [], ords := [] }
theorem ok_math_IsNaN : Ok_math_IsNaN nums Go.Proofs.Tryz.prog := fun q0 w K h =>
 funD_callsX (fn := Go.Proofs.Tryz.f133) (an := an_math_IsNaN) tok tsize mixed Go.Proofs.Tryz.func133 (by kernel_rfl) (Eq.mpr (by kernel_rfl) h)
def an_math_normalize : An := { loops := [], blocks := [], regions := [], conds := [], ords := [] }
theorem ok_math_normalize : Ok_math_normalize nums Go.Proofs.Tryz.prog := fun q0 w K h =>
 funD_callsX (fn := Go.Proofs.Tryz.f134) (an := an_math_normalize) tok tsize mixed Go.Proofs.Tryz.func134 (by kernel_rfl) (Eq.mpr (by kernel_rfl) h)
def an_math_Inf : An := { loops := [], blocks := [], regions := [], conds := [(5, [(3, (.one (.int .u64)))], [(3, 3)])], ords := [] }
theorem ok_math_Inf : Ok_math_Inf nums Go.Proofs.Tryz.prog := fun q0 w K h =>
 funD_callsX (fn := Go.Proofs.Tryz.f135) (an := an_math_Inf) tok tsize mixed Go.Proofs.Tryz.func135 (by kernel_rfl) (Eq.mpr (by kernel_rfl) h)
theorem ok_math_Float64bits : Ok_math_Float64bits nums Go.Proofs.Tryz.prog := by
  intro x w K h
  exact ext_ok (fn := Go.Proofs.Tryz.f50) (g := Extern.MathFloatBits.float64bits) Go.Proofs.Tryz.func50 (by kernel_rfl) (by kernel_rfl) (by kernel_rfl) (by kernel_rfl) rfl h

theorem ok_math_Float64frombits : Ok_math_Float64frombits nums Go.Proofs.Tryz.prog := by
  intro x w K h
  exact ext_ok (fn := Go.Proofs.Tryz.f129) (g := Extern.MathFloatBits.float64frombits) Go.Proofs.Tryz.func129 (by kernel_rfl) (by kernel_rfl) (by kernel_rfl) (by kernel_rfl) rfl h

theorem ok_math_bits_Len64 : Ok_math_bits_Len64 nums Go.Proofs.Tryz.prog := by
  intro x h0 h1 w K h
  exact callsX_of (fn := Go.Proofs.Tryz.f51) Go.Proofs.Tryz.func51 (by kernel_rfl) (by kernel_rfl) ((Go.Proofs.Tryz.bits_Len64 x w h0 h1).mono fun e w1 ⟨he, hw⟩ => ⟨_, he, by subst hw; exact h⟩)

theorem allOk : AllOk nums Go.Proofs.Tryz.prog := { girderlaw02_DyadNorms := ok_girderlaw02_DyadNorms, girderlaw02_awake := ok_girderlaw02_awake, girderkit_LentDyad := ok_girderkit_LentDyad, dyad_Round := ok_dyad_Round, girderkit_KeptDyad := ok_girderkit_KeptDyad, dyad_Right := ok_dyad_Right, dyad_Fits := ok_dyad_Fits, dyad_Norm := ok_dyad_Norm, girderkit_OverDyad := ok_girderkit_OverDyad, girderref02_Norm := ok_girderref02_Norm, girderref02_Right := ok_girderref02_Right, girderref02_Fits := ok_girderref02_Fits, girderkit_SameDyad := ok_girderkit_SameDyad, dyad_Add := ok_dyad_Add, dyad_Mul := ok_dyad_Mul, dyad_Of := ok_dyad_Of, dyad_Int := ok_dyad_Int, girderkit_LentLimbs := ok_girderkit_LentLimbs, dyad_whole := ok_dyad_whole, p_bignum_Int_Abs := ok_p_bignum_Int_Abs, dyad_top := ok_dyad_top, p_bignum_Int_Lsh := ok_p_bignum_Int_Lsh, p_bignum_Int_Uint64 := ok_p_bignum_Int_Uint64, p_bignum_Int_Rsh := ok_p_bignum_Int_Rsh, p_bignum_Int_Sub := ok_p_bignum_Int_Sub, p_bignum_Int_Cmp := ok_p_bignum_Int_Cmp, bignum_NewInt := ok_bignum_NewInt, p_bignum_Int_Sign := ok_p_bignum_Int_Sign, dyad_away := ok_dyad_away, dyad_float := ok_dyad_float, girderref02_Rounded := ok_girderref02_Rounded, girderref02_Dyad := ok_girderref02_Dyad, girderkit_KeptLimbs := ok_girderkit_KeptLimbs, dyad_made := ok_dyad_made, girderkit_OverLimbs := ok_girderkit_OverLimbs, girderref02_NatTrim := ok_girderref02_NatTrim, girderref02_NatDown := ok_girderref02_NatDown, girderref02_Of := ok_girderref02_Of, girderref02_Compare := ok_girderref02_Compare, girderkit_SameLimbs := ok_girderkit_SameLimbs, dyad_both := ok_dyad_both, p_bignum_Int_Add := ok_p_bignum_Int_Add, p_bignum_Int_Mul := ok_p_bignum_Int_Mul, girderref02_Plus := ok_girderref02_Plus, girderref02_Minus := ok_girderref02_Minus, girderref02_Num_Sign := ok_girderref02_Num_Sign, bits_Split := ok_bits_Split, girderkit_mark := ok_girderkit_mark, p_bignum_Int_Or := ok_p_bignum_Int_Or, p_bignum_Int_SetUint64 := ok_p_bignum_Int_SetUint64, p_bignum_Int_Neg := ok_p_bignum_Int_Neg, p_bignum_Int_give := ok_p_bignum_Int_give, bignum_twin := ok_bignum_twin, bignum_left := ok_bignum_left, bignum_add := ok_bignum_add, bignum_right := ok_bignum_right, bignum_sub := ok_bignum_sub, bignum_sum := ok_bignum_sum, bignum_cmp := ok_bignum_cmp, p_bignum_Int_SetInt64 := ok_p_bignum_Int_SetInt64, math_bits_TrailingZeros64 := ok_math_bits_TrailingZeros64, bits_Join := ok_bits_Join, bits_Next := ok_bits_Next, girderref02_Num_Zero := ok_girderref02_Num_Zero, girderref02_Num_top := ok_girderref02_Num_top, girderref02_NatUp := ok_girderref02_NatUp, girderref02_up := ok_girderref02_up, girderref02_NatAdd := ok_girderref02_NatAdd, girderref02_NatOf := ok_girderref02_NatOf, girderref02_NatBits := ok_girderref02_NatBits, girderref02_huge := ok_girderref02_huge, girderref02_float := ok_girderref02_float, p_bignum_Int_TrailingZeroBits := ok_p_bignum_Int_TrailingZeroBits, p_bignum_Int_BitLen := ok_p_bignum_Int_BitLen, dyad_limbs := ok_dyad_limbs, girderref02_halves := ok_girderref02_halves, girderref02_short := ok_girderref02_short, girderref02_limbs := ok_girderref02_limbs, girderref01_Split := ok_girderref01_Split, bignum_mul := ok_bignum_mul, girderref02_NatCmp := ok_girderref02_NatCmp, girderref02_NatSub := ok_girderref02_NatSub, bits_Kind := ok_bits_Kind, math_Signbit := ok_math_Signbit, math_Frexp := ok_math_Frexp, math_Abs := ok_math_Abs, math_Ldexp := ok_math_Ldexp, p_bignum_Int_low := ok_p_bignum_Int_low, p_bignum_Int_of := ok_p_bignum_Int_of, bignum_words := ok_bignum_words, bignum_trim := ok_bignum_trim, math_Copysign := ok_math_Copysign, bits_Place := ok_bits_Place, bits_At := ok_bits_At, girderref02_digit := ok_girderref02_digit, girderref01_Join := ok_girderref01_Join, bignum_bit := ok_bignum_bit, bignum_length := ok_bignum_length, p_bignum_Int_And := ok_p_bignum_Int_And, girderref02_low := ok_girderref02_low, girderref01_Finite := ok_girderref01_Finite, girderref01_fields := ok_girderref01_fields, math_IsInf := ok_math_IsInf, math_frexp := ok_math_frexp, math_ldexp := ok_math_ldexp, girderref01_Kind := ok_girderref01_Kind, math_IsNaN := ok_math_IsNaN, math_normalize := ok_math_normalize, math_Inf := ok_math_Inf, math_Float64bits := ok_math_Float64bits, math_Float64frombits := ok_math_Float64frombits, math_bits_Len64 := ok_math_bits_Len64 }

end Go.Eng
