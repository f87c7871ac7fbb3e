/-
  Each function of the program comes to what its proposition says: one equation a function, by the kernel. No condition.
-/
import Derived.Test.YtmecjaojkegamaaDoorLn
import Derived.Test.YtmecjaojkegamaaDoorRow2
import Derived.Test.YtmecjaojkegamaaDoorSh
import Derived.Test.YtmecjaojkegamaaDoorTb
set_option linter.unusedVariables false
set_option linter.unusedSimpArgs false
set_option linter.unnecessarySimpa false
set_option linter.unusedSectionVars false
set_option maxRecDepth 100000
namespace Go.Eng
open Go

def an_girderlaw02_DyadBetween : An := { loops := [], blocks := [], regions := [(10, [(71, (.one .bool))], [(58, 71)]), (20, [(139, (.one .bool))], [(116, 139)]), (22, [(147, (.one .bool))], [(140, 147)]), (28, [(183, (.one .bool))], [(170, 183)])], conds := [(108, [(17, (.one .f64))], [(17, 17), (109, 109)])], ords := [] }
theorem ok_girderlaw02_DyadBetween : Ok_girderlaw02_DyadBetween nums Go.Proofs.Tryd.prog := fun q0_0 q0_1 q0_1l q0_1c q0_2 w K h =>
 funD_callsX (fn := Go.Proofs.Tryd.f8) (an := an_girderlaw02_DyadBetween) tok tsize mixed Go.Proofs.Tryd.func8 (by kernel_rfl) (Eq.mpr (by kernel_rfl) h)
def an_girderlaw02_awake : An := { loops := [], blocks := [], regions := [(2, [(3, (.one .ptr)), (4, (.one (.int .i64)))], [(3, 4), (15, 20)]), (3, [(5, (.one .ptr)), (6, (.one (.int .i64)))], [(5, 6), (21, 26)])], conds := [], ords := [(2, (.q 0 (.alt (.e 1 (.alt (.e 2 (.q 3 (.q 4 (.q 5 (.e 6 (.e 7 (.q 8 .done))))))) (.e 6 (.e 2 (.q 3 (.q 4 (.q 5 (.e 7 (.q 8 .done))))))))) (.e 6 (.e 1 (.e 2 (.q 3 (.q 4 (.q 5 (.e 7 (.q 8 .done))))))))))), (3, (.q 0 (.alt (.e 1 (.alt (.e 2 (.q 3 (.q 4 (.q 5 (.e 6 (.e 7 (.q 8 .done))))))) (.e 6 (.e 2 (.q 3 (.q 4 (.q 5 (.e 7 (.q 8 .done))))))))) (.e 6 (.e 1 (.e 2 (.q 3 (.q 4 (.q 5 (.e 7 (.q 8 .done)))))))))))] }
theorem ok_girderlaw02_awake : Ok_girderlaw02_awake nums Go.Proofs.Tryd.prog := fun  w K h =>
 funD_callsX (fn := Go.Proofs.Tryd.f9) (an := an_girderlaw02_awake) tok tsize mixed Go.Proofs.Tryd.func9 (by kernel_rfl) (Eq.mpr (by kernel_rfl) h)
def an_dyad_Of : An := { loops := [], blocks := [], regions := [], conds := [], ords := [] }
theorem ok_dyad_Of : Ok_dyad_Of nums Go.Proofs.Tryd.prog := fun q0 w K h =>
 funD_callsX (fn := Go.Proofs.Tryd.f10) (an := an_dyad_Of) tok tsize mixed Go.Proofs.Tryd.func10 (by kernel_rfl) (Eq.mpr (by kernel_rfl) h)
def an_girderkit_SameDyad : An := { loops := [], blocks := [], regions := [], conds := [], ords := [] }
theorem ok_girderkit_SameDyad : Ok_girderkit_SameDyad nums Go.Proofs.Tryd.prog := fun q0_0 q0_1 q0_1l q0_1c q0_2 q1_0 q1_1 q1_1l q1_1c q1_2 w K h =>
 funD_callsX (fn := Go.Proofs.Tryd.f12) (an := an_girderkit_SameDyad) tok tsize mixed Go.Proofs.Tryd.func12 (by kernel_rfl) (Eq.mpr (by kernel_rfl) h)
def an_dyad_Int : An := { loops := [], blocks := [], regions := [], conds := [], ords := [] }
theorem ok_dyad_Int : Ok_dyad_Int nums Go.Proofs.Tryd.prog := fun q0 w K h =>
 funD_callsX (fn := Go.Proofs.Tryd.f13) (an := an_dyad_Int) tok tsize mixed Go.Proofs.Tryd.func13 (by kernel_rfl) (Eq.mpr (by kernel_rfl) h)
def an_girderkit_LentDyad : An := { loops := [], blocks := [], regions := [], conds := [], ords := [] }
theorem ok_girderkit_LentDyad : Ok_girderkit_LentDyad nums Go.Proofs.Tryd.prog := fun q0_0 q0_1 q0_1l q0_1c q0_2 w K h =>
 funD_callsX (fn := Go.Proofs.Tryd.f15) (an := an_girderkit_LentDyad) tok tsize mixed Go.Proofs.Tryd.func15 (by kernel_rfl) (Eq.mpr (by kernel_rfl) h)
def an_girderkit_KeptDyad : An := { loops := [], blocks := [], regions := [], conds := [], ords := [] }
theorem ok_girderkit_KeptDyad : Ok_girderkit_KeptDyad nums Go.Proofs.Tryd.prog := fun q0_0 q0_1 q0_1l q0_1c q0_2 q1_0 q1_1 q1_1l q1_1c q1_2 w K h =>
 funD_callsX (fn := Go.Proofs.Tryd.f17) (an := an_girderkit_KeptDyad) tok tsize mixed Go.Proofs.Tryd.func17 (by kernel_rfl) (Eq.mpr (by kernel_rfl) h)
def an_girderkit_OverDyad : An := { loops := [], blocks := [], regions := [], conds := [], ords := [] }
theorem ok_girderkit_OverDyad : Ok_girderkit_OverDyad nums Go.Proofs.Tryd.prog := fun q0_0 q0_1 q0_1l q0_1c q0_2 w K h =>
 funD_callsX (fn := Go.Proofs.Tryd.f18) (an := an_girderkit_OverDyad) tok tsize mixed Go.Proofs.Tryd.func18 (by kernel_rfl) (Eq.mpr (by kernel_rfl) h)
def an_dyad_Add : An := { loops := [], blocks := [], regions := [(4, [(25, (.one .bool))], [(18, 25)])], conds := [(42, [(6, (.one .ptr)), (7, (.one .ptr))], [(6, 7), (43, 46)])], ords := [(3, (.q 0 (.q 2 (.e 1 (.e 3 (.q 4 (.q 5 .done))))))), (5, (.q 0 (.q 1 (.q 2 (.q 4 (.q 5 (.q 6 (.q 7 (.q 8 (.e 3 (.e 9 (.q 10 (.q 11 (.e 12 (.q 13 .done))))))))))))))), (11, (.q 0 (.q 1 (.q 2 (.q 3 (.q 4 (.q 6 (.q 8 (.q 9 (.e 5 (.e 7 (.e 10 (.q 11 (.q 12 (.e 13 (.q 14 .done))))))))))))))))] }
theorem ok_dyad_Add : Ok_dyad_Add nums Go.Proofs.Tryd.prog := fun q0_0 q0_1 q0_1l q0_1c q0_2 q1_0 q1_1 q1_1l q1_1c q1_2 w K h =>
 funD_callsX (fn := Go.Proofs.Tryd.f21) (an := an_dyad_Add) tok tsize mixed Go.Proofs.Tryd.func21 (by kernel_rfl) (Eq.mpr (by kernel_rfl) h)
def an_dyad_Mul : An := { loops := [], blocks := [], regions := [], conds := [], ords := [(4, (.q 0 (.q 1 (.q 2 (.q 5 (.q 6 (.q 7 (.q 8 (.q 9 (.e 3 (.e 4 (.e 10 (.q 11 (.q 12 (.e 13 (.q 14 .done))))))))))))))))] }
theorem ok_dyad_Mul : Ok_dyad_Mul nums Go.Proofs.Tryd.prog := fun q0_0 q0_1 q0_1l q0_1c q0_2 q1_0 q1_1 q1_1l q1_1c q1_2 w K h =>
 funD_callsX (fn := Go.Proofs.Tryd.f22) (an := an_dyad_Mul) tok tsize mixed Go.Proofs.Tryd.func22 (by kernel_rfl) (Eq.mpr (by kernel_rfl) h)
def an_dyad_Sub : An := { loops := [], blocks := [], regions := [], conds := [], ords := [] }
theorem ok_dyad_Sub : Ok_dyad_Sub nums Go.Proofs.Tryd.prog := fun q0_0 q0_1 q0_1l q0_1c q0_2 q1_0 q1_1 q1_1l q1_1c q1_2 w K h =>
 funD_callsX (fn := Go.Proofs.Tryd.f24) (an := an_dyad_Sub) tok tsize mixed Go.Proofs.Tryd.func24 (by kernel_rfl) (Eq.mpr (by kernel_rfl) h)
def an_girderkit_Finite : An := { loops := [], blocks := [], regions := [], conds := [], ords := [] }
theorem ok_girderkit_Finite : Ok_girderkit_Finite nums Go.Proofs.Tryd.prog := fun q0 w K h =>
 funD_callsX (fn := Go.Proofs.Tryd.f25) (an := an_girderkit_Finite) tok tsize mixed Go.Proofs.Tryd.func25 (by kernel_rfl) (Eq.mpr (by kernel_rfl) h)
def an_dyad_Round : An := { loops := [], blocks := [], regions := [], conds := [(34, [(8, (.one (.int .u64)))], [(8, 8), (10, 12), (35, 79)]), (77, [(8, (.one (.int .u64)))], [(8, 8), (78, 79)])], ords := [] }
theorem ok_dyad_Round : Ok_dyad_Round nums Go.Proofs.Tryd.prog := fun q0_0 q0_1 q0_1l q0_1c q0_2 q1 w K h =>
 funD_callsX (fn := Go.Proofs.Tryd.f26) (an := an_dyad_Round) tok tsize mixed Go.Proofs.Tryd.func26 (by kernel_rfl) (Eq.mpr (by kernel_rfl) h)
def an_girderkit_SameFloat : An := { loops := [], blocks := [], regions := [], conds := [], ords := [] }
theorem ok_girderkit_SameFloat : Ok_girderkit_SameFloat nums Go.Proofs.Tryd.prog := fun q0 q1 w K h =>
 funD_callsX (fn := Go.Proofs.Tryd.f27) (an := an_girderkit_SameFloat) tok tsize mixed Go.Proofs.Tryd.func27 (by kernel_rfl) (Eq.mpr (by kernel_rfl) h)
def an_dyad_Sign : An := { loops := [], blocks := [], regions := [], conds := [], ords := [] }
theorem ok_dyad_Sign : Ok_dyad_Sign nums Go.Proofs.Tryd.prog := fun q0_0 q0_1 q0_1l q0_1c q0_2 w K h =>
 funD_callsX (fn := Go.Proofs.Tryd.f28) (an := an_dyad_Sign) tok tsize mixed Go.Proofs.Tryd.func28 (by kernel_rfl) (Eq.mpr (by kernel_rfl) h)
def an_dyad_Fits : An := { loops := [], blocks := [], regions := [], conds := [], ords := [] }
theorem ok_dyad_Fits : Ok_dyad_Fits nums Go.Proofs.Tryd.prog := fun q0_0 q0_1 q0_1l q0_1c q0_2 w K h =>
 funD_callsX (fn := Go.Proofs.Tryd.f29) (an := an_dyad_Fits) tok tsize mixed Go.Proofs.Tryd.func29 (by kernel_rfl) (Eq.mpr (by kernel_rfl) h)
def an_dyad_Right : An := { loops := [], blocks := [], regions := [], conds := [], ords := [] }
theorem ok_dyad_Right : Ok_dyad_Right nums Go.Proofs.Tryd.prog := fun q0_0 q0_1 q0_1l q0_1c q0_2 w K h =>
 funD_callsX (fn := Go.Proofs.Tryd.f30) (an := an_dyad_Right) tok tsize mixed Go.Proofs.Tryd.func30 (by kernel_rfl) (Eq.mpr (by kernel_rfl) h)
def an_dyad_Cmp : An := { loops := [], blocks := [], regions := [(3, [(22, (.one .bool))], [(22, 28)])], conds := [(61, [], [(62, 79)])], ords := [(11, (.q 0 (.q 2 (.e 1 (.e 3 (.q 4 (.q 5 .done))))))), (12, (.q 0 (.q 2 (.e 1 (.e 3 (.q 4 .done)))))), (15, (.q 0 (.q 2 (.e 1 (.e 3 (.q 4 (.q 5 .done)))))))] }
theorem ok_dyad_Cmp : Ok_dyad_Cmp nums Go.Proofs.Tryd.prog := fun q0_0 q0_1 q0_1l q0_1c q0_2 q1_0 q1_1 q1_1l q1_1c q1_2 w K h =>
 funD_callsX (fn := Go.Proofs.Tryd.f31) (an := an_dyad_Cmp) tok tsize mixed Go.Proofs.Tryd.func31 (by kernel_rfl) (Eq.mpr (by kernel_rfl) h)
def an_dyad_Norm : An := { loops := [], blocks := [], regions := [], conds := [], ords := [(1, (.q 0 (.q 2 (.q 3 (.e 1 (.e 4 (.q 5 (.q 6 (.e 7 (.q 8 .done))))))))))] }
theorem ok_dyad_Norm : Ok_dyad_Norm nums Go.Proofs.Tryd.prog := fun q0_0 q0_1 q0_1l q0_1c q0_2 w K h =>
 funD_callsX (fn := Go.Proofs.Tryd.f32) (an := an_dyad_Norm) tok tsize mixed Go.Proofs.Tryd.func32 (by kernel_rfl) (Eq.mpr (by kernel_rfl) h)
def an_girderkit_CopyDyad : An := { loops := [], blocks := [], regions := [], conds := [], ords := [] }
theorem ok_girderkit_CopyDyad : Ok_girderkit_CopyDyad nums Go.Proofs.Tryd.prog := fun q0_0 q0_1 q0_1l q0_1c q0_2 w K h =>
 funD_callsX (fn := Go.Proofs.Tryd.f33) (an := an_girderkit_CopyDyad) tok tsize mixed Go.Proofs.Tryd.func33 (by kernel_rfl) (Eq.mpr (by kernel_rfl) h)
def an_bits_Between : An := { loops := [], blocks := [], regions := [], conds := [], ords := [] }
theorem ok_bits_Between : Ok_bits_Between nums Go.Proofs.Tryd.prog := fun q0 q1 w K h =>
 funD_callsX (fn := Go.Proofs.Tryd.f34) (an := an_bits_Between) tok tsize mixed Go.Proofs.Tryd.func34 (by kernel_rfl) (Eq.mpr (by kernel_rfl) h)
def an_bits_Split : An := { loops := [], blocks := [], regions := [], conds := [], ords := [] }
theorem ok_bits_Split : Ok_bits_Split nums Go.Proofs.Tryd.prog := fun q0 w K h =>
 funD_callsX (fn := Go.Proofs.Tryd.f35) (an := an_bits_Split) tok tsize mixed Go.Proofs.Tryd.func35 (by kernel_rfl) (Eq.mpr (by kernel_rfl) h)
def an_girderkit_SameLimbs : An := { loops := [(0, [(5, (.one (.int .i64)))], [(4, 5), (11, 25)])], blocks := [(0, [], [(4, 5), (11, 25)])], regions := [], conds := [], ords := [(6, (.q 0 (.q 1 (.q 2 (.q 3 (.q 4 (.q 5 (.q 6 (.q 7 (.q 8 .done))))))))))] }
theorem ok_girderkit_SameLimbs : Ok_girderkit_SameLimbs nums Go.Proofs.Tryd.prog := fun q0 q0l q0c q1 q1l q1c w K h =>
 funD_callsX (fn := Go.Proofs.Tryd.f38) (an := an_girderkit_SameLimbs) tok tsize mixed Go.Proofs.Tryd.func38 (by kernel_rfl) (Eq.mpr (by kernel_rfl) h)
def an_dyad_made : An := { loops := [], blocks := [], regions := [], conds := [], ords := [] }
theorem ok_dyad_made : Ok_dyad_made nums Go.Proofs.Tryd.prog := fun q0 q1 w K h =>
 funD_callsX (fn := Go.Proofs.Tryd.f39) (an := an_dyad_made) tok tsize mixed Go.Proofs.Tryd.func39 (by kernel_rfl) (Eq.mpr (by kernel_rfl) h)
def an_bignum_NewInt : An := { loops := [], blocks := [], regions := [], conds := [], ords := [] }
theorem ok_bignum_NewInt : Ok_bignum_NewInt nums Go.Proofs.Tryd.prog := fun q0 w K h =>
 funD_callsX (fn := Go.Proofs.Tryd.f40) (an := an_bignum_NewInt) tok tsize mixed Go.Proofs.Tryd.func40 (by kernel_rfl) (Eq.mpr (by kernel_rfl) h)
def an_girderkit_LentLimbs : An := { loops := [(0, [(3, (.one .slice)), (4, (.one (.int .i64)))], [(3, 4), (12, 21)])], blocks := [(0, [(3, (.one .slice))], [(3, 4), (12, 21)])], regions := [], conds := [], ords := [] }
theorem ok_girderkit_LentLimbs : Ok_girderkit_LentLimbs nums Go.Proofs.Tryd.prog := fun q0 q0l q0c w K h =>
 funD_callsX (fn := Go.Proofs.Tryd.f43) (an := an_girderkit_LentLimbs) tok tsize mixed Go.Proofs.Tryd.func43 (by kernel_rfl) (Eq.mpr (by kernel_rfl) h)
def an_dyad_whole : An := { loops := [(0, [(9, (.one (.int .i64)))], [(4, 4), (9, 30)])], blocks := [(0, [], [(4, 4), (9, 30)])], regions := [], conds := [(32, [], [(33, 35)])], ords := [] }
theorem ok_dyad_whole : Ok_dyad_whole nums Go.Proofs.Tryd.prog := fun q0_0 q0_1 q0_1l q0_1c q0_2 w K h =>
 funD_callsX (fn := Go.Proofs.Tryd.f44) (an := an_dyad_whole) tok tsize mixed Go.Proofs.Tryd.func44 (by kernel_rfl) (Eq.mpr (by kernel_rfl) h)
def an_girderkit_KeptLimbs : An := { loops := [(0, [(6, (.one (.int .i64)))], [(4, 4), (6, 6), (17, 58)])], blocks := [(0, [], [(4, 4), (6, 6), (17, 58)])], regions := [], conds := [], ords := [(7, (.q 0 (.q 1 (.q 2 (.q 3 (.q 4 (.q 5 (.q 6 (.q 7 (.q 8 (.q 9 (.q 10 (.q 11 (.q 12 (.q 13 (.q 14 (.q 15 (.q 16 (.q 17 (.q 18 (.q 19 (.q 20 (.q 21 (.q 22 (.q 23 (.q 24 (.q 25 (.q 26 (.q 27 (.q 28 (.q 29 (.e 30 (.q 31 (.q 32 (.q 33 (.q 34 (.q 35 .done)))))))))))))))))))))))))))))))))))))] }
theorem ok_girderkit_KeptLimbs : Ok_girderkit_KeptLimbs nums Go.Proofs.Tryd.prog := fun q0 q0l q0c q1 q1l q1c w K h =>
 funD_callsX (fn := Go.Proofs.Tryd.f45) (an := an_girderkit_KeptLimbs) tok tsize mixed Go.Proofs.Tryd.func45 (by kernel_rfl) (Eq.mpr (by kernel_rfl) h)
def an_girderkit_OverLimbs : An := { loops := [(0, [(3, (.one (.int .i64)))], [(3, 3), (9, 20)])], blocks := [(0, [], [(3, 3), (9, 20)])], regions := [], conds := [], ords := [] }
theorem ok_girderkit_OverLimbs : Ok_girderkit_OverLimbs nums Go.Proofs.Tryd.prog := fun q0 q0l q0c w K h =>
 funD_callsX (fn := Go.Proofs.Tryd.f46) (an := an_girderkit_OverLimbs) tok tsize mixed Go.Proofs.Tryd.func46 (by kernel_rfl) (Eq.mpr (by kernel_rfl) h)
def an_dyad_both : An := { loops := [], blocks := [], regions := [], conds := [], ords := [] }
theorem ok_dyad_both : Ok_dyad_both nums Go.Proofs.Tryd.prog := fun q0_0 q0_1 q0_1l q0_1c q0_2 q1_0 q1_1 q1_1l q1_1c q1_2 w K h =>
 funD_callsX (fn := Go.Proofs.Tryd.f49) (an := an_dyad_both) tok tsize mixed Go.Proofs.Tryd.func49 (by kernel_rfl) (Eq.mpr (by kernel_rfl) h)
def an_p_bignum_Int_Sign : An := { loops := [], blocks := [], regions := [], conds := [], ords := [] }
theorem ok_p_bignum_Int_Sign : Ok_p_bignum_Int_Sign nums Go.Proofs.Tryd.prog := fun q0 w K h =>
 funD_callsX (fn := Go.Proofs.Tryd.f50) (an := an_p_bignum_Int_Sign) tok tsize mixed Go.Proofs.Tryd.func50 (by kernel_rfl) (Eq.mpr (by kernel_rfl) h)
def an_p_bignum_Int_Add : An := { loops := [], blocks := [], regions := [], conds := [], ords := [(1, (.q 0 (.q 1 (.q 2 (.q 3 (.q 4 (.q 5 (.q 6 (.q 7 (.q 8 (.q 9 (.q 10 (.q 11 (.q 12 (.q 13 (.q 14 (.q 15 (.q 16 (.e 17 (.q 18 (.q 19 (.e 20 (.q 21 .done)))))))))))))))))))))))] }
theorem ok_p_bignum_Int_Add : Ok_p_bignum_Int_Add nums Go.Proofs.Tryd.prog := fun q0 q1 q2 w K h =>
 funD_callsX (fn := Go.Proofs.Tryd.f51) (an := an_p_bignum_Int_Add) tok tsize mixed Go.Proofs.Tryd.func51 (by kernel_rfl) (Eq.mpr (by kernel_rfl) h)
def an_p_bignum_Int_Lsh : An := { loops := [], blocks := [], regions := [], conds := [], ords := [(1, (.q 0 (.q 1 (.q 2 (.q 3 (.q 4 (.q 5 (.q 6 (.q 7 (.q 8 (.q 9 (.e 10 (.e 11 (.q 12 .done))))))))))))))] }
theorem ok_p_bignum_Int_Lsh : Ok_p_bignum_Int_Lsh nums Go.Proofs.Tryd.prog := fun q0 q1 q2 w K h =>
 funD_callsX (fn := Go.Proofs.Tryd.f52) (an := an_p_bignum_Int_Lsh) tok tsize mixed Go.Proofs.Tryd.func52 (by kernel_rfl) (Eq.mpr (by kernel_rfl) h)
def an_p_bignum_Int_Mul : An := { loops := [], blocks := [], regions := [], conds := [], ords := [(1, (.q 0 (.q 1 (.q 2 (.q 3 (.q 4 (.q 5 (.q 6 (.q 7 (.q 8 (.q 9 (.q 10 (.q 11 (.q 12 (.q 13 (.q 14 (.q 15 (.q 16 (.q 17 (.e 18 (.e 19 (.q 20 .done))))))))))))))))))))))] }
theorem ok_p_bignum_Int_Mul : Ok_p_bignum_Int_Mul nums Go.Proofs.Tryd.prog := fun q0 q1 q2 w K h =>
 funD_callsX (fn := Go.Proofs.Tryd.f53) (an := an_p_bignum_Int_Mul) tok tsize mixed Go.Proofs.Tryd.func53 (by kernel_rfl) (Eq.mpr (by kernel_rfl) h)
def an_dyad_Neg : An := { loops := [], blocks := [], regions := [], conds := [], ords := [] }
theorem ok_dyad_Neg : Ok_dyad_Neg nums Go.Proofs.Tryd.prog := fun q0_0 q0_1 q0_1l q0_1c q0_2 w K h =>
 funD_callsX (fn := Go.Proofs.Tryd.f54) (an := an_dyad_Neg) tok tsize mixed Go.Proofs.Tryd.func54 (by kernel_rfl) (Eq.mpr (by kernel_rfl) h)
def an_p_bignum_Int_Abs : An := { loops := [], blocks := [], regions := [], conds := [], ords := [] }
theorem ok_p_bignum_Int_Abs : Ok_p_bignum_Int_Abs nums Go.Proofs.Tryd.prog := fun q0 q1 w K h =>
 funD_callsX (fn := Go.Proofs.Tryd.f55) (an := an_p_bignum_Int_Abs) tok tsize mixed Go.Proofs.Tryd.func55 (by kernel_rfl) (Eq.mpr (by kernel_rfl) h)
def an_dyad_top : An := { loops := [], blocks := [], regions := [], conds := [], ords := [(2, (.q 0 (.q 1 (.q 2 (.q 3 (.q 4 (.q 5 (.q 6 (.q 7 (.q 8 (.q 9 (.q 10 (.q 11 (.e 12 (.q 13 (.q 14 .done))))))))))))))))] }
theorem ok_dyad_top : Ok_dyad_top nums Go.Proofs.Tryd.prog := fun q0_0 q0_1 q0_1l q0_1c q0_2 w K h =>
 funD_callsX (fn := Go.Proofs.Tryd.f56) (an := an_dyad_top) tok tsize mixed Go.Proofs.Tryd.func56 (by kernel_rfl) (Eq.mpr (by kernel_rfl) h)
def an_p_bignum_Int_Uint64 : An := { loops := [], blocks := [], regions := [], conds := [(9, [(3, (.one (.int .u64)))], [(3, 3), (10, 16)]), (22, [(3, (.one (.int .u64)))], [(3, 3), (23, 32)])], ords := [] }
theorem ok_p_bignum_Int_Uint64 : Ok_p_bignum_Int_Uint64 nums Go.Proofs.Tryd.prog := fun q0 w K h =>
 funD_callsX (fn := Go.Proofs.Tryd.f57) (an := an_p_bignum_Int_Uint64) tok tsize mixed Go.Proofs.Tryd.func57 (by kernel_rfl) (Eq.mpr (by kernel_rfl) h)
def an_p_bignum_Int_Rsh : An := { loops := [], blocks := [], regions := [], conds := [], ords := [] }
theorem ok_p_bignum_Int_Rsh : Ok_p_bignum_Int_Rsh nums Go.Proofs.Tryd.prog := fun q0 q1 q2 w K h =>
 funD_callsX (fn := Go.Proofs.Tryd.f58) (an := an_p_bignum_Int_Rsh) tok tsize mixed Go.Proofs.Tryd.func58 (by kernel_rfl) (Eq.mpr (by kernel_rfl) h)
def an_p_bignum_Int_Sub : An := { loops := [], blocks := [], regions := [], conds := [], ords := [(1, (.q 0 (.q 1 (.q 2 (.q 3 (.q 4 (.q 5 (.q 6 (.q 7 (.q 8 (.q 9 (.q 10 (.q 11 (.q 12 (.q 13 (.q 14 (.q 15 (.q 16 (.q 17 (.e 18 (.q 19 (.q 20 (.e 21 (.q 22 .done))))))))))))))))))))))))] }
theorem ok_p_bignum_Int_Sub : Ok_p_bignum_Int_Sub nums Go.Proofs.Tryd.prog := fun q0 q1 q2 w K h =>
 funD_callsX (fn := Go.Proofs.Tryd.f59) (an := an_p_bignum_Int_Sub) tok tsize mixed Go.Proofs.Tryd.func59 (by kernel_rfl) (Eq.mpr (by kernel_rfl) h)
def an_p_bignum_Int_Cmp : An := { loops := [], blocks := [], regions := [], conds := [], ords := [(1, (.q 0 (.q 1 (.q 2 (.q 3 (.q 4 (.q 5 (.q 6 (.q 7 (.q 8 .done)))))))))), (5, (.q 0 (.q 1 (.q 2 (.q 3 (.q 4 (.q 5 (.q 6 (.q 7 (.e 8 (.q 9 .done)))))))))))] }
theorem ok_p_bignum_Int_Cmp : Ok_p_bignum_Int_Cmp nums Go.Proofs.Tryd.prog := fun q0 q1 w K h =>
 funD_callsX (fn := Go.Proofs.Tryd.f60) (an := an_p_bignum_Int_Cmp) tok tsize mixed Go.Proofs.Tryd.func60 (by kernel_rfl) (Eq.mpr (by kernel_rfl) h)
def an_dyad_away : An := { loops := [], blocks := [], regions := [], conds := [], ords := [] }
theorem ok_dyad_away : Ok_dyad_away nums Go.Proofs.Tryd.prog := fun q0 q1 q2 q3 w K h =>
 funD_callsX (fn := Go.Proofs.Tryd.f61) (an := an_dyad_away) tok tsize mixed Go.Proofs.Tryd.func61 (by kernel_rfl) (Eq.mpr (by kernel_rfl) h)
def an_dyad_float : An := { loops := [], blocks := [], regions := [], conds := [(18, [], [(10, 10), (19, 28)])], ords := [(5, (.q 0 (.q 1 (.q 3 (.q 4 (.e 2 (.q 5 (.q 6 .done))))))))] }
theorem ok_dyad_float : Ok_dyad_float nums Go.Proofs.Tryd.prog := fun q0 q1 q2 q3 w K h =>
 funD_callsX (fn := Go.Proofs.Tryd.f62) (an := an_dyad_float) tok tsize mixed Go.Proofs.Tryd.func62 (by kernel_rfl) (Eq.mpr (by kernel_rfl) h)
def an_girderkit_CopyLimbs : An := { loops := [], blocks := [], regions := [], conds := [], ords := [] }
theorem ok_girderkit_CopyLimbs : Ok_girderkit_CopyLimbs nums Go.Proofs.Tryd.prog := fun q0 q0l q0c w K h =>
 funD_callsX (fn := Go.Proofs.Tryd.f65) (an := an_girderkit_CopyLimbs) tok tsize mixed Go.Proofs.Tryd.func65 (by kernel_rfl) (Eq.mpr (by kernel_rfl) h)
def an_bits_Place : An := { loops := [], blocks := [], regions := [], conds := [(13, [(4, (.one (.int .i64)))], [(4, 4), (14, 15)])], ords := [] }
theorem ok_bits_Place : Ok_bits_Place nums Go.Proofs.Tryd.prog := fun q0 w K h =>
 funD_callsX (fn := Go.Proofs.Tryd.f66) (an := an_bits_Place) tok tsize mixed Go.Proofs.Tryd.func66 (by kernel_rfl) (Eq.mpr (by kernel_rfl) h)
def an_bits_Kind : An := { loops := [], blocks := [], regions := [], conds := [], ords := [] }
theorem ok_bits_Kind : Ok_bits_Kind nums Go.Proofs.Tryd.prog := fun q0 w K h =>
 funD_callsX (fn := Go.Proofs.Tryd.f67) (an := an_bits_Kind) tok tsize mixed Go.Proofs.Tryd.func67 (by kernel_rfl) (Eq.mpr (by kernel_rfl) h)
def an_math_Signbit : An := { loops := [], blocks := [], regions := [], conds := [], ords := [] }
theorem ok_math_Signbit : Ok_math_Signbit nums Go.Proofs.Tryd.prog := fun q0 w K h =>
 funD_callsX (fn := Go.Proofs.Tryd.f68) (an := an_math_Signbit) tok tsize mixed Go.Proofs.Tryd.func68 (by kernel_rfl) (Eq.mpr (by kernel_rfl) h)
def an_math_Frexp : An := { loops := [], blocks := [], regions := [], conds := [], ords := [] }
theorem ok_math_Frexp : Ok_math_Frexp nums Go.Proofs.Tryd.prog := fun q0 w K h =>
 funD_callsX (fn := Go.Proofs.Tryd.f69) (an := an_math_Frexp) tok tsize mixed Go.Proofs.Tryd.func69 (by kernel_rfl) (Eq.mpr (by kernel_rfl) h)
def an_math_Abs : An := { loops := [], blocks := [], regions := [], conds := [], ords := [] }
theorem ok_math_Abs : Ok_math_Abs nums Go.Proofs.Tryd.prog := fun q0 w K h =>
 funD_callsX (fn := Go.Proofs.Tryd.f70) (an := an_math_Abs) tok tsize mixed Go.Proofs.Tryd.func70 (by kernel_rfl) (Eq.mpr (by kernel_rfl) h)
def an_math_Ldexp : An := { loops := [], blocks := [], regions := [], conds := [], ords := [] }
theorem ok_math_Ldexp : Ok_math_Ldexp nums Go.Proofs.Tryd.prog := fun q0 q1 w K h =>
 funD_callsX (fn := Go.Proofs.Tryd.f71) (an := an_math_Ldexp) tok tsize mixed Go.Proofs.Tryd.func71 (by kernel_rfl) (Eq.mpr (by kernel_rfl) h)
def an_math_bits_TrailingZeros64 : An := { loops := [], blocks := [], regions := [], conds := [], ords := [] }
theorem ok_math_bits_TrailingZeros64 : Ok_math_bits_TrailingZeros64 nums Go.Proofs.Tryd.prog := fun q0 w K h =>
 funD_callsX (fn := Go.Proofs.Tryd.f72) (an := an_math_bits_TrailingZeros64) tok tsize mixed Go.Proofs.Tryd.func72 (by kernel_rfl) (Eq.mpr (by kernel_rfl) h)
def an_p_bignum_Int_TrailingZeroBits : An := { loops := [(0, [(3, (.one (.int .u64)))], [(3, 3), (10, 19)])], blocks := [(0, [(3, (.one (.int .u64)))], [(3, 3), (10, 19)])], regions := [], conds := [], ords := [] }
theorem ok_p_bignum_Int_TrailingZeroBits : Ok_p_bignum_Int_TrailingZeroBits nums Go.Proofs.Tryd.prog := fun q0 w K h =>
 funD_callsX (fn := Go.Proofs.Tryd.f77) (an := an_p_bignum_Int_TrailingZeroBits) tok tsize mixed Go.Proofs.Tryd.func77 (by kernel_rfl) (Eq.mpr (by kernel_rfl) h)
def an_p_bignum_Int_BitLen : An := { loops := [], blocks := [], regions := [], conds := [], ords := [] }
theorem ok_p_bignum_Int_BitLen : Ok_p_bignum_Int_BitLen nums Go.Proofs.Tryd.prog := fun q0 w K h =>
 funD_callsX (fn := Go.Proofs.Tryd.f78) (an := an_p_bignum_Int_BitLen) tok tsize mixed Go.Proofs.Tryd.func78 (by kernel_rfl) (Eq.mpr (by kernel_rfl) h)
def an_dyad_limbs : An := { loops := [(0, [(3, (.one .slice))], [(3, 3), (13, 26)])], blocks := [(0, [(3, (.one .slice))], [(3, 3), (13, 26)])], regions := [], conds := [], ords := [] }
theorem ok_dyad_limbs : Ok_dyad_limbs nums Go.Proofs.Tryd.prog := fun q0 w K h =>
 funD_callsX (fn := Go.Proofs.Tryd.f79) (an := an_dyad_limbs) tok tsize mixed Go.Proofs.Tryd.func79 (by kernel_rfl) (Eq.mpr (by kernel_rfl) h)
def an_p_bignum_Int_SetInt64 : An := { loops := [], blocks := [], regions := [], conds := [(9, [(5, (.one (.int .u64)))], [(5, 5), (10, 11)])], ords := [] }
theorem ok_p_bignum_Int_SetInt64 : Ok_p_bignum_Int_SetInt64 nums Go.Proofs.Tryd.prog := fun q0 q1 w K h =>
 funD_callsX (fn := Go.Proofs.Tryd.f80) (an := an_p_bignum_Int_SetInt64) tok tsize mixed Go.Proofs.Tryd.func80 (by kernel_rfl) (Eq.mpr (by kernel_rfl) h)
def an_girderkit_mark : An := { loops := [], blocks := [], regions := [], conds := [], ords := [] }
theorem ok_girderkit_mark : Ok_girderkit_mark nums Go.Proofs.Tryd.prog := fun q0 q1 w K h =>
 funD_callsX (fn := Go.Proofs.Tryd.f82) (an := an_girderkit_mark) tok tsize mixed Go.Proofs.Tryd.func82 (by kernel_rfl) (Eq.mpr (by kernel_rfl) h)
def an_p_bignum_Int_Or : An := { loops := [(0, [(10, (.one (.int .i64)))], [(10, 10), (29, 43)])], blocks := [(0, [], [(10, 10), (29, 43)])], regions := [], conds := [], ords := [(1, (.q 0 (.q 1 (.q 2 (.q 3 (.q 4 (.q 5 (.q 6 (.q 7 (.q 8 (.q 9 (.q 10 (.q 11 (.q 12 .done)))))))))))))), (6, (.q 0 (.q 1 (.q 2 (.q 3 (.q 4 (.q 5 (.q 6 (.q 7 (.q 8 (.q 9 (.e 10 .done))))))))))))] }
theorem ok_p_bignum_Int_Or : Ok_p_bignum_Int_Or nums Go.Proofs.Tryd.prog := fun q0 q1 q2 w K h =>
 funD_callsX (fn := Go.Proofs.Tryd.f83) (an := an_p_bignum_Int_Or) tok tsize mixed Go.Proofs.Tryd.func83 (by kernel_rfl) (Eq.mpr (by kernel_rfl) h)
def an_p_bignum_Int_SetUint64 : An := { loops := [], blocks := [], regions := [], conds := [], ords := [] }
theorem ok_p_bignum_Int_SetUint64 : Ok_p_bignum_Int_SetUint64 nums Go.Proofs.Tryd.prog := fun q0 q1 w K h =>
 funD_callsX (fn := Go.Proofs.Tryd.f84) (an := an_p_bignum_Int_SetUint64) tok tsize mixed Go.Proofs.Tryd.func84 (by kernel_rfl) (Eq.mpr (by kernel_rfl) h)
def an_p_bignum_Int_Neg : An := { loops := [], blocks := [], regions := [], conds := [], ords := [(1, (.q 0 (.q 1 (.q 2 (.q 3 (.q 4 (.q 5 (.q 6 (.q 7 (.q 8 (.q 9 (.e 10 (.e 11 (.q 12 .done))))))))))))))] }
theorem ok_p_bignum_Int_Neg : Ok_p_bignum_Int_Neg nums Go.Proofs.Tryd.prog := fun q0 q1 w K h =>
 funD_callsX (fn := Go.Proofs.Tryd.f85) (an := an_p_bignum_Int_Neg) tok tsize mixed Go.Proofs.Tryd.func85 (by kernel_rfl) (Eq.mpr (by kernel_rfl) h)
def an_p_bignum_Int_give : An := { loops := [], blocks := [], regions := [], conds := [], ords := [] }
theorem ok_p_bignum_Int_give : Ok_p_bignum_Int_give nums Go.Proofs.Tryd.prog := fun q0 q1 q2 q2l q2c w K h =>
 funD_callsX (fn := Go.Proofs.Tryd.f86) (an := an_p_bignum_Int_give) tok tsize mixed Go.Proofs.Tryd.func86 (by kernel_rfl) (Eq.mpr (by kernel_rfl) h)
def an_bignum_sum : An := { loops := [], blocks := [], regions := [], conds := [], ords := [] }
theorem ok_bignum_sum : Ok_bignum_sum nums Go.Proofs.Tryd.prog := fun q0 q1 q1l q1c q2 q3 q3l q3c w K h =>
 funD_callsX (fn := Go.Proofs.Tryd.f87) (an := an_bignum_sum) tok tsize mixed Go.Proofs.Tryd.func87 (by kernel_rfl) (Eq.mpr (by kernel_rfl) h)
def an_bignum_left : An := { loops := [(0, [(8, (.one (.int .i64)))], [(8, 9), (24, 58)])], blocks := [(0, [], [(8, 9), (24, 58)])], regions := [], conds := [], ords := [] }
theorem ok_bignum_left : Ok_bignum_left nums Go.Proofs.Tryd.prog := fun q0 q0l q0c q1 w K h =>
 funD_callsX (fn := Go.Proofs.Tryd.f88) (an := an_bignum_left) tok tsize mixed Go.Proofs.Tryd.func88 (by kernel_rfl) (Eq.mpr (by kernel_rfl) h)
def an_bignum_mul : An := { loops := [(0, [(6, (.one (.int .i64)))], [(6, 8), (23, 72)]), (2, [(7, (.one (.int .u64))), (8, (.one (.int .i64)))], [(7, 8), (29, 64)])], blocks := [(0, [], [(6, 8), (23, 72)]), (2, [(7, (.one (.int .u64)))], [(7, 8), (29, 64)])], regions := [(1, [(16, (.one .bool))], [(9, 16)])], conds := [], ords := [(11, (.q 0 (.q 1 (.q 2 (.q 3 (.q 4 (.q 5 (.q 6 (.q 7 (.q 8 (.q 9 (.q 10 (.q 11 (.q 12 (.q 13 (.q 14 (.q 15 (.q 16 (.q 17 (.q 18 (.q 19 (.q 20 (.q 21 .done)))))))))))))))))))))))] }
theorem ok_bignum_mul : Ok_bignum_mul nums Go.Proofs.Tryd.prog := fun q0 q0l q0c q1 q1l q1c w K h =>
 funD_callsX (fn := Go.Proofs.Tryd.f89) (an := an_bignum_mul) tok tsize mixed Go.Proofs.Tryd.func89 (by kernel_rfl) (Eq.mpr (by kernel_rfl) h)
def an_bignum_twin : An := { loops := [], blocks := [], regions := [], conds := [], ords := [] }
theorem ok_bignum_twin : Ok_bignum_twin nums Go.Proofs.Tryd.prog := fun q0 q0l q0c w K h =>
 funD_callsX (fn := Go.Proofs.Tryd.f90) (an := an_bignum_twin) tok tsize mixed Go.Proofs.Tryd.func90 (by kernel_rfl) (Eq.mpr (by kernel_rfl) h)
def an_bignum_add : An := { loops := [(0, [(6, (.one (.int .u64))), (7, (.one (.int .i64)))], [(6, 7), (19, 49)])], blocks := [(0, [(6, (.one (.int .u64)))], [(6, 7), (19, 49)])], regions := [], conds := [(12, [(0, (.one .slice)), (1, (.one .slice))], [(0, 1), (13, 14)]), (35, [(6, (.one (.int .u64)))], [(6, 6), (36, 42)])], ords := [] }
theorem ok_bignum_add : Ok_bignum_add nums Go.Proofs.Tryd.prog := fun q0 q0l q0c q1 q1l q1c w K h =>
 funD_callsX (fn := Go.Proofs.Tryd.f91) (an := an_bignum_add) tok tsize mixed Go.Proofs.Tryd.func91 (by kernel_rfl) (Eq.mpr (by kernel_rfl) h)
def an_bignum_right : An := { loops := [(0, [(8, (.one (.int .i64)))], [(8, 9), (24, 61)])], blocks := [(0, [], [(8, 9), (24, 61)])], regions := [], conds := [(43, [(9, (.one (.int .u64)))], [(9, 9), (44, 54)])], ords := [] }
theorem ok_bignum_right : Ok_bignum_right nums Go.Proofs.Tryd.prog := fun q0 q0l q0c q1 w K h =>
 funD_callsX (fn := Go.Proofs.Tryd.f92) (an := an_bignum_right) tok tsize mixed Go.Proofs.Tryd.func92 (by kernel_rfl) (Eq.mpr (by kernel_rfl) h)
def an_bignum_sub : An := { loops := [(0, [(6, (.one (.int .u64))), (7, (.one (.int .i64)))], [(6, 8), (12, 42)])], blocks := [(0, [], [(6, 8), (12, 42)])], regions := [], conds := [(28, [(8, (.one (.int .u64)))], [(8, 8), (29, 35)])], ords := [] }
theorem ok_bignum_sub : Ok_bignum_sub nums Go.Proofs.Tryd.prog := fun q0 q0l q0c q1 q1l q1c w K h =>
 funD_callsX (fn := Go.Proofs.Tryd.f93) (an := an_bignum_sub) tok tsize mixed Go.Proofs.Tryd.func93 (by kernel_rfl) (Eq.mpr (by kernel_rfl) h)
def an_bignum_cmp : An := { loops := [(0, [(5, (.one (.int .i64)))], [(4, 5), (19, 40)])], blocks := [(0, [], [(4, 5), (19, 40)])], regions := [], conds := [], ords := [(8, (.q 0 (.q 1 (.q 2 (.q 3 (.q 4 (.q 5 (.q 6 (.q 7 (.q 8 .done)))))))))), (9, (.q 0 (.q 1 (.q 2 (.q 3 (.q 4 (.q 5 (.q 6 (.q 7 (.q 8 .done))))))))))] }
theorem ok_bignum_cmp : Ok_bignum_cmp nums Go.Proofs.Tryd.prog := fun q0 q0l q0c q1 q1l q1c w K h =>
 funD_callsX (fn := Go.Proofs.Tryd.f94) (an := an_bignum_cmp) tok tsize mixed Go.Proofs.Tryd.func94 (by kernel_rfl) (Eq.mpr (by kernel_rfl) h)
def an_bits_Join : An := { loops := [], blocks := [], regions := [(2, [(9, (.one .bool))], [(9, 28)]), (4, [(29, (.one .bool))], [(29, 53)])], conds := [(61, [(5, (.one .f64))], [(5, 5), (62, 63)])], ords := [] }
theorem ok_bits_Join : Ok_bits_Join nums Go.Proofs.Tryd.prog := fun q0_0 q0_1 q0_2 w K h =>
 funD_callsX (fn := Go.Proofs.Tryd.f95) (an := an_bits_Join) tok tsize mixed Go.Proofs.Tryd.func95 (by kernel_rfl) (Eq.mpr (by kernel_rfl) h)
def an_bits_Next : An := { loops := [], blocks := [], regions := [], conds := [(17, [(5, (.one (.int .i64)))], [(5, 5), (18, 23)])], ords := [] }
theorem ok_bits_Next : Ok_bits_Next nums Go.Proofs.Tryd.prog := fun q0 q1 w K h =>
 funD_callsX (fn := Go.Proofs.Tryd.f96) (an := an_bits_Next) tok tsize mixed Go.Proofs.Tryd.func96 (by kernel_rfl) (Eq.mpr (by kernel_rfl) h)
def an_math_IsInf : An := { loops := [], blocks := [], regions := [], conds := [(6, [(0, (.one .f64))], [(0, 0), (7, 12)]), (10, [(0, (.one .f64))], [(0, 0), (11, 12)])], ords := [] }
theorem ok_math_IsInf : Ok_math_IsInf nums Go.Proofs.Tryd.prog := fun q0 q1 w K h =>
 funD_callsX (fn := Go.Proofs.Tryd.f97) (an := an_math_IsInf) tok tsize mixed Go.Proofs.Tryd.func97 (by kernel_rfl) (Eq.mpr (by kernel_rfl) h)
def an_math_frexp : An := { loops := [], blocks := [], regions := [], conds := [], ords := [] }
theorem ok_math_frexp : Ok_math_frexp nums Go.Proofs.Tryd.prog := fun q0 w K h =>
 funD_callsX (fn := Go.Proofs.Tryd.f99) (an := an_math_frexp) tok tsize mixed Go.Proofs.Tryd.func99 (by kernel_rfl) (Eq.mpr (by kernel_rfl) h)
def an_math_ldexp : An := { loops := [], blocks := [], regions := [(3, [(12, (.one .bool))], [(12, 18)])], conds := [(48, [(1, (.one (.int .i64))), (7, (.one .f64))], [(1, 1), (7, 7), (49, 50)])], ords := [] }
theorem ok_math_ldexp : Ok_math_ldexp nums Go.Proofs.Tryd.prog := fun q0 q1 w K h =>
 funD_callsX (fn := Go.Proofs.Tryd.f102) (an := an_math_ldexp) tok tsize mixed Go.Proofs.Tryd.func102 (by kernel_rfl) (Eq.mpr (by kernel_rfl) h)
def an_bignum_bit : An := { loops := [], blocks := [], regions := [], conds := [], ords := [] }
theorem ok_bignum_bit : Ok_bignum_bit nums Go.Proofs.Tryd.prog := fun q0 q0l q0c q1 w K h =>
 funD_callsX (fn := Go.Proofs.Tryd.f107) (an := an_bignum_bit) tok tsize mixed Go.Proofs.Tryd.func107 (by kernel_rfl) (Eq.mpr (by kernel_rfl) h)
def an_bignum_length : An := { loops := [(0, [(3, (.one (.int .i64))), (4, (.one (.int .u32)))], [(3, 4), (14, 19)])], blocks := [(0, [(3, (.one (.int .i64)))], [(3, 4), (14, 19)])], regions := [], conds := [], ords := [] }
theorem ok_bignum_length : Ok_bignum_length nums Go.Proofs.Tryd.prog := fun q0 q0l q0c w K h =>
 funD_callsX (fn := Go.Proofs.Tryd.f108) (an := an_bignum_length) tok tsize mixed Go.Proofs.Tryd.func108 (by kernel_rfl) (Eq.mpr (by kernel_rfl) h)
def an_p_bignum_Int_And : An := { loops := [(0, [(10, (.one (.int .i64)))], [(10, 10), (29, 43)])], blocks := [(0, [], [(10, 10), (29, 43)])], regions := [], conds := [], ords := [(1, (.q 0 (.q 1 (.q 2 (.q 3 (.q 4 (.q 5 (.q 6 (.q 7 (.q 8 (.q 9 (.q 10 (.q 11 (.q 12 .done)))))))))))))), (6, (.q 0 (.q 1 (.q 2 (.q 3 (.q 4 (.q 5 (.q 6 (.q 7 (.q 8 (.q 9 (.e 10 .done))))))))))))] }
theorem ok_p_bignum_Int_And : Ok_p_bignum_Int_And nums Go.Proofs.Tryd.prog := fun q0 q1 q2 w K h =>
 funD_callsX (fn := Go.Proofs.Tryd.f109) (an := an_p_bignum_Int_And) tok tsize mixed Go.Proofs.Tryd.func109 (by kernel_rfl) (Eq.mpr (by kernel_rfl) h)
def an_bignum_words : An := { loops := [], blocks := [], regions := [], conds := [], ords := [] }
theorem ok_bignum_words : Ok_bignum_words nums Go.Proofs.Tryd.prog := fun q0 w K h =>
 funD_callsX (fn := Go.Proofs.Tryd.f110) (an := an_bignum_words) tok tsize mixed Go.Proofs.Tryd.func110 (by kernel_rfl) (Eq.mpr (by kernel_rfl) h)
def an_p_bignum_Int_low : An := { loops := [(0, [(6, (.one (.int .u64))), (7, (.one (.int .i64)))], [(6, 7), (20, 39)])], blocks := [(0, [], [(6, 7), (20, 39)])], regions := [], conds := [(19, [], [(6, 7), (20, 39)])], ords := [] }
theorem ok_p_bignum_Int_low : Ok_p_bignum_Int_low nums Go.Proofs.Tryd.prog := fun q0 q1 w K h =>
 funD_callsX (fn := Go.Proofs.Tryd.f111) (an := an_p_bignum_Int_low) tok tsize mixed Go.Proofs.Tryd.func111 (by kernel_rfl) (Eq.mpr (by kernel_rfl) h)
def an_p_bignum_Int_of : An := { loops := [(0, [(5, (.one (.int .u64))), (6, (.one (.int .i64)))], [(5, 6), (20, 40)])], blocks := [(0, [], [(5, 6), (20, 40)])], regions := [(1, [(19, (.one .bool))], [(7, 19)])], conds := [], ords := [] }
theorem ok_p_bignum_Int_of : Ok_p_bignum_Int_of nums Go.Proofs.Tryd.prog := fun q0 q1 q1l q1c w K h =>
 funD_callsX (fn := Go.Proofs.Tryd.f112) (an := an_p_bignum_Int_of) tok tsize mixed Go.Proofs.Tryd.func112 (by kernel_rfl) (Eq.mpr (by kernel_rfl) h)
def an_bignum_trim : An := { loops := [(0, [(3, (.one (.int .i64)))], [(3, 3), (6, 17)])], blocks := [(0, [(3, (.one (.int .i64)))], [(3, 3), (6, 17)])], regions := [], conds := [], ords := [] }
theorem ok_bignum_trim : Ok_bignum_trim nums Go.Proofs.Tryd.prog := fun q0 q0l q0c w K h =>
 funD_callsX (fn := Go.Proofs.Tryd.f113) (an := an_bignum_trim) tok tsize mixed Go.Proofs.Tryd.func113 (by kernel_rfl) (Eq.mpr (by kernel_rfl) h)
def an_math_Copysign : An := { loops := [], blocks := [], regions := [], conds := [], ords := [] }
theorem ok_math_Copysign : Ok_math_Copysign nums Go.Proofs.Tryd.prog := fun q0 q1 w K h =>
 funD_callsX (fn := Go.Proofs.Tryd.f114) (an := an_math_Copysign) tok tsize mixed Go.Proofs.Tryd.func114 (by kernel_rfl) (Eq.mpr (by kernel_rfl) h)
def an_bits_At : An := { loops := [], blocks := [], regions := [], conds := [], ords := [] }
theorem ok_bits_At : Ok_bits_At nums Go.Proofs.Tryd.prog := fun q0 w K h =>
 funD_callsX (fn := Go.Proofs.Tryd.f115) (an := an_bits_At) tok tsize mixed Go.Proofs.Tryd.func115 (by kernel_rfl) (Eq.mpr (by kernel_rfl) h)
def an_math_IsNaN : An := { loops := [], blocks := [], regions := [], conds := [], ords := [] }
theorem ok_math_IsNaN : Ok_math_IsNaN nums Go.Proofs.Tryd.prog := fun q0 w K h =>
 funD_callsX (fn := Go.Proofs.Tryd.f116) (an := an_math_IsNaN) tok tsize mixed Go.Proofs.Tryd.func116 (by kernel_rfl) (Eq.mpr (by kernel_rfl) h)
def an_math_normalize : An := { loops := [], blocks := [], regions := [], conds := [], ords := [] }
theorem ok_math_normalize : Ok_math_normalize nums Go.Proofs.Tryd.prog := fun q0 w K h =>
 funD_callsX (fn := Go.Proofs.Tryd.f117) (an := an_math_normalize) tok tsize mixed Go.Proofs.Tryd.func117 (by kernel_rfl) (Eq.mpr (by kernel_rfl) h)
def an_math_Inf : An := { loops := [], blocks := [], regions := [], conds := [(5, [(3, (.one (.int .u64)))], [(3, 3)])], ords := [] }
theorem ok_math_Inf : Ok_math_Inf nums Go.Proofs.Tryd.prog := fun q0 w K h =>
 funD_callsX (fn := Go.Proofs.Tryd.f118) (an := an_math_Inf) tok tsize mixed Go.Proofs.Tryd.func118 (by kernel_rfl) (Eq.mpr (by kernel_rfl) h)
theorem ok_math_Float64bits : Ok_math_Float64bits nums Go.Proofs.Tryd.prog := by
  intro x w K h
  exact ext_ok (fn := Go.Proofs.Tryd.f63) (g := Extern.MathFloatBits.float64bits) Go.Proofs.Tryd.func63 (by kernel_rfl) (by kernel_rfl) (by kernel_rfl) (by kernel_rfl) rfl h

theorem ok_math_Float64frombits : Ok_math_Float64frombits nums Go.Proofs.Tryd.prog := by
  intro x w K h
  exact ext_ok (fn := Go.Proofs.Tryd.f100) (g := Extern.MathFloatBits.float64frombits) Go.Proofs.Tryd.func100 (by kernel_rfl) (by kernel_rfl) (by kernel_rfl) (by kernel_rfl) rfl h

theorem ok_math_bits_Len64 : Ok_math_bits_Len64 nums Go.Proofs.Tryd.prog := by
  intro x h0 h1 w K h
  exact callsX_of (fn := Go.Proofs.Tryd.f64) Go.Proofs.Tryd.func64 (by kernel_rfl) (by kernel_rfl) ((Go.Proofs.Tryd.bits_Len64 x w h0 h1).mono fun e w1 ⟨he, hw⟩ => ⟨_, he, by subst hw; exact h⟩)

theorem allOk : AllOk nums Go.Proofs.Tryd.prog := { girderlaw02_DyadBetween := ok_girderlaw02_DyadBetween, girderlaw02_awake := ok_girderlaw02_awake, dyad_Of := ok_dyad_Of, girderkit_SameDyad := ok_girderkit_SameDyad, dyad_Int := ok_dyad_Int, girderkit_LentDyad := ok_girderkit_LentDyad, girderkit_KeptDyad := ok_girderkit_KeptDyad, girderkit_OverDyad := ok_girderkit_OverDyad, dyad_Add := ok_dyad_Add, dyad_Mul := ok_dyad_Mul, dyad_Sub := ok_dyad_Sub, girderkit_Finite := ok_girderkit_Finite, dyad_Round := ok_dyad_Round, girderkit_SameFloat := ok_girderkit_SameFloat, dyad_Sign := ok_dyad_Sign, dyad_Fits := ok_dyad_Fits, dyad_Right := ok_dyad_Right, dyad_Cmp := ok_dyad_Cmp, dyad_Norm := ok_dyad_Norm, girderkit_CopyDyad := ok_girderkit_CopyDyad, bits_Between := ok_bits_Between, bits_Split := ok_bits_Split, girderkit_SameLimbs := ok_girderkit_SameLimbs, dyad_made := ok_dyad_made, bignum_NewInt := ok_bignum_NewInt, girderkit_LentLimbs := ok_girderkit_LentLimbs, dyad_whole := ok_dyad_whole, girderkit_KeptLimbs := ok_girderkit_KeptLimbs, girderkit_OverLimbs := ok_girderkit_OverLimbs, dyad_both := ok_dyad_both, p_bignum_Int_Sign := ok_p_bignum_Int_Sign, p_bignum_Int_Add := ok_p_bignum_Int_Add, p_bignum_Int_Lsh := ok_p_bignum_Int_Lsh, p_bignum_Int_Mul := ok_p_bignum_Int_Mul, dyad_Neg := ok_dyad_Neg, p_bignum_Int_Abs := ok_p_bignum_Int_Abs, dyad_top := ok_dyad_top, p_bignum_Int_Uint64 := ok_p_bignum_Int_Uint64, p_bignum_Int_Rsh := ok_p_bignum_Int_Rsh, p_bignum_Int_Sub := ok_p_bignum_Int_Sub, p_bignum_Int_Cmp := ok_p_bignum_Int_Cmp, dyad_away := ok_dyad_away, dyad_float := ok_dyad_float, girderkit_CopyLimbs := ok_girderkit_CopyLimbs, bits_Place := ok_bits_Place, bits_Kind := ok_bits_Kind, math_Signbit := ok_math_Signbit, math_Frexp := ok_math_Frexp, math_Abs := ok_math_Abs, math_Ldexp := ok_math_Ldexp, math_bits_TrailingZeros64 := ok_math_bits_TrailingZeros64, p_bignum_Int_TrailingZeroBits := ok_p_bignum_Int_TrailingZeroBits, p_bignum_Int_BitLen := ok_p_bignum_Int_BitLen, dyad_limbs := ok_dyad_limbs, p_bignum_Int_SetInt64 := ok_p_bignum_Int_SetInt64, girderkit_mark := ok_girderkit_mark, p_bignum_Int_Or := ok_p_bignum_Int_Or, p_bignum_Int_SetUint64 := ok_p_bignum_Int_SetUint64, p_bignum_Int_Neg := ok_p_bignum_Int_Neg, p_bignum_Int_give := ok_p_bignum_Int_give, bignum_sum := ok_bignum_sum, bignum_left := ok_bignum_left, bignum_mul := ok_bignum_mul, bignum_twin := ok_bignum_twin, bignum_add := ok_bignum_add, bignum_right := ok_bignum_right, bignum_sub := ok_bignum_sub, bignum_cmp := ok_bignum_cmp, bits_Join := ok_bits_Join, bits_Next := ok_bits_Next, math_IsInf := ok_math_IsInf, math_frexp := ok_math_frexp, math_ldexp := ok_math_ldexp, bignum_bit := ok_bignum_bit, bignum_length := ok_bignum_length, p_bignum_Int_And := ok_p_bignum_Int_And, bignum_words := ok_bignum_words, p_bignum_Int_low := ok_p_bignum_Int_low, p_bignum_Int_of := ok_p_bignum_Int_of, bignum_trim := ok_bignum_trim, math_Copysign := ok_math_Copysign, bits_At := ok_bits_At, math_IsNaN := ok_math_IsNaN, math_normalize := ok_math_normalize, math_Inf := ok_math_Inf, math_Float64bits := ok_math_Float64bits, math_Float64frombits := ok_math_Float64frombits, math_bits_Len64 := ok_math_bits_Len64 }

end Go.Eng
