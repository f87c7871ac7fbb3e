/-
  Each function of the program comes to what its proposition says: one equation a function, by the kernel. No condition.
-/
import Derived.Test.YtgbilchfljlbeaaGreatDoorLn
import Derived.Test.YtgbilchfljlbeaaGreatDoorRow2
import Derived.Test.YtgbilchfljlbeaaGreatDoorSh
import Derived.Test.YtgbilchfljlbeaaGreatDoorTb
set_option linter.all false
set_option maxRecDepth 100000
namespace Go.Eng
open Go Go.Proofs
theorem okX {S : Prop} {f : FuncId} {fn : Func} {an : An} {args : Array Value} {w : World} {K : Value → World → Prop} (hf : Tryz.prog.funcs[f]? = some fn) (h : S) (hn : (fn.name == "runtime.NumGoroutine") = false := by kernel_rfl) (e : S = funD Tryz.prog (look tbl) fn an args.toList w K := by kernel_rfl) : CallsX Tryz.prog f args w K :=
 funD_callsX tok tsize mixed hf hn (e ▸ h)
theorem ok_w14_RefineNever:Ok_w14_RefineNever nums Tryz.prog:=fun _ _ _ _ _ _ _ _ _ _ _ _ _ _ _ _ _ _ _ _ _ h=>okX (an:=⟨[],[],[(3,[(29,(.one .bool))],[(21,29)]),(8,[(63,(.one .bool))],[(57,63)]),(14,[(152,(.one .bool))],[(109,152)])],[],[]⟩) Tryz.func6 h
theorem ok_w14_awake:Ok_w14_awake nums Tryz.prog:=fun _ _ h=>okX (an:=⟨[],[],[],[],[]⟩) Tryz.func9 h
theorem ok_w14_great:Ok_w14_great nums Tryz.prog:=fun _ _ _ _ _ _ _ h=>okX (an:=⟨[],[],[],[],[]⟩) Tryz.func10 h
theorem ok_refine_Left:Ok_refine_Left nums Tryz.prog:=fun _ _ _ _ _ _ _ _ _ _ _ _ _ h=>okX (an:=⟨[(1,[(8,(.one .slice)),(35,(.one (.int .i64)))],[(8,8),(10,11),(13,15),(35,76)]),(3,[(11,(.one .slice)),(56,(.one (.int .i64)))],[(11,11),(13,13),(56,65)])],[(1,[(8,(.one .slice))],[(8,8),(10,11),(13,15),(35,76)]),(3,[(11,(.one .slice))],[(11,11),(13,13),(56,65)])],[],[],[]⟩) Tryz.func13 h
theorem ok_k_SameReals:Ok_k_SameReals nums Tryz.prog:=fun _ _ _ _ _ _ _ _ h=>okX (an:=⟨[(0,[(5,(.one (.int .i64)))],[(4,5),(11,26)])],[(0,[],[(4,5),(11,26)])],[],[],[(6,(.q 0 (.q 1 (.q 2 (.q 3 (.q 4 (.q 5 (.q 6 (.q 7 (.e 8 (.q 9 .done)))))))))))]⟩) Tryz.func15 h
theorem ok_refine_Step:Ok_refine_Step nums Tryz.prog:=fun _ _ _ _ _ _ _ _ _ _ _ _ _ _ _ _ _ _ _ _ h=>okX (an:=⟨[],[],[(1,[(25,(.one .bool))],[(15,25)])],[],[]⟩) Tryz.func19 h
theorem ok_refine_Until:Ok_refine_Until nums Tryz.prog:=fun _ _ _ _ _ _ _ _ _ _ _ _ _ _ _ _ _ _ h=>okX (an:=⟨[(1,[(11,(.one .slice)),(14,(.one .f64)),(71,(.one (.int .i64)))],[(8,11),(14,18),(71,106)])],[(1,[(11,(.one .slice))],[(8,11),(14,18),(71,106)])],[(1,[(19,(.one .bool))],[(19,25)]),(3,[(26,(.one .bool))],[(26,37)])],[],[]⟩) Tryz.func22 h
theorem ok_k_Pick:Ok_k_Pick nums Tryz.prog:=fun _ _ _ _ h=>okX (an:=⟨[],[],[],[(11,[(0,(.one (.int .i64)))],[(0,0),(12,14)])],[]⟩) Tryz.func24 h
theorem ok_solve_Solve:Ok_solve_Solve nums Tryz.prog:=fun _ _ _ _ _ _ _ _ _ _ _ _ h=>okX (an:=⟨[],[],[],[],[]⟩) Tryz.func25 h
theorem ok_w14_left:Ok_w14_left nums Tryz.prog:=fun _ _ _ _ _ _ _ _ _ _ _ _ _ _ _ _ _ _ _ _ _ _ _ h=>okX (an:=⟨[],[],[],[],[]⟩) Tryz.func26 h
theorem ok_k_LikeReals:Ok_k_LikeReals nums Tryz.prog:=fun _ _ _ _ _ _ _ _ h=>okX (an:=⟨[(0,[(5,(.one (.int .i64)))],[(4,5),(11,26)])],[(0,[],[(4,5),(11,26)])],[],[],[(6,(.q 0 (.q 1 (.q 2 (.q 3 (.q 4 (.q 5 (.q 6 (.q 7 (.e 8 (.q 9 .done)))))))))))]⟩) Tryz.func27 h
theorem ok_w14_two:Ok_w14_two nums Tryz.prog:=fun _ _ h=>okX (an:=⟨[],[],[],[],[]⟩) Tryz.func29 h
theorem ok_k_mark:Ok_k_mark nums Tryz.prog:=fun _ _ _ _ h=>okX (an:=⟨[],[],[],[],[]⟩) Tryz.func30 h
theorem ok_refine_fit:Ok_refine_fit nums Tryz.prog:=fun _ _ _ _ _ _ _ _ _ _ _ _ _ h=>okX (an:=⟨[],[],[],[],[]⟩) Tryz.func31 h
theorem ok_refine_finite:Ok_refine_finite nums Tryz.prog:=fun _ _ _ _ _ h=>okX (an:=⟨[(0,[(9,(.one (.int .i64)))],[(2,2),(4,4),(6,6),(9,24)]),(2,[(15,(.one (.int .i64)))],[(2,2),(6,6),(15,23)])],[(0,[],[(2,2),(4,4),(6,6),(9,24)]),(2,[],[(2,2),(6,6),(15,23)])],[],[],[]⟩) Tryz.func32 h
theorem ok_sums_DotExact:Ok_sums_DotExact nums Tryz.prog:=fun _ _ _ _ _ _ _ _ _ h=>okX (an:=⟨[],[],[],[],[]⟩) Tryz.func33 h
theorem ok_k_SameFloat:Ok_k_SameFloat nums Tryz.prog:=fun _ _ _ _ h=>okX (an:=⟨[],[],[],[],[]⟩) Tryz.func41 h
theorem ok_refine_fits:Ok_refine_fits nums Tryz.prog:=fun _ _ _ _ _ _ _ _ _ _ _ _ _ _ h=>okX (an:=⟨[],[],[],[],[]⟩) Tryz.func43 h
theorem ok_vector_Add:Ok_vector_Add nums Tryz.prog:=fun _ _ _ _ _ _ _ _ h=>okX (an:=⟨[],[],[],[],[]⟩) Tryz.func44 h
theorem ok_vector_Norm:Ok_vector_Norm nums Tryz.prog:=fun _ _ _ _ _ h=>okX (an:=⟨[(0,[(3,(.one .f64)),(8,(.one (.int .i64)))],[(3,3),(5,5),(8,16)])],[(0,[(3,(.one .f64))],[(3,3),(5,5),(8,16)])],[],[],[]⟩) Tryz.func48 h
theorem ok_solve_Forward:Ok_solve_Forward nums Tryz.prog:=fun _ _ _ _ _ _ _ _ _ _ _ _ h=>okX (an:=⟨[(0,[(21,(.one (.int .i64)))],[(8,9),(21,44)]),(2,[(25,(.one (.int .i64)))],[(9,9),(25,43)])],[(0,[],[(8,9),(21,44)]),(2,[],[(9,9),(25,43)])],[],[],[(11,(.q 0 (.q 1 (.q 2 (.q 3 (.q 4 (.q 5 (.q 6 (.q 8 (.q 9 (.q 10 (.q 11 (.e 7 (.q 12 (.q 13 (.q 14 (.e 15 .done)))))))))))))))))]⟩) Tryz.func50 h
theorem ok_solve_Back:Ok_solve_Back nums Tryz.prog:=fun _ _ _ _ _ _ _ _ _ _ _ _ h=>okX (an:=⟨[(0,[(28,(.one (.int .i64)))],[(8,9),(28,40)]),(2,[(43,(.one (.int .i64)))],[(10,12),(43,74)]),(4,[(12,(.one (.int .i64)))],[(12,12),(53,73)])],[(0,[],[(8,9),(28,40)]),(2,[],[(10,12),(43,74)]),(4,[],[(12,12),(53,73)])],[],[],[(19,(.q 0 (.q 1 (.q 2 (.q 3 (.q 4 (.q 5 (.q 6 (.q 8 (.q 9 (.q 10 (.q 11 (.e 7 (.q 12 (.q 13 (.q 14 (.e 15 .done)))))))))))))))))]⟩) Tryz.func51 h
theorem ok_k_Like:Ok_k_Like nums Tryz.prog:=fun _ _ _ _ h=>okX (an:=⟨[],[],[],[],[]⟩) Tryz.func52 h
theorem ok_matrix_Right:Ok_matrix_Right nums Tryz.prog:=fun _ _ _ _ _ _ _ h=>okX (an:=⟨[],[],[],[],[]⟩) Tryz.func53 h
theorem ok_sums_finite:Ok_sums_finite nums Tryz.prog:=fun _ _ _ _ _ h=>okX (an:=⟨[(0,[(7,(.one (.int .i64)))],[(2,2),(4,4),(7,17)])],[(0,[],[(2,2),(4,4),(7,17)])],[],[],[]⟩) Tryz.func54 h
theorem ok_sums_total:Ok_sums_total nums Tryz.prog:=fun _ _ _ _ h=>okX (an:=⟨[(0,[(9,(.one (.int .i64)))],[(6,6),(9,20)])],[(0,[],[(6,6),(9,20)])],[],[],[(5,(.q 0 (.q 1 (.q 2 (.e 3 (.e 4 (.q 5 (.q 6 (.q 7 (.e 8 .done))))))))))]⟩) Tryz.func55 h
theorem ok_sums_DotExact_1:Ok_sums_DotExact_1 nums Tryz.prog:=fun _ _ _ _ _ h=>okX (an:=⟨[],[],[],[],[]⟩) Tryz.func56 h
theorem ok_dyad_Of:Ok_dyad_Of nums Tryz.prog:=fun _ _ _ h=>okX (an:=⟨[],[],[],[],[]⟩) Tryz.func57 h
theorem ok_dyad_Mul:Ok_dyad_Mul nums Tryz.prog:=fun _ _ _ _ _ _ _ _ _ _ _ _ h=>okX (an:=⟨[],[],[],[],[(4,(.q 0 (.q 1 (.q 2 (.q 5 (.q 6 (.q 7 (.q 8 (.q 9 (.e 3 (.e 4 (.e 10 (.q 11 (.q 12 (.e 13 (.q 14 .done))))))))))))))))]⟩) Tryz.func58 h
theorem ok_dyad_Round:Ok_dyad_Round nums Tryz.prog:=fun _ _ _ _ _ _ _ _ h=>okX (an:=⟨[],[],[],[(34,[(8,(.one (.int .u64)))],[(8,8),(10,12),(35,79)]),(77,[(8,(.one (.int .u64)))],[(8,8),(78,79)])],[]⟩) Tryz.func59 h
theorem ok_lower_Right:Ok_lower_Right nums Tryz.prog:=fun _ _ _ _ _ _ _ _ _ h=>okX (an:=⟨[],[],[],[],[]⟩) Tryz.func76 h
theorem ok_vector_each:Ok_vector_each nums Tryz.prog:=fun _ _ _ _ _ _ _ _ _ h=>okX (an:=⟨[(0,[(22,(.one (.int .i64)))],[(10,10),(22,38)])],[(0,[],[(10,10),(22,38)])],[],[],[(8,(.q 0 (.q 1 (.q 2 (.q 3 (.q 4 (.q 5 (.q 6 (.q 7 (.q 8 (.q 9 (.q 10 (.e 11 (.q 12 (.e 13 .done)))))))))))))))]⟩) Tryz.func77 h
theorem ok_vector_Add_1:Ok_vector_Add_1 nums Tryz.prog:=fun _ _ _ _ h=>okX (an:=⟨[],[],[],[],[]⟩) Tryz.func78 h
theorem ok_round_Add:Ok_round_Add nums Tryz.prog:=fun _ _ _ _ _ h=>okX (an:=⟨[],[],[(5,[(22,(.one .bool))],[(22,39)])],[(58,[(8,(.one .f64)),(9,(.one .f64))],[(8,9),(59,60)])],[]⟩) Tryz.func82 h
theorem ok_math_Abs:Ok_math_Abs nums Tryz.prog:=fun _ _ _ h=>okX (an:=⟨[],[],[],[],[]⟩) Tryz.func83 h
theorem ok_solve_fits:Ok_solve_fits nums Tryz.prog:=fun _ _ _ _ _ _ _ _ _ _ h=>okX (an:=⟨[],[],[],[],[]⟩) Tryz.func85 h
theorem ok_slices_Clone___float64_float64:Ok_slices_Clone___float64_float64 nums Tryz.prog:=fun _ _ _ _ _ h=>okX (an:=⟨[],[],[],[],[]⟩) Tryz.func86 h
theorem ok_solve_below:Ok_solve_below nums Tryz.prog:=fun _ _ _ _ _ _ _ _ _ _ _ h=>okX (an:=⟨[],[],[],[],[]⟩) Tryz.func87 h
theorem ok_slices_Contains___float64_float64:Ok_slices_Contains___float64_float64 nums Tryz.prog:=fun _ _ _ _ _ _ h=>okX (an:=⟨[],[],[],[],[]⟩) Tryz.func88 h
theorem ok_matrix_fits:Ok_matrix_fits nums Tryz.prog:=fun _ _ _ h=>okX (an:=⟨[],[],[],[],[]⟩) Tryz.func89 h
theorem ok_math_IsNaN:Ok_math_IsNaN nums Tryz.prog:=fun _ _ _ h=>okX (an:=⟨[],[],[],[],[]⟩) Tryz.func90 h
theorem ok_math_IsInf:Ok_math_IsInf nums Tryz.prog:=fun _ _ _ _ h=>okX (an:=⟨[],[],[],[(6,[(0,(.one .f64))],[(0,0),(7,12)]),(10,[(0,(.one .f64))],[(0,0),(11,12)])],[]⟩) Tryz.func91 h
theorem ok_dyad_Int:Ok_dyad_Int nums Tryz.prog:=fun _ _ _ h=>okX (an:=⟨[],[],[],[],[]⟩) Tryz.func92 h
theorem ok_dyad_Add:Ok_dyad_Add nums Tryz.prog:=fun _ _ _ _ _ _ _ _ _ _ _ _ h=>okX (an:=⟨[],[],[(4,[(25,(.one .bool))],[(18,25)])],[(42,[(6,(.one .ptr)),(7,(.one .ptr))],[(6,7),(43,46)])],[(3,(.q 0 (.q 2 (.e 1 (.e 3 (.q 4 (.q 5 .done))))))),(5,(.q 0 (.q 1 (.q 2 (.q 4 (.q 5 (.q 6 (.q 7 (.q 8 (.e 3 (.e 9 (.q 10 (.q 11 (.e 12 (.q 13 .done))))))))))))))),(11,(.q 0 (.q 1 (.q 2 (.q 3 (.q 4 (.q 6 (.q 8 (.q 9 (.e 5 (.e 7 (.e 10 (.q 11 (.q 12 (.e 13 (.q 14 .done))))))))))))))))]⟩) Tryz.func93 h
theorem ok_bits_Split:Ok_bits_Split nums Tryz.prog:=fun _ _ _ h=>okX (an:=⟨[],[],[],[],[]⟩) Tryz.func94 h
theorem ok_dyad_both:Ok_dyad_both nums Tryz.prog:=fun _ _ _ _ _ _ _ _ _ _ _ _ h=>okX (an:=⟨[],[],[],[],[]⟩) Tryz.func95 h
theorem ok_dyad_whole:Ok_dyad_whole nums Tryz.prog:=fun _ _ _ _ _ _ _ h=>okX (an:=⟨[(0,[(9,(.one (.int .i64)))],[(4,4),(9,30)])],[(0,[],[(4,4),(9,30)])],[],[(32,[],[(33,35)])],[]⟩) Tryz.func96 h
theorem ok_dyad_made:Ok_dyad_made nums Tryz.prog:=fun _ _ _ _ h=>okX (an:=⟨[],[],[],[],[]⟩) Tryz.func97 h
theorem ok_bI_Mul:Ok_bI_Mul nums Tryz.prog:=fun _ _ _ _ _ h=>okX (an:=⟨[],[],[],[],[(1,(.q 0 (.q 1 (.q 2 (.q 3 (.q 4 (.q 5 (.q 6 (.q 7 (.q 8 (.q 9 (.q 10 (.q 11 (.q 12 (.q 13 (.q 14 (.q 15 (.q 16 (.q 17 (.e 18 (.e 19 (.q 20 .done))))))))))))))))))))))]⟩) Tryz.func98 h
theorem ok_dyad_Right:Ok_dyad_Right nums Tryz.prog:=fun _ _ _ _ _ _ _ h=>okX (an:=⟨[],[],[],[],[]⟩) Tryz.func99 h
theorem ok_bI_Abs:Ok_bI_Abs nums Tryz.prog:=fun _ _ _ _ h=>okX (an:=⟨[],[],[],[],[]⟩) Tryz.func100 h
theorem ok_dyad_top:Ok_dyad_top nums Tryz.prog:=fun _ _ _ _ _ _ _ h=>okX (an:=⟨[],[],[],[],[(2,(.q 0 (.q 1 (.q 2 (.q 3 (.q 4 (.q 5 (.q 6 (.q 7 (.q 8 (.q 9 (.q 10 (.q 11 (.e 12 (.q 13 (.q 14 .done))))))))))))))))]⟩) Tryz.func101 h
theorem ok_bI_Lsh:Ok_bI_Lsh nums Tryz.prog:=fun _ _ _ _ _ h=>okX (an:=⟨[],[],[],[],[(1,(.q 0 (.q 1 (.q 2 (.q 3 (.q 4 (.q 5 (.q 6 (.q 7 (.q 8 (.q 9 (.e 10 (.e 11 (.q 12 .done))))))))))))))]⟩) Tryz.func102 h
theorem ok_bI_Uint64:Ok_bI_Uint64 nums Tryz.prog:=fun _ _ _ h=>okX (an:=⟨[],[],[],[(9,[(3,(.one (.int .u64)))],[(3,3),(10,16)]),(22,[(3,(.one (.int .u64)))],[(3,3),(23,32)])],[]⟩) Tryz.func103 h
theorem ok_bI_Rsh:Ok_bI_Rsh nums Tryz.prog:=fun _ _ _ _ _ h=>okX (an:=⟨[],[],[],[],[]⟩) Tryz.func104 h
theorem ok_bI_Sub:Ok_bI_Sub nums Tryz.prog:=fun _ _ _ _ _ h=>okX (an:=⟨[],[],[],[],[(1,(.q 0 (.q 1 (.q 2 (.q 3 (.q 4 (.q 5 (.q 6 (.q 7 (.q 8 (.q 9 (.q 10 (.q 11 (.q 12 (.q 13 (.q 14 (.q 15 (.q 16 (.q 17 (.e 18 (.q 19 (.q 20 (.e 21 (.q 22 .done))))))))))))))))))))))))]⟩) Tryz.func105 h
theorem ok_bI_Cmp:Ok_bI_Cmp nums Tryz.prog:=fun _ _ _ _ h=>okX (an:=⟨[],[],[],[],[(1,(.q 0 (.q 1 (.q 2 (.q 3 (.q 4 (.q 5 (.q 6 (.q 7 (.q 8 .done)))))))))),(5,(.q 0 (.q 1 (.q 2 (.q 3 (.q 4 (.q 5 (.q 6 (.q 7 (.e 8 (.q 9 .done)))))))))))]⟩) Tryz.func106 h
theorem ok_bn_NewInt:Ok_bn_NewInt nums Tryz.prog:=fun _ _ _ h=>okX (an:=⟨[],[],[],[],[]⟩) Tryz.func107 h
theorem ok_bI_Sign:Ok_bI_Sign nums Tryz.prog:=fun _ _ _ h=>okX (an:=⟨[],[],[],[],[]⟩) Tryz.func108 h
theorem ok_dyad_away:Ok_dyad_away nums Tryz.prog:=fun _ _ _ _ _ _ h=>okX (an:=⟨[],[],[],[],[]⟩) Tryz.func109 h
theorem ok_dyad_float:Ok_dyad_float nums Tryz.prog:=fun _ _ _ _ _ _ h=>okX (an:=⟨[],[],[],[(18,[],[(10,10),(19,28)])],[(5,(.q 0 (.q 1 (.q 3 (.q 4 (.e 2 (.q 5 (.q 6 .done))))))))]⟩) Tryz.func110 h
theorem ok_vector_fit:Ok_vector_fit nums Tryz.prog:=fun _ _ _ _ _ _ _ _ h=>okX (an:=⟨[],[],[],[],[]⟩) Tryz.func121 h
theorem ok_round_way:Ok_round_way nums Tryz.prog:=fun _ _ _ h=>okX (an:=⟨[],[],[],[],[]⟩) Tryz.func125 h
theorem ok_round_finite:Ok_round_finite nums Tryz.prog:=fun _ _ _ _ _ h=>okX (an:=⟨[(0,[(7,(.one (.int .i64)))],[(2,2),(4,4),(7,17)])],[(0,[],[(2,2),(4,4),(7,17)])],[],[],[]⟩) Tryz.func126 h
theorem ok_math_Signbit:Ok_math_Signbit nums Tryz.prog:=fun _ _ _ h=>okX (an:=⟨[],[],[],[],[]⟩) Tryz.func127 h
theorem ok_round_none:Ok_round_none nums Tryz.prog:=fun _ _ _ h=>okX (an:=⟨[],[],[],[],[]⟩) Tryz.func128 h
theorem ok_round_settle:Ok_round_settle nums Tryz.prog:=fun _ _ _ _ _ h=>okX (an:=⟨[],[],[],[(8,[(2,(.one (.int .i8)))],[(2,2),(9,10)]),(10,[(2,(.one (.int .i8)))],[(2,2)])],[]⟩) Tryz.func129 h
theorem ok_round_sign:Ok_round_sign nums Tryz.prog:=fun _ _ _ h=>okX (an:=⟨[],[],[],[],[]⟩) Tryz.func130 h
theorem ok_slices_Index___float64_float64:Ok_slices_Index___float64_float64 nums Tryz.prog:=fun _ _ _ _ _ _ h=>okX (an:=⟨[(0,[(8,(.one (.int .i64)))],[(4,5),(8,18)])],[(0,[],[(4,5),(8,18)])],[],[],[]⟩) Tryz.func137 h
theorem ok_bI_Add:Ok_bI_Add nums Tryz.prog:=fun _ _ _ _ _ h=>okX (an:=⟨[],[],[],[],[(1,(.q 0 (.q 1 (.q 2 (.q 3 (.q 4 (.q 5 (.q 6 (.q 7 (.q 8 (.q 9 (.q 10 (.q 11 (.q 12 (.q 13 (.q 14 (.q 15 (.q 16 (.e 17 (.q 18 (.q 19 (.e 20 (.q 21 .done)))))))))))))))))))))))]⟩) Tryz.func138 h
theorem ok_bits_Kind:Ok_bits_Kind nums Tryz.prog:=fun _ _ _ h=>okX (an:=⟨[],[],[],[],[]⟩) Tryz.func139 h
theorem ok_math_Frexp:Ok_math_Frexp nums Tryz.prog:=fun _ _ _ h=>okX (an:=⟨[],[],[],[],[]⟩) Tryz.func140 h
theorem ok_math_Ldexp:Ok_math_Ldexp nums Tryz.prog:=fun _ _ _ _ h=>okX (an:=⟨[],[],[],[],[]⟩) Tryz.func141 h
theorem ok_math_bits_TrailingZeros64:Ok_math_bits_TrailingZeros64 nums Tryz.prog:=fun _ _ _ h=>okX (an:=⟨[],[],[],[],[]⟩) Tryz.func142 h
theorem ok_bI_Or:Ok_bI_Or nums Tryz.prog:=fun _ _ _ _ _ h=>okX (an:=⟨[(0,[(10,(.one (.int .i64)))],[(10,10),(29,43)])],[(0,[],[(10,10),(29,43)])],[],[],[(1,(.q 0 (.q 1 (.q 2 (.q 3 (.q 4 (.q 5 (.q 6 (.q 7 (.q 8 (.q 9 (.q 10 (.q 11 (.q 12 .done)))))))))))))),(6,(.q 0 (.q 1 (.q 2 (.q 3 (.q 4 (.q 5 (.q 6 (.q 7 (.q 8 (.q 9 (.e 10 .done))))))))))))]⟩) Tryz.func143 h
theorem ok_bI_SetUint64:Ok_bI_SetUint64 nums Tryz.prog:=fun _ _ _ _ h=>okX (an:=⟨[],[],[],[],[]⟩) Tryz.func144 h
theorem ok_bI_Neg:Ok_bI_Neg nums Tryz.prog:=fun _ _ _ _ h=>okX (an:=⟨[],[],[],[],[(1,(.q 0 (.q 1 (.q 2 (.q 3 (.q 4 (.q 5 (.q 6 (.q 7 (.q 8 (.q 9 (.e 10 (.e 11 (.q 12 .done))))))))))))))]⟩) Tryz.func145 h
theorem ok_bI_TrailingZeroBits:Ok_bI_TrailingZeroBits nums Tryz.prog:=fun _ _ _ h=>okX (an:=⟨[(0,[(3,(.one (.int .u64)))],[(3,3),(10,19)])],[(0,[(3,(.one (.int .u64)))],[(3,3),(10,19)])],[],[],[]⟩) Tryz.func146 h
theorem ok_bI_BitLen:Ok_bI_BitLen nums Tryz.prog:=fun _ _ _ h=>okX (an:=⟨[],[],[],[],[]⟩) Tryz.func147 h
theorem ok_dyad_limbs:Ok_dyad_limbs nums Tryz.prog:=fun _ _ _ h=>okX (an:=⟨[(0,[(3,(.one .slice))],[(3,3),(13,26)])],[(0,[(3,(.one .slice))],[(3,3),(13,26)])],[],[],[]⟩) Tryz.func148 h
theorem ok_bI_give:Ok_bI_give nums Tryz.prog:=fun _ _ _ _ _ _ _ h=>okX (an:=⟨[],[],[],[],[]⟩) Tryz.func149 h
theorem ok_bn_mul:Ok_bn_mul nums Tryz.prog:=fun _ _ _ _ _ _ _ _ h=>okX (an:=⟨[(0,[(6,(.one (.int .i64)))],[(6,8),(23,72)]),(2,[(7,(.one (.int .u64))),(8,(.one (.int .i64)))],[(7,8),(29,64)])],[(0,[],[(6,8),(23,72)]),(2,[(7,(.one (.int .u64)))],[(7,8),(29,64)])],[(1,[(16,(.one .bool))],[(9,16)])],[],[(11,(.q 0 (.q 1 (.q 2 (.q 3 (.q 4 (.q 5 (.q 6 (.q 7 (.q 8 (.q 9 (.q 10 (.q 11 (.q 12 (.q 13 (.q 14 (.q 15 (.q 16 (.q 17 (.q 18 (.q 19 (.q 20 (.q 21 .done)))))))))))))))))))))))]⟩) Tryz.func150 h
theorem ok_bn_twin:Ok_bn_twin nums Tryz.prog:=fun _ _ _ _ _ h=>okX (an:=⟨[],[],[],[],[]⟩) Tryz.func151 h
theorem ok_bn_left:Ok_bn_left nums Tryz.prog:=fun _ _ _ _ _ _ h=>okX (an:=⟨[(0,[(8,(.one (.int .i64)))],[(8,9),(24,58)])],[(0,[],[(8,9),(24,58)])],[],[],[]⟩) Tryz.func153 h
theorem ok_bn_add:Ok_bn_add nums Tryz.prog:=fun _ _ _ _ _ _ _ _ h=>okX (an:=⟨[(0,[(6,(.one (.int .u64))),(7,(.one (.int .i64)))],[(6,7),(19,49)])],[(0,[(6,(.one (.int .u64)))],[(6,7),(19,49)])],[],[(12,[(0,(.one .slice)),(1,(.one .slice))],[(0,1),(13,14)]),(35,[(6,(.one (.int .u64)))],[(6,6),(36,42)])],[]⟩) Tryz.func154 h
theorem ok_bn_right:Ok_bn_right nums Tryz.prog:=fun _ _ _ _ _ _ h=>okX (an:=⟨[(0,[(8,(.one (.int .i64)))],[(8,9),(24,61)])],[(0,[],[(8,9),(24,61)])],[],[(43,[(9,(.one (.int .u64)))],[(9,9),(44,54)])],[]⟩) Tryz.func155 h
theorem ok_bn_sub:Ok_bn_sub nums Tryz.prog:=fun _ _ _ _ _ _ _ _ h=>okX (an:=⟨[(0,[(6,(.one (.int .u64))),(7,(.one (.int .i64)))],[(6,8),(12,42)])],[(0,[],[(6,8),(12,42)])],[],[(28,[(8,(.one (.int .u64)))],[(8,8),(29,35)])],[]⟩) Tryz.func156 h
theorem ok_bn_sum:Ok_bn_sum nums Tryz.prog:=fun _ _ _ _ _ _ _ _ _ _ h=>okX (an:=⟨[],[],[],[],[]⟩) Tryz.func157 h
theorem ok_bn_cmp:Ok_bn_cmp nums Tryz.prog:=fun _ _ _ _ _ _ _ _ h=>okX (an:=⟨[(0,[(5,(.one (.int .i64)))],[(4,5),(19,40)])],[(0,[],[(4,5),(19,40)])],[],[],[(8,(.q 0 (.q 1 (.q 2 (.q 3 (.q 4 (.q 5 (.q 6 (.q 7 (.q 8 .done)))))))))),(9,(.q 0 (.q 1 (.q 2 (.q 3 (.q 4 (.q 5 (.q 6 (.q 7 (.q 8 .done))))))))))]⟩) Tryz.func158 h
theorem ok_bI_SetInt64:Ok_bI_SetInt64 nums Tryz.prog:=fun _ _ _ _ h=>okX (an:=⟨[],[],[],[(9,[(5,(.one (.int .u64)))],[(5,5),(10,11)])],[]⟩) Tryz.func159 h
theorem ok_bits_Join:Ok_bits_Join nums Tryz.prog:=fun _ _ _ _ _ h=>okX (an:=⟨[],[],[(2,[(9,(.one .bool))],[(9,28)]),(4,[(29,(.one .bool))],[(29,53)])],[(61,[(5,(.one .f64))],[(5,5),(62,63)])],[]⟩) Tryz.func160 h
theorem ok_bits_Next:Ok_bits_Next nums Tryz.prog:=fun _ _ _ _ h=>okX (an:=⟨[],[],[],[(17,[(5,(.one (.int .i64)))],[(5,5),(18,23)])],[]⟩) Tryz.func161 h
theorem ok_math_Copysign:Ok_math_Copysign nums Tryz.prog:=fun _ _ _ _ h=>okX (an:=⟨[],[],[],[],[]⟩) Tryz.func164 h
theorem ok_round_step:Ok_round_step nums Tryz.prog:=fun _ _ _ _ h=>okX (an:=⟨[],[(0,[(5,(.one (.int .u64)))],[(5,5),(8,23)])],[],[(10,[(5,(.one (.int .u64)))],[(5,5),(8,9),(13,23)]),(14,[(5,(.one (.int .u64)))],[(5,5),(15,16)]),(17,[(5,(.one (.int .u64)))],[(5,5),(8,9),(22,23)])],[]⟩) Tryz.func165 h
theorem ok_math_frexp:Ok_math_frexp nums Tryz.prog:=fun _ _ _ h=>okX (an:=⟨[],[],[],[],[]⟩) Tryz.func169 h
theorem ok_math_ldexp:Ok_math_ldexp nums Tryz.prog:=fun _ _ _ _ h=>okX (an:=⟨[],[],[(3,[(12,(.one .bool))],[(12,18)])],[(48,[(1,(.one (.int .i64))),(7,(.one .f64))],[(1,1),(7,7),(49,50)])],[]⟩) Tryz.func171 h
theorem ok_bI_low:Ok_bI_low nums Tryz.prog:=fun _ _ _ _ h=>okX (an:=⟨[(0,[(6,(.one (.int .u64))),(7,(.one (.int .i64)))],[(6,7),(20,39)])],[(0,[],[(6,7),(20,39)])],[],[(19,[],[(6,7),(20,39)])],[]⟩) Tryz.func172 h
theorem ok_bI_of:Ok_bI_of nums Tryz.prog:=fun _ _ _ _ _ _ h=>okX (an:=⟨[(0,[(5,(.one (.int .u64))),(6,(.one (.int .i64)))],[(5,6),(20,40)])],[(0,[],[(5,6),(20,40)])],[(1,[(19,(.one .bool))],[(7,19)])],[],[]⟩) Tryz.func173 h
theorem ok_bn_words:Ok_bn_words nums Tryz.prog:=fun _ _ _ h=>okX (an:=⟨[],[],[],[],[]⟩) Tryz.func174 h
theorem ok_bn_bit:Ok_bn_bit nums Tryz.prog:=fun _ _ _ _ _ _ h=>okX (an:=⟨[],[],[],[],[]⟩) Tryz.func175 h
theorem ok_bn_length:Ok_bn_length nums Tryz.prog:=fun _ _ _ _ _ h=>okX (an:=⟨[(0,[(3,(.one (.int .i64))),(4,(.one (.int .u32)))],[(3,4),(14,19)])],[(0,[(3,(.one (.int .i64)))],[(3,4),(14,19)])],[],[],[]⟩) Tryz.func176 h
theorem ok_bI_And:Ok_bI_And nums Tryz.prog:=fun _ _ _ _ _ h=>okX (an:=⟨[(0,[(10,(.one (.int .i64)))],[(10,10),(29,43)])],[(0,[],[(10,10),(29,43)])],[],[],[(1,(.q 0 (.q 1 (.q 2 (.q 3 (.q 4 (.q 5 (.q 6 (.q 7 (.q 8 (.q 9 (.q 10 (.q 11 (.q 12 .done)))))))))))))),(6,(.q 0 (.q 1 (.q 2 (.q 3 (.q 4 (.q 5 (.q 6 (.q 7 (.q 8 (.q 9 (.e 10 .done))))))))))))]⟩) Tryz.func177 h
theorem ok_bn_trim:Ok_bn_trim nums Tryz.prog:=fun _ _ _ _ _ h=>okX (an:=⟨[(0,[(3,(.one (.int .i64)))],[(3,3),(6,17)])],[(0,[(3,(.one (.int .i64)))],[(3,3),(6,17)])],[],[],[]⟩) Tryz.func178 h
theorem ok_bits_Place:Ok_bits_Place nums Tryz.prog:=fun _ _ _ h=>okX (an:=⟨[],[],[],[(13,[(4,(.one (.int .i64)))],[(4,4),(14,15)])],[]⟩) Tryz.func179 h
theorem ok_bits_At:Ok_bits_At nums Tryz.prog:=fun _ _ _ h=>okX (an:=⟨[],[],[],[],[]⟩) Tryz.func180 h
theorem ok_math_normalize:Ok_math_normalize nums Tryz.prog:=fun _ _ _ h=>okX (an:=⟨[],[],[],[],[]⟩) Tryz.func183 h
theorem ok_math_Inf:Ok_math_Inf nums Tryz.prog:=fun _ _ _ h=>okX (an:=⟨[],[],[],[(5,[(3,(.one (.int .u64)))],[(3,3)])],[]⟩) Tryz.func184 h
theorem ok_math_Float64bits:Ok_math_Float64bits nums Tryz.prog:=by
  intro x w K h
  exact ext_ok (fn:=Tryz.f75) (g:=Extern.MathFloatBits.float64bits) Tryz.func75 (by kernel_rfl) (by kernel_rfl) (by kernel_rfl) (by kernel_rfl) rfl h
theorem ok_math_Float64frombits:Ok_math_Float64frombits nums Tryz.prog:=by
  intro x w K h
  exact ext_ok (fn:=Tryz.f131) (g:=Extern.MathFloatBits.float64frombits) Tryz.func131 (by kernel_rfl) (by kernel_rfl) (by kernel_rfl) (by kernel_rfl) rfl h
theorem ok_math_bits_Len64:Ok_math_bits_Len64 nums Tryz.prog:=by
  intro x h0 h1 w K h
  exact callsX_of (fn:=Tryz.f152) Tryz.func152 (by kernel_rfl) (by kernel_rfl) ((Tryz.bits_Len64 x w h0 h1).mono fun e w1 ⟨he,hw⟩=>⟨_,he,by subst hw;exact h⟩)
theorem allOk:AllOk nums Tryz.prog:=⟨ok_w14_RefineNever,ok_w14_awake,ok_w14_great,ok_refine_Left,ok_k_SameReals,ok_refine_Step,ok_refine_Until,ok_k_Pick,ok_solve_Solve,ok_w14_left,ok_k_LikeReals,ok_w14_two,ok_k_mark,ok_refine_fit,ok_refine_finite,ok_sums_DotExact,ok_k_SameFloat,ok_refine_fits,ok_vector_Add,ok_vector_Norm,ok_solve_Forward,ok_solve_Back,ok_k_Like,ok_matrix_Right,ok_sums_finite,ok_sums_total,ok_sums_DotExact_1,ok_dyad_Of,ok_dyad_Mul,ok_dyad_Round,ok_lower_Right,ok_vector_each,ok_vector_Add_1,ok_round_Add,ok_math_Abs,ok_solve_fits,ok_slices_Clone___float64_float64,ok_solve_below,ok_slices_Contains___float64_float64,ok_matrix_fits,ok_math_IsNaN,ok_math_IsInf,ok_dyad_Int,ok_dyad_Add,ok_bits_Split,ok_dyad_both,ok_dyad_whole,ok_dyad_made,ok_bI_Mul,ok_dyad_Right,ok_bI_Abs,ok_dyad_top,ok_bI_Lsh,ok_bI_Uint64,ok_bI_Rsh,ok_bI_Sub,ok_bI_Cmp,ok_bn_NewInt,ok_bI_Sign,ok_dyad_away,ok_dyad_float,ok_vector_fit,ok_round_way,ok_round_finite,ok_math_Signbit,ok_round_none,ok_round_settle,ok_round_sign,ok_slices_Index___float64_float64,ok_bI_Add,ok_bits_Kind,ok_math_Frexp,ok_math_Ldexp,ok_math_bits_TrailingZeros64,ok_bI_Or,ok_bI_SetUint64,ok_bI_Neg,ok_bI_TrailingZeroBits,ok_bI_BitLen,ok_dyad_limbs,ok_bI_give,ok_bn_mul,ok_bn_twin,ok_bn_left,ok_bn_add,ok_bn_right,ok_bn_sub,ok_bn_sum,ok_bn_cmp,ok_bI_SetInt64,ok_bits_Join,ok_bits_Next,ok_math_Copysign,ok_round_step,ok_math_frexp,ok_math_ldexp,ok_bI_low,ok_bI_of,ok_bn_words,ok_bn_bit,ok_bn_length,ok_bI_And,ok_bn_trim,ok_bits_Place,ok_bits_At,ok_math_normalize,ok_math_Inf,ok_math_Float64bits,ok_math_Float64frombits,ok_math_bits_Len64⟩
end Go.Eng
