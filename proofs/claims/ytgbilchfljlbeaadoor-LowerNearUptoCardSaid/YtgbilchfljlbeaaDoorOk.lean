/-
  Each function of the program comes to what its proposition says: one equation a function, by the kernel. No condition.
-/
import Derived.Test.YtgbilchfljlbeaaDoorLn
import Derived.Test.YtgbilchfljlbeaaDoorRow2
import Derived.Test.YtgbilchfljlbeaaDoorSh
import Derived.Test.YtgbilchfljlbeaaDoorTb
set_option linter.all false
set_option maxRecDepth 100000
namespace Go.Eng
open Go Go.Proofs
theorem okX {S : Prop} {f : FuncId} {fn : Func} {an : An} {args : Array Value} {w : World} {K : Value → World → Prop} (hf : Tryd.prog.funcs[f]? = some fn) (h : S) (hn : (fn.name == "runtime.NumGoroutine") = false := by kernel_rfl) (e : S = funD Tryd.prog (look tbl) fn an args.toList w K := by kernel_rfl) : CallsX Tryd.prog f args w K :=
 funD_callsX tok tsize mixed hf hn (e ▸ h)
theorem ok_w12_LowerNear:Ok_w12_LowerNear nums Tryd.prog:=fun _ _ _ _ _ _ _ h=>okX (an:=⟨[(0,[(7,(.one (.int .i64)))],[(2,2),(7,8),(42,80)]),(2,[(8,(.one (.int .i64)))],[(2,2),(8,8),(62,80)])],[(0,[],[(2,2),(7,8),(42,80)]),(2,[],[(2,2),(8,8),(62,80)])],[(8,[(41,(.one .bool))],[(33,41)])],[],[(18,(.q 0 (.q 1 (.q 2 (.q 3 (.q 4 (.q 5 (.q 6 (.q 7 (.q 8 (.q 9 (.q 10 (.q 11 (.e 12 (.q 13 .done)))))))))))))))]⟩) Tryd.func4 h
theorem ok_dyad_Int:Ok_dyad_Int nums Tryd.prog:=fun _ _ _ h=>okX (an:=⟨[],[],[],[],[]⟩) Tryd.func8 h
theorem ok_math_Abs:Ok_math_Abs nums Tryd.prog:=fun _ _ _ h=>okX (an:=⟨[],[],[],[],[]⟩) Tryd.func9 h
theorem ok_math_Signbit:Ok_math_Signbit nums Tryd.prog:=fun _ _ _ h=>okX (an:=⟨[],[],[],[],[]⟩) Tryd.func11 h
theorem ok_math_IsInf:Ok_math_IsInf nums Tryd.prog:=fun _ _ _ _ h=>okX (an:=⟨[],[],[],[(6,[(0,(.one .f64))],[(0,0),(7,12)]),(10,[(0,(.one .f64))],[(0,0),(11,12)])],[]⟩) Tryd.func12 h
theorem ok_dyad_Of:Ok_dyad_Of nums Tryd.prog:=fun _ _ _ h=>okX (an:=⟨[],[],[],[],[]⟩) Tryd.func13 h
theorem ok_dyad_Add:Ok_dyad_Add nums Tryd.prog:=fun _ _ _ _ _ _ _ _ _ _ _ _ h=>okX (an:=⟨[],[],[(4,[(25,(.one .bool))],[(18,25)])],[(42,[(6,(.one .ptr)),(7,(.one .ptr))],[(6,7),(43,46)])],[(3,(.q 0 (.q 2 (.e 1 (.e 3 (.q 4 (.q 5 .done))))))),(5,(.q 0 (.q 1 (.q 2 (.q 4 (.q 5 (.q 6 (.q 7 (.q 8 (.e 3 (.e 9 (.q 10 (.q 11 (.e 12 (.q 13 .done))))))))))))))),(11,(.q 0 (.q 1 (.q 2 (.q 3 (.q 4 (.q 6 (.q 8 (.q 9 (.e 5 (.e 7 (.e 10 (.q 11 (.q 12 (.e 13 (.q 14 .done))))))))))))))))]⟩) Tryd.func14 h
theorem ok_dyad_Scale:Ok_dyad_Scale nums Tryd.prog:=fun _ _ _ _ _ _ _ _ h=>okX (an:=⟨[],[],[(5,[(17,(.one .bool))],[(17,23)])],[],[(7,(.q 0 (.q 2 (.q 3 (.q 4 (.q 5 (.e 1 (.e 6 (.q 7 (.q 8 (.e 9 (.q 10 .done))))))))))))]⟩) Tryd.func15 h
theorem ok_dyad_Cmp:Ok_dyad_Cmp nums Tryd.prog:=fun _ _ _ _ _ _ _ _ _ _ _ _ h=>okX (an:=⟨[],[],[(3,[(22,(.one .bool))],[(22,28)])],[(61,[],[(62,79)])],[(11,(.q 0 (.q 2 (.e 1 (.e 3 (.q 4 (.q 5 .done))))))),(12,(.q 0 (.q 2 (.e 1 (.e 3 (.q 4 .done)))))),(15,(.q 0 (.q 2 (.e 1 (.e 3 (.q 4 (.q 5 .done)))))))]⟩) Tryd.func16 h
theorem ok_w12_awake:Ok_w12_awake nums Tryd.prog:=fun _ _ h=>okX (an:=⟨[],[],[],[],[]⟩) Tryd.func17 h
theorem ok_w12_small:Ok_w12_small nums Tryd.prog:=fun _ _ _ _ _ _ _ h=>okX (an:=⟨[(0,[(5,(.one (.int .i64)))],[(5,5),(18,42)])],[(0,[],[(5,5),(18,42)])],[],[],[(7,(.q 0 (.q 1 (.q 2 (.q 3 (.q 4 (.q 5 (.q 6 (.q 7 (.q 8 (.q 9 (.q 10 (.q 11 (.q 12 (.q 13 (.q 14 (.q 15 (.q 16 (.q 17 (.q 18 (.e 19 .done)))))))))))))))))))))]⟩) Tryd.func18 h
theorem ok_lower_Factor:Ok_lower_Factor nums Tryd.prog:=fun _ _ _ _ _ _ _ h=>okX (an:=⟨[(0,[(3,(.one (.int .i64))),(4,(.one (.int .i64))),(27,(.one (.int .i64)))],[(3,4),(6,6),(27,35)]),(2,[(3,(.one (.int .i64))),(4,(.one (.int .i64))),(49,(.one (.int .i64)))],[(3,4),(11,19),(49,153)]),(4,[(13,(.one .f64)),(66,(.one (.int .i64)))],[(13,15),(66,88)]),(6,[(3,(.one (.int .i64))),(4,(.one (.int .i64))),(16,(.one (.int .i64)))],[(3,4),(16,19),(104,152)]),(8,[(18,(.one .f64)),(122,(.one (.int .i64)))],[(18,19),(122,136)])],[(0,[(3,(.one (.int .i64))),(4,(.one (.int .i64)))],[(3,4),(6,6),(27,35)]),(2,[(3,(.one (.int .i64))),(4,(.one (.int .i64)))],[(3,4),(11,19),(49,153)]),(4,[(13,(.one .f64))],[(13,15),(66,88)]),(6,[(3,(.one (.int .i64))),(4,(.one (.int .i64)))],[(3,4),(16,19),(104,152)]),(8,[(18,(.one .f64))],[(18,19),(122,136)])],[(10,[(8,(.one .slice)),(9,(.one .slice))],[(8,9),(38,45)]),(23,[(96,(.one .bool))],[(89,96)])],[],[(10,(.q 0 (.q 1 (.q 2 (.q 3 (.q 4 (.q 6 (.alt (.e 5 (.q 8 (.e 7 (.q 9 .done)))) (.e 7 (.e 5 (.q 8 (.q 9 .done)))))))))))),(34,(.q 0 (.q 1 (.q 2 (.q 3 (.q 4 (.q 5 (.q 6 (.q 7 (.q 8 (.q 9 (.q 10 (.q 11 .done)))))))))))))]⟩) Tryd.func19 h
theorem ok_lower_Right:Ok_lower_Right nums Tryd.prog:=fun _ _ _ _ _ _ _ _ _ h=>okX (an:=⟨[],[],[],[],[]⟩) Tryd.func20 h
theorem ok_w12_near:Ok_w12_near nums Tryd.prog:=fun _ _ _ _ _ _ _ _ _ _ _ _ h=>okX (an:=⟨[(0,[(13,(.one (.int .i64)))],[(13,17),(36,80)])],[(0,[],[(13,17),(36,80)]),(1,[],[(14,17),(41,80)])],[(2,[(10,(.one .ptr)),(11,(.one .ptr)),(12,(.one .ptr))],[(10,12),(27,35)]),(6,[(14,(.one .ptr)),(15,(.one (.int .i64)))],[(14,15),(41,57)]),(20,[(162,(.one .bool))],[(129,162)])],[(68,[],[(16,17),(69,80)])],[(2,(.q 0 (.q 1 (.q 3 (.q 4 (.alt (.e 2 (.alt (.e 5 (.e 6 (.q 7 (.q 9 (.q 10 (.e 8 (.q 11 .done))))))) (.e 6 (.q 7 (.q 9 (.alt (.e 5 (.q 10 (.e 8 (.q 11 .done)))) (.e 8 (.e 5 (.q 10 (.q 11 .done)))))))))) (.alt (.e 5 (.alt (.e 2 (.e 6 (.q 7 (.q 9 (.q 10 (.e 8 (.q 11 .done))))))) (.e 6 (.q 7 (.alt (.e 2 (.q 9 (.q 10 (.e 8 (.q 11 .done))))) (.e 8 (.e 2 (.q 9 (.q 10 (.q 11 .done)))))))))) (.e 6 (.q 7 (.alt (.e 2 (.q 9 (.alt (.e 5 (.q 10 (.e 8 (.q 11 .done)))) (.e 8 (.e 5 (.q 10 (.q 11 .done))))))) (.alt (.e 5 (.alt (.e 2 (.q 9 (.q 10 (.e 8 (.q 11 .done))))) (.e 8 (.e 2 (.q 9 (.q 10 (.q 11 .done))))))) (.e 8 (.alt (.e 2 (.q 9 (.e 5 (.q 10 (.q 11 .done))))) (.e 5 (.e 2 (.q 9 (.q 10 (.q 11 .done)))))))))))))))))),(6,(.q 0 (.q 1 (.q 2 (.q 4 (.q 5 (.q 6 (.q 7 (.q 8 (.q 9 (.q 10 (.q 11 (.alt (.e 3 (.alt (.e 12 (.alt (.e 13 (.q 14 (.q 15 (.q 16 (.e 17 (.e 18 (.q 19 .done))))))) (.e 17 (.e 13 (.q 14 (.q 15 (.q 16 (.e 18 (.q 19 .done))))))))) (.e 17 (.e 12 (.e 13 (.q 14 (.q 15 (.q 16 (.e 18 (.q 19 .done)))))))))) (.e 17 (.e 3 (.e 12 (.e 13 (.q 14 (.q 15 (.q 16 (.e 18 (.q 19 .done)))))))))))))))))))))),(25,(.q 0 (.q 1 (.q 2 (.e 3 (.e 4 (.q 5 (.q 6 (.q 7 (.e 8 (.q 9 .done))))))))))),(26,(.q 0 (.q 1 (.q 2 (.q 3 (.q 4 (.e 5 (.q 6 (.q 7 (.q 8 (.q 9 (.q 10 .done))))))))))))]⟩) Tryd.func21 h
theorem ok_k_SameReals:Ok_k_SameReals nums Tryd.prog:=fun _ _ _ _ _ _ _ _ h=>okX (an:=⟨[(0,[(5,(.one (.int .i64)))],[(4,5),(11,26)])],[(0,[],[(4,5),(11,26)])],[],[],[(6,(.q 0 (.q 1 (.q 2 (.q 3 (.q 4 (.q 5 (.q 6 (.q 7 (.e 8 (.q 9 .done)))))))))))]⟩) Tryd.func24 h
theorem ok_vector_Same:Ok_vector_Same nums Tryd.prog:=fun _ _ _ _ _ _ _ _ h=>okX (an:=⟨[(0,[(14,(.one (.int .i64)))],[(4,6),(14,39)])],[(0,[],[(4,6),(14,39)])],[],[],[(6,(.q 0 (.q 2 (.q 3 (.q 4 (.q 5 (.e 1 (.e 6 (.q 7 (.q 8 (.q 9 (.e 10 (.q 11 (.q 12 (.q 13 (.q 14 (.q 15 (.e 16 (.q 17 (.q 18 (.q 19 .done)))))))))))))))))))))]⟩) Tryd.func25 h
theorem ok_math_Copysign:Ok_math_Copysign nums Tryd.prog:=fun _ _ _ _ h=>okX (an:=⟨[],[],[],[],[]⟩) Tryd.func26 h
theorem ok_dyad_made:Ok_dyad_made nums Tryd.prog:=fun _ _ _ _ h=>okX (an:=⟨[],[],[],[],[]⟩) Tryd.func28 h
theorem ok_bn_NewInt:Ok_bn_NewInt nums Tryd.prog:=fun _ _ _ h=>okX (an:=⟨[],[],[],[],[]⟩) Tryd.func29 h
theorem ok_bits_Split:Ok_bits_Split nums Tryd.prog:=fun _ _ _ h=>okX (an:=⟨[],[],[],[],[]⟩) Tryd.func32 h
theorem ok_dyad_both:Ok_dyad_both nums Tryd.prog:=fun _ _ _ _ _ _ _ _ _ _ _ _ h=>okX (an:=⟨[],[],[],[],[]⟩) Tryd.func33 h
theorem ok_dyad_whole:Ok_dyad_whole nums Tryd.prog:=fun _ _ _ _ _ _ _ h=>okX (an:=⟨[(0,[(9,(.one (.int .i64)))],[(4,4),(9,30)])],[(0,[],[(4,4),(9,30)])],[],[(32,[],[(33,35)])],[]⟩) Tryd.func34 h
theorem ok_bI_Sign:Ok_bI_Sign nums Tryd.prog:=fun _ _ _ h=>okX (an:=⟨[],[],[],[],[]⟩) Tryd.func35 h
theorem ok_bI_Add:Ok_bI_Add nums Tryd.prog:=fun _ _ _ _ _ h=>okX (an:=⟨[],[],[],[],[(1,(.q 0 (.q 1 (.q 2 (.q 3 (.q 4 (.q 5 (.q 6 (.q 7 (.q 8 (.q 9 (.q 10 (.q 11 (.q 12 (.q 13 (.q 14 (.q 15 (.q 16 (.e 17 (.q 18 (.q 19 (.e 20 (.q 21 .done)))))))))))))))))))))))]⟩) Tryd.func36 h
theorem ok_bI_Lsh:Ok_bI_Lsh nums Tryd.prog:=fun _ _ _ _ _ h=>okX (an:=⟨[],[],[],[],[(1,(.q 0 (.q 1 (.q 2 (.q 3 (.q 4 (.q 5 (.q 6 (.q 7 (.q 8 (.q 9 (.e 10 (.e 11 (.q 12 .done))))))))))))))]⟩) Tryd.func37 h
theorem ok_dyad_Right:Ok_dyad_Right nums Tryd.prog:=fun _ _ _ _ _ _ _ h=>okX (an:=⟨[],[],[],[],[]⟩) Tryd.func38 h
theorem ok_dyad_Sign:Ok_dyad_Sign nums Tryd.prog:=fun _ _ _ _ _ _ _ h=>okX (an:=⟨[],[],[],[],[]⟩) Tryd.func39 h
theorem ok_dyad_top:Ok_dyad_top nums Tryd.prog:=fun _ _ _ _ _ _ _ h=>okX (an:=⟨[],[],[],[],[(2,(.q 0 (.q 1 (.q 2 (.q 3 (.q 4 (.q 5 (.q 6 (.q 7 (.q 8 (.q 9 (.q 10 (.q 11 (.e 12 (.q 13 (.q 14 .done))))))))))))))))]⟩) Tryd.func40 h
theorem ok_bI_Cmp:Ok_bI_Cmp nums Tryd.prog:=fun _ _ _ _ h=>okX (an:=⟨[],[],[],[],[(1,(.q 0 (.q 1 (.q 2 (.q 3 (.q 4 (.q 5 (.q 6 (.q 7 (.q 8 .done)))))))))),(5,(.q 0 (.q 1 (.q 2 (.q 3 (.q 4 (.q 5 (.q 6 (.q 7 (.e 8 (.q 9 .done)))))))))))]⟩) Tryd.func41 h
theorem ok_lower_Times:Ok_lower_Times nums Tryd.prog:=fun _ _ _ _ _ _ _ _ _ h=>okX (an:=⟨[(0,[(27,(.one (.int .i64)))],[(7,13),(27,90)]),(2,[(38,(.one (.int .i64)))],[(9,13),(38,89)]),(4,[(11,(.one .f64)),(49,(.one (.int .i64)))],[(11,13),(49,70)])],[(0,[],[(7,13),(27,90)]),(2,[],[(9,13),(38,89)]),(4,[(11,(.one .f64))],[(11,13),(49,70)])],[],[],[(17,(.q 0 (.q 1 (.q 2 (.q 3 (.q 4 (.q 5 (.q 6 (.q 7 (.q 8 (.q 9 (.q 10 .done)))))))))))),(20,(.q 0 (.q 1 (.q 2 (.q 3 (.q 4 (.q 5 (.q 6 (.q 7 (.q 8 (.q 9 (.q 10 (.q 11 (.q 12 (.q 13 (.q 14 (.q 15 (.q 16 (.e 17 (.q 18 (.e 19 .done)))))))))))))))))))))]⟩) Tryd.func42 h
theorem ok_k_SameFactor:Ok_k_SameFactor nums Tryd.prog:=fun _ _ _ _ _ _ _ _ _ _ _ _ _ _ _ _ h=>okX (an:=⟨[],[],[],[],[]⟩) Tryd.func43 h
theorem ok_k_SameMatrix:Ok_k_SameMatrix nums Tryd.prog:=fun _ _ _ _ _ _ _ _ _ _ _ _ h=>okX (an:=⟨[],[],[],[],[]⟩) Tryd.func44 h
theorem ok_w12_mirrored:Ok_w12_mirrored nums Tryd.prog:=fun _ _ _ _ _ _ _ h=>okX (an:=⟨[(0,[(3,(.one (.int .i64)))],[(3,3),(7,27)]),(2,[(5,(.one (.int .i64)))],[(5,6),(35,78)]),(4,[(6,(.one (.int .i64)))],[(6,6),(40,78)])],[(0,[(3,(.one (.int .i64)))],[(3,3),(7,27)]),(2,[],[(5,6),(35,78)]),(4,[],[(6,6),(40,78)])],[],[],[(11,(.q 0 (.q 1 (.q 2 (.q 3 (.q 4 (.q 5 (.q 6 (.q 7 (.q 8 (.q 9 (.q 10 (.q 11 (.q 12 (.q 13 (.q 14 (.q 15 (.q 16 (.e 17 .done))))))))))))))))))),(12,(.q 0 (.q 1 (.q 2 (.q 3 (.q 4 (.q 5 (.q 6 (.q 7 (.q 8 (.q 9 (.q 10 (.q 11 (.q 12 (.q 13 (.q 14 (.q 15 (.q 16 (.e 17 .done)))))))))))))))))))]⟩) Tryd.func45 h
theorem ok_matrix_Symmetric:Ok_matrix_Symmetric nums Tryd.prog:=fun _ _ _ _ _ _ _ h=>okX (an:=⟨[],[],[],[],[]⟩) Tryd.func46 h
theorem ok_lower_finite:Ok_lower_finite nums Tryd.prog:=fun _ _ _ h=>okX (an:=⟨[],[],[],[],[]⟩) Tryd.func47 h
theorem ok_lower_row:Ok_lower_row nums Tryd.prog:=fun _ _ _ _ _ _ h=>okX (an:=⟨[],[],[],[],[]⟩) Tryd.func48 h
theorem ok_w12_product:Ok_w12_product nums Tryd.prog:=fun _ _ _ _ _ h=>okX (an:=⟨[],[],[(4,[(38,(.one .bool))],[(29,38)])],[],[]⟩) Tryd.func49 h
theorem ok_w12_at:Ok_w12_at nums Tryd.prog:=fun _ _ _ _ _ _ _ _ _ _ _ h=>okX (an:=⟨[],[],[],[],[]⟩) Tryd.func50 h
theorem ok_p_w12_sums_adds:Ok_p_w12_sums_adds nums Tryd.prog:=fun _ _ _ _ _ _ _ _ _ _ h=>okX (an:=⟨[],[],[(1,[(14,(.one .bool))],[(10,14)])],[(14,[(2,(.one (.int .i64)))],[(2,2),(8,9),(15,31)]),(26,[(2,(.one (.int .i64)))],[(2,2),(27,31)]),(33,[(2,(.one (.int .i64)))],[(2,2),(34,42)])],[(7,(.q 0 (.q 1 (.q 2 (.q 3 (.q 4 (.e 5 (.q 6 (.q 7 (.q 8 (.e 9 (.q 10 .done))))))))))))]⟩) Tryd.func51 h
theorem ok_dyad_Mul:Ok_dyad_Mul nums Tryd.prog:=fun _ _ _ _ _ _ _ _ _ _ _ _ h=>okX (an:=⟨[],[],[],[],[(4,(.q 0 (.q 1 (.q 2 (.q 5 (.q 6 (.q 7 (.q 8 (.q 9 (.e 3 (.e 4 (.e 10 (.q 11 (.q 12 (.e 13 (.q 14 .done))))))))))))))))]⟩) Tryd.func52 h
theorem ok_k_SameFloat:Ok_k_SameFloat nums Tryd.prog:=fun _ _ _ _ h=>okX (an:=⟨[],[],[],[],[]⟩) Tryd.func56 h
theorem ok_math_IsNaN:Ok_math_IsNaN nums Tryd.prog:=fun _ _ _ h=>okX (an:=⟨[],[],[],[],[]⟩) Tryd.func57 h
theorem ok_bI_TrailingZeroBits:Ok_bI_TrailingZeroBits nums Tryd.prog:=fun _ _ _ h=>okX (an:=⟨[(0,[(3,(.one (.int .u64)))],[(3,3),(10,19)])],[(0,[(3,(.one (.int .u64)))],[(3,3),(10,19)])],[],[],[]⟩) Tryd.func63 h
theorem ok_bI_BitLen:Ok_bI_BitLen nums Tryd.prog:=fun _ _ _ h=>okX (an:=⟨[],[],[],[],[]⟩) Tryd.func64 h
theorem ok_dyad_limbs:Ok_dyad_limbs nums Tryd.prog:=fun _ _ _ h=>okX (an:=⟨[(0,[(3,(.one .slice))],[(3,3),(13,26)])],[(0,[(3,(.one .slice))],[(3,3),(13,26)])],[],[],[]⟩) Tryd.func65 h
theorem ok_bI_Rsh:Ok_bI_Rsh nums Tryd.prog:=fun _ _ _ _ _ h=>okX (an:=⟨[],[],[],[],[]⟩) Tryd.func66 h
theorem ok_bI_Abs:Ok_bI_Abs nums Tryd.prog:=fun _ _ _ _ h=>okX (an:=⟨[],[],[],[],[]⟩) Tryd.func67 h
theorem ok_bI_SetInt64:Ok_bI_SetInt64 nums Tryd.prog:=fun _ _ _ _ h=>okX (an:=⟨[],[],[],[(9,[(5,(.one (.int .u64)))],[(5,5),(10,11)])],[]⟩) Tryd.func68 h
theorem ok_bits_Kind:Ok_bits_Kind nums Tryd.prog:=fun _ _ _ h=>okX (an:=⟨[],[],[],[],[]⟩) Tryd.func69 h
theorem ok_math_Frexp:Ok_math_Frexp nums Tryd.prog:=fun _ _ _ h=>okX (an:=⟨[],[],[],[],[]⟩) Tryd.func70 h
theorem ok_math_Ldexp:Ok_math_Ldexp nums Tryd.prog:=fun _ _ _ _ h=>okX (an:=⟨[],[],[],[],[]⟩) Tryd.func71 h
theorem ok_math_bits_TrailingZeros64:Ok_math_bits_TrailingZeros64 nums Tryd.prog:=fun _ _ _ h=>okX (an:=⟨[],[],[],[],[]⟩) Tryd.func72 h
theorem ok_bI_Or:Ok_bI_Or nums Tryd.prog:=fun _ _ _ _ _ h=>okX (an:=⟨[(0,[(10,(.one (.int .i64)))],[(10,10),(29,43)])],[(0,[],[(10,10),(29,43)])],[],[],[(1,(.q 0 (.q 1 (.q 2 (.q 3 (.q 4 (.q 5 (.q 6 (.q 7 (.q 8 (.q 9 (.q 10 (.q 11 (.q 12 .done)))))))))))))),(6,(.q 0 (.q 1 (.q 2 (.q 3 (.q 4 (.q 5 (.q 6 (.q 7 (.q 8 (.q 9 (.e 10 .done))))))))))))]⟩) Tryd.func73 h
theorem ok_bI_SetUint64:Ok_bI_SetUint64 nums Tryd.prog:=fun _ _ _ _ h=>okX (an:=⟨[],[],[],[],[]⟩) Tryd.func74 h
theorem ok_bI_Neg:Ok_bI_Neg nums Tryd.prog:=fun _ _ _ _ h=>okX (an:=⟨[],[],[],[],[(1,(.q 0 (.q 1 (.q 2 (.q 3 (.q 4 (.q 5 (.q 6 (.q 7 (.q 8 (.q 9 (.e 10 (.e 11 (.q 12 .done))))))))))))))]⟩) Tryd.func75 h
theorem ok_bI_give:Ok_bI_give nums Tryd.prog:=fun _ _ _ _ _ _ _ h=>okX (an:=⟨[],[],[],[],[]⟩) Tryd.func76 h
theorem ok_bn_sum:Ok_bn_sum nums Tryd.prog:=fun _ _ _ _ _ _ _ _ _ _ h=>okX (an:=⟨[],[],[],[],[]⟩) Tryd.func77 h
theorem ok_bn_left:Ok_bn_left nums Tryd.prog:=fun _ _ _ _ _ _ h=>okX (an:=⟨[(0,[(8,(.one (.int .i64)))],[(8,9),(24,58)])],[(0,[],[(8,9),(24,58)])],[],[],[]⟩) Tryd.func78 h
theorem ok_bn_cmp:Ok_bn_cmp nums Tryd.prog:=fun _ _ _ _ _ _ _ _ h=>okX (an:=⟨[(0,[(5,(.one (.int .i64)))],[(4,5),(19,40)])],[(0,[],[(4,5),(19,40)])],[],[],[(8,(.q 0 (.q 1 (.q 2 (.q 3 (.q 4 (.q 5 (.q 6 (.q 7 (.q 8 .done)))))))))),(9,(.q 0 (.q 1 (.q 2 (.q 3 (.q 4 (.q 5 (.q 6 (.q 7 (.q 8 .done))))))))))]⟩) Tryd.func80 h
theorem ok_matrix_Make:Ok_matrix_Make nums Tryd.prog:=fun _ _ _ _ h=>okX (an:=⟨[],[],[],[],[]⟩) Tryd.func81 h
theorem ok_matrix_Transpose:Ok_matrix_Transpose nums Tryd.prog:=fun _ _ _ _ _ _ _ h=>okX (an:=⟨[],[],[],[],[]⟩) Tryd.func82 h
theorem ok_matrix_Same:Ok_matrix_Same nums Tryd.prog:=fun _ _ _ _ _ _ _ _ _ _ _ _ h=>okX (an:=⟨[],[],[],[],[]⟩) Tryd.func83 h
theorem ok_dyad_Neg:Ok_dyad_Neg nums Tryd.prog:=fun _ _ _ _ _ _ _ h=>okX (an:=⟨[],[],[],[],[]⟩) Tryd.func84 h
theorem ok_bI_Mul:Ok_bI_Mul nums Tryd.prog:=fun _ _ _ _ _ h=>okX (an:=⟨[],[],[],[],[(1,(.q 0 (.q 1 (.q 2 (.q 3 (.q 4 (.q 5 (.q 6 (.q 7 (.q 8 (.q 9 (.q 10 (.q 11 (.q 12 (.q 13 (.q 14 (.q 15 (.q 16 (.q 17 (.e 18 (.e 19 (.q 20 .done))))))))))))))))))))))]⟩) Tryd.func85 h
theorem ok_bn_bit:Ok_bn_bit nums Tryd.prog:=fun _ _ _ _ _ _ h=>okX (an:=⟨[],[],[],[],[]⟩) Tryd.func87 h
theorem ok_bn_length:Ok_bn_length nums Tryd.prog:=fun _ _ _ _ _ h=>okX (an:=⟨[(0,[(3,(.one (.int .i64))),(4,(.one (.int .u32)))],[(3,4),(14,19)])],[(0,[(3,(.one (.int .i64)))],[(3,4),(14,19)])],[],[],[]⟩) Tryd.func88 h
theorem ok_bI_And:Ok_bI_And nums Tryd.prog:=fun _ _ _ _ _ h=>okX (an:=⟨[(0,[(10,(.one (.int .i64)))],[(10,10),(29,43)])],[(0,[],[(10,10),(29,43)])],[],[],[(1,(.q 0 (.q 1 (.q 2 (.q 3 (.q 4 (.q 5 (.q 6 (.q 7 (.q 8 (.q 9 (.q 10 (.q 11 (.q 12 .done)))))))))))))),(6,(.q 0 (.q 1 (.q 2 (.q 3 (.q 4 (.q 5 (.q 6 (.q 7 (.q 8 (.q 9 (.e 10 .done))))))))))))]⟩) Tryd.func89 h
theorem ok_bI_Uint64:Ok_bI_Uint64 nums Tryd.prog:=fun _ _ _ h=>okX (an:=⟨[],[],[],[(9,[(3,(.one (.int .u64)))],[(3,3),(10,16)]),(22,[(3,(.one (.int .u64)))],[(3,3),(23,32)])],[]⟩) Tryd.func90 h
theorem ok_bn_add:Ok_bn_add nums Tryd.prog:=fun _ _ _ _ _ _ _ _ h=>okX (an:=⟨[(0,[(6,(.one (.int .u64))),(7,(.one (.int .i64)))],[(6,7),(19,49)])],[(0,[(6,(.one (.int .u64)))],[(6,7),(19,49)])],[],[(12,[(0,(.one .slice)),(1,(.one .slice))],[(0,1),(13,14)]),(35,[(6,(.one (.int .u64)))],[(6,6),(36,42)])],[]⟩) Tryd.func91 h
theorem ok_bn_right:Ok_bn_right nums Tryd.prog:=fun _ _ _ _ _ _ h=>okX (an:=⟨[(0,[(8,(.one (.int .i64)))],[(8,9),(24,61)])],[(0,[],[(8,9),(24,61)])],[],[(43,[(9,(.one (.int .u64)))],[(9,9),(44,54)])],[]⟩) Tryd.func92 h
theorem ok_bn_sub:Ok_bn_sub nums Tryd.prog:=fun _ _ _ _ _ _ _ _ h=>okX (an:=⟨[(0,[(6,(.one (.int .u64))),(7,(.one (.int .i64)))],[(6,8),(12,42)])],[(0,[],[(6,8),(12,42)])],[],[(28,[(8,(.one (.int .u64)))],[(8,8),(29,35)])],[]⟩) Tryd.func93 h
theorem ok_bn_twin:Ok_bn_twin nums Tryd.prog:=fun _ _ _ _ _ h=>okX (an:=⟨[],[],[],[],[]⟩) Tryd.func94 h
theorem ok_bn_words:Ok_bn_words nums Tryd.prog:=fun _ _ _ h=>okX (an:=⟨[],[],[],[],[]⟩) Tryd.func95 h
theorem ok_math_frexp:Ok_math_frexp nums Tryd.prog:=fun _ _ _ h=>okX (an:=⟨[],[],[],[],[]⟩) Tryd.func97 h
theorem ok_math_ldexp:Ok_math_ldexp nums Tryd.prog:=fun _ _ _ _ h=>okX (an:=⟨[],[],[(3,[(12,(.one .bool))],[(12,18)])],[(48,[(1,(.one (.int .i64))),(7,(.one .f64))],[(1,1),(7,7),(49,50)])],[]⟩) Tryd.func99 h
theorem ok_bI_low:Ok_bI_low nums Tryd.prog:=fun _ _ _ _ h=>okX (an:=⟨[(0,[(6,(.one (.int .u64))),(7,(.one (.int .i64)))],[(6,7),(20,39)])],[(0,[],[(6,7),(20,39)])],[],[(19,[],[(6,7),(20,39)])],[]⟩) Tryd.func100 h
theorem ok_bI_of:Ok_bI_of nums Tryd.prog:=fun _ _ _ _ _ _ h=>okX (an:=⟨[(0,[(5,(.one (.int .u64))),(6,(.one (.int .i64)))],[(5,6),(20,40)])],[(0,[],[(5,6),(20,40)])],[(1,[(19,(.one .bool))],[(7,19)])],[],[]⟩) Tryd.func101 h
theorem ok_bn_trim:Ok_bn_trim nums Tryd.prog:=fun _ _ _ _ _ h=>okX (an:=⟨[(0,[(3,(.one (.int .i64)))],[(3,3),(6,17)])],[(0,[(3,(.one (.int .i64)))],[(3,3),(6,17)])],[],[],[]⟩) Tryd.func102 h
theorem ok_matrix_fits:Ok_matrix_fits nums Tryd.prog:=fun _ _ _ h=>okX (an:=⟨[],[],[],[],[]⟩) Tryd.func103 h
theorem ok_matrix_laid:Ok_matrix_laid nums Tryd.prog:=fun _ _ _ _ _ h=>okX (an:=⟨[(0,[(18,(.one (.int .i64)))],[(8,9),(18,38)]),(2,[(22,(.one (.int .i64)))],[(9,9),(22,37)])],[(0,[],[(8,9),(18,38)]),(2,[],[(9,9),(22,37)])],[],[],[(8,(.q 0 (.q 1 (.q 2 (.q 3 (.q 4 (.q 5 (.q 6 (.q 7 (.q 8 (.q 9 (.e 10 (.q 11 (.e 12 .done))))))))))))))]⟩) Tryd.func104 h
theorem ok_matrix_Make_1:Ok_matrix_Make_1 nums Tryd.prog:=fun _ _ _ _ h=>okX (an:=⟨[],[],[],[],[]⟩) Tryd.func105 h
theorem ok_matrix_Right:Ok_matrix_Right nums Tryd.prog:=fun _ _ _ _ _ _ _ h=>okX (an:=⟨[],[],[],[],[]⟩) Tryd.func106 h
theorem ok_matrix_Transpose_1:Ok_matrix_Transpose_1 nums Tryd.prog:=fun _ _ _ _ _ h=>okX (an:=⟨[],[],[],[],[]⟩) Tryd.func107 h
theorem ok_bn_mul:Ok_bn_mul nums Tryd.prog:=fun _ _ _ _ _ _ _ _ h=>okX (an:=⟨[(0,[(6,(.one (.int .i64)))],[(6,8),(23,72)]),(2,[(7,(.one (.int .u64))),(8,(.one (.int .i64)))],[(7,8),(29,64)])],[(0,[],[(6,8),(23,72)]),(2,[(7,(.one (.int .u64)))],[(7,8),(29,64)])],[(1,[(16,(.one .bool))],[(9,16)])],[],[(11,(.q 0 (.q 1 (.q 2 (.q 3 (.q 4 (.q 5 (.q 6 (.q 7 (.q 8 (.q 9 (.q 10 (.q 11 (.q 12 (.q 13 (.q 14 (.q 15 (.q 16 (.q 17 (.q 18 (.q 19 (.q 20 (.q 21 .done)))))))))))))))))))))))]⟩) Tryd.func108 h
theorem ok_math_normalize:Ok_math_normalize nums Tryd.prog:=fun _ _ _ h=>okX (an:=⟨[],[],[],[],[]⟩) Tryd.func109 h
theorem ok_math_Inf:Ok_math_Inf nums Tryd.prog:=fun _ _ _ h=>okX (an:=⟨[],[],[],[(5,[(3,(.one (.int .u64)))],[(3,3)])],[]⟩) Tryd.func110 h
theorem ok_math_Float64frombits:Ok_math_Float64frombits nums Tryd.prog:=by
  intro x w K h
  exact ext_ok (fn:=Tryd.f30) (g:=Extern.MathFloatBits.float64frombits) Tryd.func30 (by kernel_rfl) (by kernel_rfl) (by kernel_rfl) (by kernel_rfl) rfl h
theorem ok_math_Float64bits:Ok_math_Float64bits nums Tryd.prog:=by
  intro x w K h
  exact ext_ok (fn:=Tryd.f31) (g:=Extern.MathFloatBits.float64bits) Tryd.func31 (by kernel_rfl) (by kernel_rfl) (by kernel_rfl) (by kernel_rfl) rfl h
theorem ok_math_bits_Len64:Ok_math_bits_Len64 nums Tryd.prog:=by
  intro x h0 h1 w K h
  exact callsX_of (fn:=Tryd.f79) Tryd.func79 (by kernel_rfl) (by kernel_rfl) ((Tryd.bits_Len64 x w h0 h1).mono fun e w1 ⟨he,hw⟩=>⟨_,he,by subst hw;exact h⟩)
theorem allOk:AllOk nums Tryd.prog:=⟨ok_w12_LowerNear,ok_dyad_Int,ok_math_Abs,ok_math_Signbit,ok_math_IsInf,ok_dyad_Of,ok_dyad_Add,ok_dyad_Scale,ok_dyad_Cmp,ok_w12_awake,ok_w12_small,ok_lower_Factor,ok_lower_Right,ok_w12_near,ok_k_SameReals,ok_vector_Same,ok_math_Copysign,ok_dyad_made,ok_bn_NewInt,ok_bits_Split,ok_dyad_both,ok_dyad_whole,ok_bI_Sign,ok_bI_Add,ok_bI_Lsh,ok_dyad_Right,ok_dyad_Sign,ok_dyad_top,ok_bI_Cmp,ok_lower_Times,ok_k_SameFactor,ok_k_SameMatrix,ok_w12_mirrored,ok_matrix_Symmetric,ok_lower_finite,ok_lower_row,ok_w12_product,ok_w12_at,ok_p_w12_sums_adds,ok_dyad_Mul,ok_k_SameFloat,ok_math_IsNaN,ok_bI_TrailingZeroBits,ok_bI_BitLen,ok_dyad_limbs,ok_bI_Rsh,ok_bI_Abs,ok_bI_SetInt64,ok_bits_Kind,ok_math_Frexp,ok_math_Ldexp,ok_math_bits_TrailingZeros64,ok_bI_Or,ok_bI_SetUint64,ok_bI_Neg,ok_bI_give,ok_bn_sum,ok_bn_left,ok_bn_cmp,ok_matrix_Make,ok_matrix_Transpose,ok_matrix_Same,ok_dyad_Neg,ok_bI_Mul,ok_bn_bit,ok_bn_length,ok_bI_And,ok_bI_Uint64,ok_bn_add,ok_bn_right,ok_bn_sub,ok_bn_twin,ok_bn_words,ok_math_frexp,ok_math_ldexp,ok_bI_low,ok_bI_of,ok_bn_trim,ok_matrix_fits,ok_matrix_laid,ok_matrix_Make_1,ok_matrix_Right,ok_matrix_Transpose_1,ok_bn_mul,ok_math_normalize,ok_math_Inf,ok_math_Float64frombits,ok_math_Float64bits,ok_math_bits_Len64⟩
end Go.Eng
