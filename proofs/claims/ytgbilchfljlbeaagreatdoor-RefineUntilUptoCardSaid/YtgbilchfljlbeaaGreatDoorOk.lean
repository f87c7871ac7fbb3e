/-
  Each function of the program comes to what its proposition says: one equation a function, by the kernel. No condition.
-/
import Derived.Test.YtgbilchfljlbeaaGreatDoorLn
import Derived.Test.YtgbilchfljlbeaaGreatDoorRow4
import Derived.Test.YtgbilchfljlbeaaGreatDoorSh
import Derived.Test.YtgbilchfljlbeaaGreatDoorTb
set_option linter.all false
set_option maxRecDepth 100000
namespace Go.Eng
open Go Go.Proofs
theorem okX {S : Prop} {f : FuncId} {fn : Func} {an : An} {args : Array Value} {w : World} {K : Value → World → Prop} (hf : Tryz.prog.funcs[f]? = some fn) (h : S) (hn : (fn.name == "runtime.NumGoroutine") = false := by kernel_rfl) (e : S = Hk5 Tryz.prog (Fd8 tbl) fn an args.toList w K := by kernel_rfl) : Aa1 Tryz.prog f args w K :=
 Ey6 tok Hr4 Hm2 hf hn (e ▸ h)
theorem Cl3:Bi7 Ad4 Tryz.prog:=fun _ _ _ _ _ _ _ _ _ _ _ _ _ _ _ _ _ _ _ _ _ h=>okX (an:=⟨[],[],[(3,[(25,(.one .bool))],[(17,25)]),(5,[(5,(.one .ptr)),(6,(.one .ptr)),(7,(.one .slice))],[(5,7),(26,34)])],[],[(5,(.q 0 (.q 1 (.q 3 (.q 4 (.q 6 (.q 7 (.alt (.e 2 (.alt (.e 5 (.alt (.e 8 (.alt (.e 9 (.e 10 (.e 11 (.e 12 (.q 13 .done))))) (.e 10 (.e 9 (.e 11 (.e 12 (.q 13 .done))))))) (.alt (.e 9 (.alt (.e 8 (.e 10 (.e 11 (.e 12 (.q 13 .done))))) (.e 10 (.e 8 (.e 11 (.e 12 (.q 13 .done))))))) (.e 10 (.alt (.e 8 (.e 9 (.e 11 (.e 12 (.q 13 .done))))) (.e 9 (.e 8 (.e 11 (.e 12 (.q 13 .done)))))))))) (.alt (.e 9 (.alt (.e 5 (.alt (.e 8 (.e 10 (.e 11 (.e 12 (.q 13 .done))))) (.e 10 (.e 8 (.e 11 (.e 12 (.q 13 .done))))))) (.e 10 (.e 5 (.e 8 (.e 11 (.e 12 (.q 13 .done)))))))) (.e 10 (.alt (.e 5 (.alt (.e 8 (.e 9 (.e 11 (.e 12 (.q 13 .done))))) (.e 9 (.e 8 (.e 11 (.e 12 (.q 13 .done))))))) (.e 9 (.e 5 (.e 8 (.e 11 (.e 12 (.q 13 .done))))))))))) (.alt (.e 9 (.alt (.e 2 (.alt (.e 5 (.alt (.e 8 (.e 10 (.e 11 (.e 12 (.q 13 .done))))) (.e 10 (.e 8 (.e 11 (.e 12 (.q 13 .done))))))) (.e 10 (.e 5 (.e 8 (.e 11 (.e 12 (.q 13 .done)))))))) (.e 10 (.e 2 (.e 5 (.e 8 (.e 11 (.e 12 (.q 13 .done))))))))) (.e 10 (.alt (.e 2 (.alt (.e 5 (.alt (.e 8 (.e 9 (.e 11 (.e 12 (.q 13 .done))))) (.e 9 (.e 8 (.e 11 (.e 12 (.q 13 .done))))))) (.e 9 (.e 5 (.e 8 (.e 11 (.e 12 (.q 13 .done)))))))) (.e 9 (.e 2 (.e 5 (.e 8 (.e 11 (.e 12 (.q 13 .done))))))))))))))))))]⟩) Tryz.func5 h
theorem Ek1:Cu0 Ad4 Tryz.prog:=fun _ _ h=>okX (an:=⟨[],[],[],[],[]⟩) Tryz.func9 h
theorem Eu4:Cp4 Ad4 Tryz.prog:=fun _ _ _ _ _ _ _ h=>okX (an:=⟨[],[],[],[],[]⟩) Tryz.func10 h
theorem Dg5:Bt5 Ad4 Tryz.prog:=fun _ _ _ _ _ _ _ h=>okX (an:=⟨[],[],[],[],[]⟩) Tryz.func11 h
theorem Dm7:Bz2 Ad4 Tryz.prog:=fun _ _ _ _ _ h=>okX (an:=⟨[(0,[(3,(.one .slice)),(4,(.one (.int .i64)))],[(3,4),(12,21)])],[(0,[(3,(.one .slice))],[(3,4),(12,21)])],[],[],[]⟩) Tryz.func12 h
theorem Dp1:Bz3 Ad4 Tryz.prog:=fun _ _ _ _ _ _ _ _ _ _ _ _ _ h=>okX (an:=⟨[(1,[(8,(.one .slice)),(35,(.one (.int .i64)))],[(8,8),(10,11),(13,15),(35,76)]),(3,[(11,(.one .slice)),(56,(.one (.int .i64)))],[(11,11),(13,13),(56,65)])],[(1,[(8,(.one .slice))],[(8,8),(10,11),(13,15),(35,76)]),(3,[(11,(.one .slice))],[(11,11),(13,13),(56,65)])],[],[],[]⟩) Tryz.func13 h
theorem Ey3:Dd6 Ad4 Tryz.prog:=fun _ _ _ _ _ _ _ _ _ _ _ _ _ h=>okX (an:=⟨[(0,[(8,(.one .slice)),(9,(.one (.int .i64)))],[(8,12),(32,74)]),(2,[(11,(.one (.int .i64)))],[(11,12),(43,69)])],[(0,[(8,(.one .slice))],[(8,12),(32,74)]),(2,[],[(11,12),(43,69)])],[(3,[(31,(.one .bool))],[(18,31)]),(13,[(12,(.one .ptr))],[(12,12),(49,65)])],[],[(13,(.q 0 (.q 1 (.q 2 (.q 3 (.q 4 (.q 5 (.q 6 (.q 7 (.q 8 (.q 9 (.q 11 (.q 12 (.q 13 (.q 14 (.alt (.e 10 (.alt (.e 15 (.alt (.e 16 (.e 17 (.e 18 .done))) (.e 17 (.e 16 (.e 18 .done))))) (.e 17 (.e 15 (.e 16 (.e 18 .done)))))) (.e 17 (.e 10 (.e 15 (.e 16 (.e 18 .done))))))))))))))))))))),(14,(.q 0 (.q 1 (.e 2 (.e 3 (.e 4 .done))))))]⟩) Tryz.func14 h
theorem Dp4:Cc0 Ad4 Tryz.prog:=fun _ _ _ _ _ _ _ _ h=>okX (an:=⟨[(0,[(5,(.one (.int .i64)))],[(4,5),(11,26)])],[(0,[],[(4,5),(11,26)])],[],[],[(6,(.q 0 (.q 1 (.q 2 (.q 3 (.q 4 (.q 5 (.q 6 (.q 7 (.e 8 (.q 9 .done)))))))))))]⟩) Tryz.func15 h
theorem Dh1:Bv0 Ad4 Tryz.prog:=fun _ _ _ _ _ _ _ _ _ _ _ _ h=>okX (an:=⟨[],[],[],[],[]⟩) Tryz.func16 h
theorem Dm4:Ca0 Ad4 Tryz.prog:=fun _ _ _ _ _ _ _ _ h=>okX (an:=⟨[(0,[(6,(.one (.int .i64)))],[(4,4),(6,6),(17,58)])],[(0,[],[(4,4),(6,6),(17,58)])],[],[],[(7,(.q 0 (.q 1 (.q 2 (.q 3 (.q 4 (.q 5 (.q 6 (.q 7 (.q 8 (.q 9 (.q 10 (.q 11 (.q 12 (.e 13 (.q 14 (.q 15 (.q 16 (.q 17 (.q 18 (.q 19 (.q 20 (.q 21 (.q 22 (.q 23 (.q 24 (.q 25 (.q 26 (.q 27 (.q 28 (.q 29 (.e 30 (.q 31 (.q 32 (.q 33 (.q 34 (.q 35 .done)))))))))))))))))))))))))))))))))))))]⟩) Tryz.func17 h
theorem Di6:Br2 Ad4 Tryz.prog:=fun _ _ _ _ _ _ _ _ _ h=>okX (an:=⟨[],[],[],[],[]⟩) Tryz.func18 h
theorem Dl4:Cc7 Ad4 Tryz.prog:=fun _ _ _ _ _ _ _ _ _ _ _ _ _ _ _ _ _ _ _ _ h=>okX (an:=⟨[],[],[(1,[(25,(.one .bool))],[(15,25)])],[],[]⟩) Tryz.func19 h
theorem Fa8:Cz8 Ad4 Tryz.prog:=fun _ _ _ _ _ _ _ _ _ _ _ _ _ _ _ _ _ _ _ _ h=>okX (an:=⟨[(0,[(13,(.one .slice)),(14,(.one (.int .i64)))],[(13,14),(45,62)])],[(0,[(13,(.one .slice))],[(13,14),(45,62)])],[(1,[(25,(.one .bool))],[(15,25)])],[],[(13,(.q 0 (.q 1 (.q 2 (.q 3 (.q 4 (.q 5 (.q 6 (.q 7 (.q 8 (.q 9 (.e 10 (.e 11 (.q 12 .done))))))))))))))]⟩) Tryz.func20 h
theorem Cz1:Bv1 Ad4 Tryz.prog:=fun _ _ _ _ _ _ _ _ _ _ _ _ _ _ _ _ h=>okX (an:=⟨[],[],[],[],[]⟩) Tryz.func21 h
theorem Dk3:Bt9 Ad4 Tryz.prog:=fun _ _ _ _ _ _ _ _ _ _ _ _ _ _ _ _ _ _ h=>okX (an:=⟨[(1,[(11,(.one .slice)),(14,(.one .f64)),(71,(.one (.int .i64)))],[(8,11),(14,18),(71,106)])],[(1,[(11,(.one .slice))],[(8,11),(14,18),(71,106)])],[(1,[(19,(.one .bool))],[(19,25)]),(3,[(26,(.one .bool))],[(26,37)])],[],[]⟩) Tryz.func22 h
theorem El9:Cs4 Ad4 Tryz.prog:=fun _ _ _ _ _ _ _ _ _ _ _ _ _ _ _ _ _ _ h=>okX (an:=⟨[(0,[(11,(.one .slice)),(14,(.one .f64)),(15,(.one (.int .i64)))],[(11,11),(14,18),(69,102)])],[(0,[(11,(.one .slice)),(15,(.one (.int .i64)))],[(11,11),(14,18),(69,102)])],[(1,[(24,(.one .bool))],[(19,24)]),(3,[(35,(.one .bool))],[(25,35)]),(5,[(44,(.one .bool))],[(36,44)])],[],[]⟩) Tryz.func23 h
theorem Dm8:By5 Ad4 Tryz.prog:=fun _ _ _ _ _ _ _ _ _ _ _ _ h=>okX (an:=⟨[],[],[],[],[]⟩) Tryz.func25 h
theorem Dp5:Cb9 Ad4 Tryz.prog:=fun _ _ _ _ _ _ _ _ h=>okX (an:=⟨[(0,[(5,(.one (.int .i64)))],[(4,5),(11,26)])],[(0,[],[(4,5),(11,26)])],[],[],[(6,(.q 0 (.q 1 (.q 2 (.q 3 (.q 4 (.q 5 (.q 6 (.q 7 (.e 8 (.q 9 .done)))))))))))]⟩) Tryz.func27 h
theorem Fn9:Du8 Ad4 Tryz.prog:=fun _ _ h=>okX (an:=⟨[],[],[],[],[]⟩) Tryz.func29 h
theorem Ga0:En5 Ad4 Tryz.prog:=fun _ _ _ _ h=>okX (an:=⟨[],[],[],[],[]⟩) Tryz.func30 h
theorem Dz7:Cf0 Ad4 Tryz.prog:=fun _ _ _ _ _ _ _ _ _ _ _ _ _ h=>okX (an:=⟨[],[],[],[],[]⟩) Tryz.func31 h
theorem Cx0:Bp8 Ad4 Tryz.prog:=fun _ _ _ _ _ h=>okX (an:=⟨[(0,[(9,(.one (.int .i64)))],[(2,2),(4,4),(6,6),(9,24)]),(2,[(15,(.one (.int .i64)))],[(2,2),(6,6),(15,23)])],[(0,[],[(2,2),(4,4),(6,6),(9,24)]),(2,[],[(2,2),(6,6),(15,23)])],[],[],[]⟩) Tryz.func32 h
theorem Cw2:Bq2 Ad4 Tryz.prog:=fun _ _ _ _ _ _ _ _ _ h=>okX (an:=⟨[],[],[],[],[]⟩) Tryz.func33 h
theorem Fl8:Dv9 Ad4 Tryz.prog:=fun _ _ _ _ _ _ _ _ _ _ _ _ _ h=>okX (an:=⟨[],[],[],[],[]⟩) Tryz.func34 h
theorem Eb9:Ch6 Ad4 Tryz.prog:=fun _ _ _ _ _ h=>okX (an:=⟨[(0,[(3,(.one (.int .i64)))],[(2,19)])],[(0,[],[(2,19)])],[],[],[(4,(.q 0 (.q 1 (.q 2 (.q 3 (.q 4 (.q 5 (.q 6 (.q 7 (.q 8 (.q 9 .done)))))))))))]⟩) Tryz.func35 h
theorem Eu1:Cu7 Ad4 Tryz.prog:=fun _ _ _ h=>okX (an:=⟨[],[],[],[],[(2,(.q 0 (.q 1 (.q 2 (.q 3 (.q 5 (.q 6 (.e 4 (.q 7 (.e 8 .done))))))))))]⟩) Tryz.func36 h
theorem En4:Cs1 Ad4 Tryz.prog:=fun _ _ _ _ _ _ _ _ _ _ _ _ h=>okX (an:=⟨[],[],[],[],[(1,(.q 0 (.q 1 (.q 2 (.q 3 (.q 4 (.q 5 (.q 6 (.q 7 (.q 8 (.q 10 (.q 11 (.q 12 (.q 13 (.q 14 (.e 9 (.q 15 (.e 16 .done))))))))))))))))))]⟩) Tryz.func37 h
theorem Ew1:Cz2 Ad4 Tryz.prog:=fun _ _ _ _ _ _ _ _ _ _ _ _ h=>okX (an:=⟨[],[],[],[],[(10,(.q 0 (.q 1 (.q 2 (.q 3 (.q 5 (.q 6 (.e 4 (.q 7 (.e 8 .done)))))))))),(12,(.q 0 (.q 1 (.q 2 (.q 3 (.q 5 (.q 6 (.e 4 (.q 7 (.e 8 .done)))))))))),(13,(.q 0 (.q 1 (.q 2 (.q 3 (.q 5 (.q 6 (.e 4 (.q 7 (.e 8 .done))))))))))]⟩) Tryz.func38 h
theorem Ei7:Cr7 Ad4 Tryz.prog:=fun _ _ _ _ _ _ _ h=>okX (an:=⟨[],[],[],[],[]⟩) Tryz.func39 h
theorem Dn6:By0 Ad4 Tryz.prog:=fun _ _ _ _ _ _ _ _ h=>okX (an:=⟨[],[],[(13,[(61,(.one .bool))],[(52,61)])],[(23,[(6,(.one .slice))],[(6,12),(24,80)]),(43,[(6,(.one .slice))],[(6,6),(10,12),(44,80)]),(61,[(12,(.one (.int .i64)))],[(12,12),(62,62)]),(62,[(12,(.one (.int .i64)))],[(12,12)]),(77,[(6,(.one .slice))],[(6,6),(78,80)]),(92,[(13,(.one (.int .u64)))],[(13,13),(93,95)])],[(17,(.q 0 (.q 1 (.q 2 (.q 3 (.q 4 (.q 5 (.q 6 (.q 7 (.q 8 (.q 9 (.q 10 (.q 11 (.q 12 (.q 13 (.e 14 .done))))))))))))))))]⟩) Tryz.func40 h
theorem Dn3:Cc2 Ad4 Tryz.prog:=fun _ _ _ _ h=>okX (an:=⟨[],[],[],[],[]⟩) Tryz.func41 h
theorem Dj9:Bu6 Ad4 Tryz.prog:=fun _ _ _ _ _ _ _ _ _ _ _ _ h=>okX (an:=⟨[],[],[],[],[]⟩) Tryz.func42 h
theorem Do4:Bz0 Ad4 Tryz.prog:=fun _ _ _ _ _ _ _ _ _ _ _ _ _ _ h=>okX (an:=⟨[],[],[],[],[]⟩) Tryz.func43 h
theorem Ea1:Cf5 Ad4 Tryz.prog:=fun _ _ _ _ _ _ _ _ h=>okX (an:=⟨[],[],[],[],[]⟩) Tryz.func44 h
theorem Fb5:Cz7 Ad4 Tryz.prog:=fun _ _ _ _ _ _ _ _ _ _ _ _ _ _ h=>okX (an:=⟨[],[],[],[],[]⟩) Tryz.func45 h
theorem Ei3:Cu5 Ad4 Tryz.prog:=fun _ _ _ _ _ _ _ _ _ _ _ _ h=>okX (an:=⟨[],[],[],[],[]⟩) Tryz.func46 h
theorem Da3:Bs3 Ad4 Tryz.prog:=fun _ _ _ _ _ _ _ _ _ _ _ _ _ _ _ _ h=>okX (an:=⟨[],[],[],[],[]⟩) Tryz.func47 h
theorem Dp3:By3 Ad4 Tryz.prog:=fun _ _ _ _ _ h=>okX (an:=⟨[(0,[(3,(.one .f64)),(8,(.one (.int .i64)))],[(3,3),(5,5),(8,16)])],[(0,[(3,(.one .f64))],[(3,3),(5,5),(8,16)])],[],[],[]⟩) Tryz.func48 h
theorem Ex5:Dd3 Ad4 Tryz.prog:=fun _ _ _ _ _ h=>okX (an:=⟨[(0,[(3,(.one .f64)),(4,(.one (.int .i64)))],[(3,17)])],[(0,[(3,(.one .f64))],[(3,17)])],[],[],[]⟩) Tryz.func49 h
theorem Cw7:Bp6 Ad4 Tryz.prog:=fun _ _ _ _ _ _ _ _ _ _ _ _ h=>okX (an:=⟨[(0,[(21,(.one (.int .i64)))],[(8,9),(21,44)]),(2,[(25,(.one (.int .i64)))],[(9,9),(25,43)])],[(0,[],[(8,9),(21,44)]),(2,[],[(9,9),(25,43)])],[],[],[(11,(.q 0 (.q 1 (.q 2 (.q 3 (.q 4 (.q 5 (.q 6 (.q 8 (.q 9 (.q 10 (.q 11 (.e 7 (.q 12 (.q 13 (.q 14 (.e 15 .done)))))))))))))))))]⟩) Tryz.func50 h
theorem Eg9:Cl4 Ad4 Tryz.prog:=fun _ _ _ _ _ _ _ _ _ _ _ _ h=>okX (an:=⟨[(0,[(28,(.one (.int .i64)))],[(8,9),(28,40)]),(2,[(43,(.one (.int .i64)))],[(10,12),(43,74)]),(4,[(12,(.one (.int .i64)))],[(12,12),(53,73)])],[(0,[],[(8,9),(28,40)]),(2,[],[(10,12),(43,74)]),(4,[],[(12,12),(53,73)])],[],[],[(19,(.q 0 (.q 1 (.q 2 (.q 3 (.q 4 (.q 5 (.q 6 (.q 8 (.q 9 (.q 10 (.q 11 (.e 7 (.q 12 (.q 13 (.q 14 (.e 15 .done)))))))))))))))))]⟩) Tryz.func51 h
theorem Fy9:Eq3 Ad4 Tryz.prog:=fun _ _ _ _ h=>okX (an:=⟨[],[],[],[],[]⟩) Tryz.func52 h
theorem Dc4:Bu8 Ad4 Tryz.prog:=fun _ _ _ _ _ _ _ h=>okX (an:=⟨[],[],[],[],[]⟩) Tryz.func53 h
theorem Do9:Ca6 Ad4 Tryz.prog:=fun _ _ _ _ _ h=>okX (an:=⟨[(0,[(7,(.one (.int .i64)))],[(2,2),(4,4),(7,17)])],[(0,[],[(2,2),(4,4),(7,17)])],[],[],[]⟩) Tryz.func54 h
theorem Ef0:Cj9 Ad4 Tryz.prog:=fun _ _ _ _ h=>okX (an:=⟨[(0,[(9,(.one (.int .i64)))],[(6,6),(9,20)])],[(0,[],[(6,6),(9,20)])],[],[],[(5,(.q 0 (.q 1 (.q 2 (.e 3 (.e 4 (.q 5 (.q 6 (.q 7 (.e 8 .done))))))))))]⟩) Tryz.func55 h
theorem Ck0:Bi0 Ad4 Tryz.prog:=fun _ _ _ _ _ h=>okX (an:=⟨[],[],[],[],[]⟩) Tryz.func56 h
theorem Fl4:Dw6 Ad4 Tryz.prog:=fun _ _ _ h=>okX (an:=⟨[],[],[],[],[]⟩) Tryz.func57 h
theorem Ey2:Di3 Ad4 Tryz.prog:=fun _ _ _ _ _ _ _ _ _ _ _ _ h=>okX (an:=⟨[],[],[],[],[(4,(.q 0 (.q 1 (.q 2 (.q 5 (.q 6 (.q 7 (.q 8 (.q 9 (.e 3 (.e 4 (.e 10 (.q 11 (.q 12 (.e 13 (.q 14 .done))))))))))))))))]⟩) Tryz.func58 h
theorem Eh1:Ch1 Ad4 Tryz.prog:=fun _ _ _ _ _ _ _ _ h=>okX (an:=⟨[],[],[],[(34,[(8,(.one (.int .u64)))],[(8,8),(10,12),(35,79)]),(77,[(8,(.one (.int .u64)))],[(8,8),(78,79)])],[]⟩) Tryz.func59 h
theorem Ep5:Cs3 Ad4 Tryz.prog:=fun _ _ _ _ _ _ _ h=>okX (an:=⟨[],[],[],[],[]⟩) Tryz.func60 h
theorem Ep6:Cu1 Ad4 Tryz.prog:=fun _ _ _ h=>okX (an:=⟨[(0,[],[(33,49)])],[(0,[],[(33,49)])],[],[(22,[],[(23,28)]),(31,[],[(32,32)])],[]⟩) Tryz.func61 h
theorem Em1:Cr5 Ad4 Tryz.prog:=fun _ _ _ h=>okX (an:=⟨[],[],[],[],[]⟩) Tryz.func62 h
theorem Ec1:Ce5 Ad4 Tryz.prog:=fun _ _ _ _ _ _ _ _ h=>okX (an:=⟨[],[],[],[],[]⟩) Tryz.func63 h
theorem Dj8:Bu5 Ad4 Tryz.prog:=fun _ _ _ _ _ _ _ h=>okX (an:=⟨[],[],[],[],[]⟩) Tryz.func64 h
theorem Eo9:Co7 Ad4 Tryz.prog:=fun _ _ _ _ _ _ h=>okX (an:=⟨[(0,[(8,(.one (.int .u64))),(9,(.one (.int .i64)))],[(8,9),(20,27)]),(2,[(6,(.one .slice)),(7,(.one (.int .u64))),(10,(.one (.int .i64)))],[(6,7),(10,11),(28,48)])],[(0,[(8,(.one (.int .u64)))],[(8,9),(20,27)]),(2,[(6,(.one .slice)),(7,(.one (.int .u64)))],[(6,7),(10,11),(28,48)])],[],[],[]⟩) Tryz.func65 h
theorem Eb8:Cf9 Ad4 Tryz.prog:=fun _ _ _ _ _ _ _ _ h=>okX (an:=⟨[(0,[(7,(.one .slice)),(8,(.one (.int .u64))),(9,(.one (.int .i64)))],[(7,10),(15,46)])],[(0,[(7,(.one .slice))],[(7,10),(15,46)])],[(5,[(28,(.one .bool))],[(15,28)])],[],[]⟩) Tryz.func66 h
theorem Ee8:Ck9 Ad4 Tryz.prog:=fun _ _ _ _ _ _ _ _ h=>okX (an:=⟨[(0,[(7,(.one (.int .i64)))],[(4,4),(7,7),(25,46)])],[(0,[],[(4,4),(7,7),(25,46)])],[],[],[(9,(.q 0 (.q 1 (.q 2 (.q 3 (.q 4 (.q 5 (.q 6 (.q 7 (.q 8 .done)))))))))),(11,(.q 0 (.q 1 (.q 2 (.q 3 (.q 4 (.q 5 (.q 6 (.q 7 (.q 8 .done))))))))))]⟩) Tryz.func67 h
theorem Eh4:Cf8 Ad4 Tryz.prog:=fun _ _ _ _ _ _ _ _ h=>okX (an:=⟨[(0,[(7,(.one .slice)),(8,(.one (.int .u64))),(9,(.one (.int .i64)))],[(7,10),(15,39)])],[(0,[(7,(.one .slice))],[(7,10),(15,39)])],[],[],[(7,(.q 0 (.q 1 (.q 2 (.q 3 (.q 4 (.q 5 (.q 6 (.q 9 (.e 7 (.q 8 (.q 10 (.q 11 .done)))))))))))))]⟩) Tryz.func68 h
theorem Dl3:Ca8 Ad4 Tryz.prog:=fun _ _ _ _ _ _ _ h=>okX (an:=⟨[],[],[],[],[(1,(.q 0 (.q 1 (.q 2 (.q 3 (.e 4 (.q 5 (.q 6 .done))))))))]⟩) Tryz.func69 h
theorem Dl5:Cb0 Ad4 Tryz.prog:=fun _ _ _ _ _ _ h=>okX (an:=⟨[(0,[(7,(.one .bool)),(8,(.one (.int .i64)))],[(7,8),(15,34)]),(2,[(9,(.one (.int .u64))),(10,(.one (.int .i64)))],[(9,10),(41,48)])],[(0,[(7,(.one .bool))],[(7,8),(15,34)]),(2,[(9,(.one (.int .u64)))],[(9,10),(41,48)])],[],[],[]⟩) Tryz.func70 h
theorem Fx8:Er1 Ad4 Tryz.prog:=fun _ _ _ _ _ _ h=>okX (an:=⟨[],[],[],[],[]⟩) Tryz.func71 h
theorem Dn4:Cb1 Ad4 Tryz.prog:=fun _ _ _ _ _ h=>okX (an:=⟨[(0,[(4,(.one (.int .i64))),(5,(.one (.int .u64)))],[(4,5),(21,26)])],[(0,[(4,(.one (.int .i64)))],[(4,5),(21,26)])],[],[],[]⟩) Tryz.func72 h
theorem Fd1:Db1 Ad4 Tryz.prog:=fun _ _ _ _ h=>okX (an:=⟨[],[],[],[(15,[(5,(.one .f64))],[(5,5)])],[]⟩) Tryz.func73 h
theorem Er0:Co6 Ad4 Tryz.prog:=fun _ _ _ _ _ h=>okX (an:=⟨[(0,[(1,(.one (.int .u64))),(2,(.one (.int .i64)))],[(1,2),(11,21)])],[(0,[(1,(.one (.int .u64))),(2,(.one (.int .i64)))],[(1,2),(11,21)])],[],[(10,[(2,(.one (.int .i64)))],[(2,2)])],[]⟩) Tryz.func74 h
theorem Dl8:By1 Ad4 Tryz.prog:=fun _ _ _ _ _ _ _ _ _ h=>okX (an:=⟨[],[],[],[],[]⟩) Tryz.func76 h
theorem Dm1:Ca4 Ad4 Tryz.prog:=fun _ _ _ _ _ _ _ _ _ h=>okX (an:=⟨[(0,[(22,(.one (.int .i64)))],[(10,10),(22,38)])],[(0,[],[(10,10),(22,38)])],[],[],[(8,(.q 0 (.q 1 (.q 2 (.q 3 (.q 4 (.q 5 (.q 6 (.q 7 (.q 8 (.q 9 (.q 10 (.e 11 (.q 12 (.e 13 .done)))))))))))))))]⟩) Tryz.func77 h
theorem Dg4:Br3 Ad4 Tryz.prog:=fun _ _ _ _ h=>okX (an:=⟨[],[],[],[],[]⟩) Tryz.func78 h
theorem Eu2:Cr4 Ad4 Tryz.prog:=fun _ _ _ _ _ _ _ _ _ h=>okX (an:=⟨[],[],[],[],[]⟩) Tryz.func79 h
theorem Dn2:Cc5 Ad4 Tryz.prog:=fun _ _ _ _ _ _ _ _ _ _ _ _ h=>okX (an:=⟨[(0,[(7,(.one (.int .i64)))],[(7,10),(24,54)]),(2,[(8,(.one .f64)),(9,(.one (.int .i64)))],[(8,10),(34,50)])],[(0,[],[(7,10),(24,54)]),(2,[(8,(.one .f64))],[(8,10),(34,50)])],[(1,[(20,(.one .bool))],[(11,20)])],[],[(11,(.q 0 (.q 1 (.q 2 (.q 4 (.q 5 (.q 6 (.q 7 (.e 3 (.q 8 (.q 9 .done)))))))))))]⟩) Tryz.func80 h
theorem Ew6:De2 Ad4 Tryz.prog:=fun _ _ _ _ _ _ _ _ _ _ _ _ h=>okX (an:=⟨[(0,[(7,(.one (.int .i64)))],[(7,10),(29,66)]),(2,[(8,(.one .f64)),(9,(.one (.int .i64)))],[(8,10),(45,62)])],[(0,[],[(7,10),(29,66)]),(2,[(8,(.one .f64))],[(8,10),(45,62)])],[(1,[(20,(.one .bool))],[(11,20)])],[],[(9,(.q 0 (.q 1 (.q 2 (.q 3 (.q 4 (.q 5 (.q 6 (.q 7 (.q 8 (.q 9 (.q 10 .done)))))))))))),(13,(.q 0 (.q 1 (.q 2 (.q 4 (.q 5 (.q 6 (.q 7 (.e 3 (.q 8 (.q 9 .done)))))))))))]⟩) Tryz.func81 h
theorem Ej7:Cw0 Ad4 Tryz.prog:=fun _ _ _ _ _ h=>okX (an:=⟨[],[],[(5,[(22,(.one .bool))],[(22,39)])],[(58,[(8,(.one .f64)),(9,(.one .f64))],[(8,9),(59,60)])],[]⟩) Tryz.func82 h
theorem Fd5:Da4 Ad4 Tryz.prog:=fun _ _ _ h=>okX (an:=⟨[],[],[],[],[]⟩) Tryz.func83 h
theorem Fm2:Dv4 Ad4 Tryz.prog:=fun _ _ _ _ _ h=>okX (an:=⟨[],[],[],[(43,[(0,(.one .f64)),(1,(.one .f64))],[(0,1),(44,45)])],[]⟩) Tryz.func84 h
theorem Eg8:Cg4 Ad4 Tryz.prog:=fun _ _ _ _ _ _ _ _ _ _ h=>okX (an:=⟨[],[],[],[],[]⟩) Tryz.func85 h
theorem Ay2:Al8 Ad4 Tryz.prog:=fun _ _ _ _ _ h=>okX (an:=⟨[],[],[],[],[]⟩) Tryz.func86 h
theorem Dp8:Bz9 Ad4 Tryz.prog:=fun _ _ _ _ _ _ _ _ _ _ _ h=>okX (an:=⟨[],[],[],[],[]⟩) Tryz.func87 h
theorem Au6:Ai1 Ad4 Tryz.prog:=fun _ _ _ _ _ _ h=>okX (an:=⟨[],[],[],[],[]⟩) Tryz.func88 h
theorem Dl9:Bz1 Ad4 Tryz.prog:=fun _ _ _ h=>okX (an:=⟨[],[],[],[],[]⟩) Tryz.func89 h
theorem Ee0:Ck1 Ad4 Tryz.prog:=fun _ _ _ h=>okX (an:=⟨[],[],[],[],[]⟩) Tryz.func90 h
theorem Dx5:Ci0 Ad4 Tryz.prog:=fun _ _ _ _ h=>okX (an:=⟨[],[],[],[(6,[(0,(.one .f64))],[(0,0),(7,12)]),(10,[(0,(.one .f64))],[(0,0),(11,12)])],[]⟩) Tryz.func91 h
theorem Fe2:Dh9 Ad4 Tryz.prog:=fun _ _ _ h=>okX (an:=⟨[],[],[],[],[]⟩) Tryz.func92 h
theorem Fc7:Dc9 Ad4 Tryz.prog:=fun _ _ _ _ _ _ _ _ _ _ _ _ h=>okX (an:=⟨[],[],[(4,[(25,(.one .bool))],[(18,25)])],[(42,[(6,(.one .ptr)),(7,(.one .ptr))],[(6,7),(43,46)])],[(3,(.q 0 (.q 2 (.e 1 (.e 3 (.q 4 (.q 5 .done))))))),(5,(.q 0 (.q 1 (.q 2 (.q 4 (.q 5 (.q 6 (.q 7 (.q 8 (.e 3 (.e 9 (.q 10 (.q 11 (.e 12 (.q 13 .done))))))))))))))),(11,(.q 0 (.q 1 (.q 2 (.q 3 (.q 4 (.q 6 (.q 8 (.q 9 (.e 5 (.e 7 (.e 10 (.q 11 (.q 12 (.e 13 (.q 14 .done))))))))))))))))]⟩) Tryz.func93 h
theorem Ec0:Cl0 Ad4 Tryz.prog:=fun _ _ _ h=>okX (an:=⟨[],[],[],[],[]⟩) Tryz.func94 h
theorem Ep1:Cv8 Ad4 Tryz.prog:=fun _ _ _ _ _ _ _ _ _ _ _ _ h=>okX (an:=⟨[],[],[],[],[]⟩) Tryz.func95 h
theorem Eb2:Cj1 Ad4 Tryz.prog:=fun _ _ _ _ _ _ _ h=>okX (an:=⟨[(0,[(9,(.one (.int .i64)))],[(4,4),(9,30)])],[(0,[],[(4,4),(9,30)])],[],[(32,[],[(33,35)])],[]⟩) Tryz.func96 h
theorem Ej6:Ct9 Ad4 Tryz.prog:=fun _ _ _ _ h=>okX (an:=⟨[],[],[],[],[]⟩) Tryz.func97 h
theorem Fz3:En8 Ad4 Tryz.prog:=fun _ _ _ _ _ h=>okX (an:=⟨[],[],[],[],[(1,(.q 0 (.q 1 (.q 2 (.q 3 (.q 4 (.q 5 (.q 6 (.q 7 (.q 8 (.q 9 (.q 10 (.q 11 (.q 12 (.q 13 (.q 14 (.q 15 (.q 16 (.q 17 (.e 18 (.e 19 (.q 20 .done))))))))))))))))))))))]⟩) Tryz.func98 h
theorem Ea7:Ck6 Ad4 Tryz.prog:=fun _ _ _ _ _ _ _ h=>okX (an:=⟨[],[],[],[],[]⟩) Tryz.func99 h
theorem Fv2:Et8 Ad4 Tryz.prog:=fun _ _ _ _ h=>okX (an:=⟨[],[],[],[],[]⟩) Tryz.func100 h
theorem Fd4:Da2 Ad4 Tryz.prog:=fun _ _ _ _ _ _ _ h=>okX (an:=⟨[],[],[],[],[(2,(.q 0 (.q 1 (.q 2 (.q 3 (.q 4 (.q 5 (.q 6 (.q 7 (.q 8 (.q 9 (.q 10 (.q 11 (.e 12 (.q 13 (.q 14 .done))))))))))))))))]⟩) Tryz.func101 h
theorem Gc6:Ek4 Ad4 Tryz.prog:=fun _ _ _ _ _ h=>okX (an:=⟨[],[],[],[],[(1,(.q 0 (.q 1 (.q 2 (.q 3 (.q 4 (.q 5 (.q 6 (.q 7 (.q 8 (.q 9 (.e 10 (.e 11 (.q 12 .done))))))))))))))]⟩) Tryz.func102 h
theorem Et5:Cr6 Ad4 Tryz.prog:=fun _ _ _ h=>okX (an:=⟨[],[],[],[(9,[(3,(.one (.int .u64)))],[(3,3),(10,16)]),(22,[(3,(.one (.int .u64)))],[(3,3),(23,32)])],[]⟩) Tryz.func103 h
theorem Gc8:Eo1 Ad4 Tryz.prog:=fun _ _ _ _ _ h=>okX (an:=⟨[],[],[],[],[]⟩) Tryz.func104 h
theorem Fv9:Ek2 Ad4 Tryz.prog:=fun _ _ _ _ _ h=>okX (an:=⟨[],[],[],[],[(1,(.q 0 (.q 1 (.q 2 (.q 3 (.q 4 (.q 5 (.q 6 (.q 7 (.q 8 (.q 9 (.q 10 (.q 11 (.q 12 (.q 13 (.q 14 (.q 15 (.q 16 (.q 17 (.e 18 (.q 19 (.q 20 (.e 21 (.q 22 .done))))))))))))))))))))))))]⟩) Tryz.func105 h
theorem Gb3:Er8 Ad4 Tryz.prog:=fun _ _ _ _ h=>okX (an:=⟨[],[],[],[],[(1,(.q 0 (.q 1 (.q 2 (.q 3 (.q 4 (.q 5 (.q 6 (.q 7 (.q 8 .done)))))))))),(5,(.q 0 (.q 1 (.q 2 (.q 3 (.q 4 (.q 5 (.q 6 (.q 7 (.e 8 (.q 9 .done)))))))))))]⟩) Tryz.func106 h
theorem El2:Cq5 Ad4 Tryz.prog:=fun _ _ _ h=>okX (an:=⟨[],[],[],[],[]⟩) Tryz.func107 h
theorem Fp3:Dv5 Ad4 Tryz.prog:=fun _ _ _ h=>okX (an:=⟨[],[],[],[],[]⟩) Tryz.func108 h
theorem Es4:Ct0 Ad4 Tryz.prog:=fun _ _ _ _ _ _ h=>okX (an:=⟨[],[],[],[],[]⟩) Tryz.func109 h
theorem Eh3:Ce2 Ad4 Tryz.prog:=fun _ _ _ _ _ _ h=>okX (an:=⟨[],[],[],[(18,[],[(10,10),(19,28)])],[(5,(.q 0 (.q 1 (.q 3 (.q 4 (.e 2 (.q 5 (.q 6 .done))))))))]⟩) Tryz.func110 h
theorem Fq7:Dq7 Ad4 Tryz.prog:=fun _ _ _ h=>okX (an:=⟨[],[],[],[],[]⟩) Tryz.func111 h
theorem Ef3:Ci2 Ad4 Tryz.prog:=fun _ _ _ h=>okX (an:=⟨[],[],[],[],[]⟩) Tryz.func112 h
theorem Eb5:Cl8 Ad4 Tryz.prog:=fun _ _ _ h=>okX (an:=⟨[],[],[],[],[]⟩) Tryz.func113 h
theorem Do2:Bx9 Ad4 Tryz.prog:=fun _ _ _ _ _ h=>okX (an:=⟨[(0,[(3,(.one (.int .i64)))],[(3,3),(7,18)])],[(0,[(3,(.one (.int .i64)))],[(3,3),(7,18)])],[],[],[]⟩) Tryz.func114 h
theorem Ek3:Cv5 Ad4 Tryz.prog:=fun _ _ _ _ _ h=>okX (an:=⟨[(0,[(3,(.one .slice)),(4,(.one (.int .i64)))],[(3,32)])],[(0,[(3,(.one .slice))],[(3,32)])],[],[(20,[(5,(.one (.int .u64)))],[(5,5),(21,28)])],[]⟩) Tryz.func115 h
theorem Do3:Bz6 Ad4 Tryz.prog:=fun _ _ _ _ _ _ _ _ h=>okX (an:=⟨[(0,[(6,(.one (.int .i64)))],[(6,9),(16,61)]),(2,[(7,(.one (.int .u64))),(8,(.one (.int .i64)))],[(7,9),(22,54)])],[(0,[],[(6,9),(16,61)]),(2,[(7,(.one (.int .u64)))],[(7,9),(22,54)])],[],[],[(9,(.q 0 (.q 1 (.q 2 (.q 3 (.q 4 (.q 5 (.q 6 (.q 7 (.q 8 (.q 9 (.q 10 (.q 11 (.q 12 (.q 13 (.q 14 (.q 15 (.q 16 (.q 17 (.q 18 .done))))))))))))))))))))]⟩) Tryz.func116 h
theorem Dz0:Cl1 Ad4 Tryz.prog:=fun _ _ _ _ _ h=>okX (an:=⟨[(0,[(3,(.one .slice)),(4,(.one (.int .i64)))],[(3,23)])],[(0,[(3,(.one .slice))],[(3,23)])],[],[],[(5,(.q 0 (.q 1 (.q 2 (.q 3 (.q 4 (.q 5 (.q 6 (.q 7 (.q 8 (.q 9 (.q 10 (.e 11 (.e 12 (.q 13 .done)))))))))))))))]⟩) Tryz.func117 h
theorem Ej8:Cu6 Ad4 Tryz.prog:=fun _ _ _ _ _ _ h=>okX (an:=⟨[],[],[],[],[]⟩) Tryz.func118 h
theorem Et0:Cv4 Ad4 Tryz.prog:=fun _ _ _ _ _ _ h=>okX (an:=⟨[(0,[(7,(.one (.int .u64))),(8,(.one (.int .i64)))],[(7,9),(16,35)])],[(0,[(7,(.one (.int .u64)))],[(7,9),(16,35)])],[],[],[]⟩) Tryz.func119 h
theorem Fa5:Di4 Ad4 Tryz.prog:=fun _ _ _ _ _ h=>okX (an:=⟨[(0,[(4,(.one (.int .u64))),(5,(.one (.int .i64)))],[(4,5),(44,57)])],[(0,[(4,(.one (.int .u64))),(5,(.one (.int .i64)))],[(4,5),(44,57)])],[(1,[(39,(.one .bool))],[(7,39)])],[(62,[(6,(.one (.int .u64)))],[(6,6),(63,69)]),(71,[(6,(.one (.int .u64)))],[(6,6),(72,73)])],[(3,(.q 0 (.q 1 (.q 2 (.q 3 (.q 4 (.q 5 .done)))))))]⟩) Tryz.func120 h
theorem Eb4:Ck3 Ad4 Tryz.prog:=fun _ _ _ _ _ _ _ _ h=>okX (an:=⟨[],[],[],[],[]⟩) Tryz.func121 h
theorem Eu8:Cp2 Ad4 Tryz.prog:=fun _ _ _ _ _ _ _ _ _ h=>okX (an:=⟨[],[],[],[],[]⟩) Tryz.func122 h
theorem Fz7:Ei5 Ad4 Tryz.prog:=fun _ _ _ _ _ _ _ _ _ _ _ h=>okX (an:=⟨[],[],[],[],[]⟩) Tryz.func123 h
theorem Ez2:Dd1 Ad4 Tryz.prog:=fun _ _ _ _ _ _ _ _ _ h=>okX (an:=⟨[(0,[(3,(.one (.int .i64)))],[(2,16)])],[(0,[],[(2,16)])],[],[],[]⟩) Tryz.func124 h
theorem Ek9:Cp3 Ad4 Tryz.prog:=fun _ _ _ h=>okX (an:=⟨[],[],[],[],[]⟩) Tryz.func125 h
theorem De4:Bv2 Ad4 Tryz.prog:=fun _ _ _ _ _ h=>okX (an:=⟨[(0,[(7,(.one (.int .i64)))],[(2,2),(4,4),(7,17)])],[(0,[],[(2,2),(4,4),(7,17)])],[],[],[]⟩) Tryz.func126 h
theorem Cz5:Bs8 Ad4 Tryz.prog:=fun _ _ _ h=>okX (an:=⟨[],[],[],[],[]⟩) Tryz.func127 h
theorem Dz3:Ci7 Ad4 Tryz.prog:=fun _ _ _ h=>okX (an:=⟨[],[],[],[],[]⟩) Tryz.func128 h
theorem Db3:Bs4 Ad4 Tryz.prog:=fun _ _ _ _ _ h=>okX (an:=⟨[],[],[],[(8,[(2,(.one (.int .i8)))],[(2,2),(9,10)]),(10,[(2,(.one (.int .i8)))],[(2,2)])],[]⟩) Tryz.func129 h
theorem Ec3:Cf1 Ad4 Tryz.prog:=fun _ _ _ h=>okX (an:=⟨[],[],[],[],[]⟩) Tryz.func130 h
theorem Ed0:Cg5 Ad4 Tryz.prog:=fun _ _ _ h=>okX (an:=⟨[],[],[],[],[]⟩) Tryz.func132 h
theorem Eq2:Cs8 Ad4 Tryz.prog:=fun _ _ _ _ h=>okX (an:=⟨[],[],[],[],[]⟩) Tryz.func133 h
theorem Ef8:Cg8 Ad4 Tryz.prog:=fun _ _ _ _ _ _ h=>okX (an:=⟨[],[],[],[],[]⟩) Tryz.func134 h
theorem Ez3:Db2 Ad4 Tryz.prog:=fun _ _ _ _ _ h=>okX (an:=⟨[],[],[(2,[(10,(.one .bool))],[(10,28)])],[],[]⟩) Tryz.func135 h
theorem Fc8:Dg8 Ad4 Tryz.prog:=fun _ _ _ h=>okX (an:=⟨[],[],[],[],[]⟩) Tryz.func136 h
theorem Aw9:Al4 Ad4 Tryz.prog:=fun _ _ _ _ _ _ h=>okX (an:=⟨[(0,[(8,(.one (.int .i64)))],[(4,5),(8,18)])],[(0,[],[(4,5),(8,18)])],[],[],[]⟩) Tryz.func137 h
theorem Gf5:Ek5 Ad4 Tryz.prog:=fun _ _ _ _ _ h=>okX (an:=⟨[],[],[],[],[(1,(.q 0 (.q 1 (.q 2 (.q 3 (.q 4 (.q 5 (.q 6 (.q 7 (.q 8 (.q 9 (.q 10 (.q 11 (.q 12 (.q 13 (.q 14 (.q 15 (.q 16 (.e 17 (.q 18 (.q 19 (.e 20 (.q 21 .done)))))))))))))))))))))))]⟩) Tryz.func138 h
theorem Eu5:Cs7 Ad4 Tryz.prog:=fun _ _ _ h=>okX (an:=⟨[],[],[],[],[]⟩) Tryz.func139 h
theorem Ec2:Cj6 Ad4 Tryz.prog:=fun _ _ _ h=>okX (an:=⟨[],[],[],[],[]⟩) Tryz.func140 h
theorem Ea9:Ck7 Ad4 Tryz.prog:=fun _ _ _ _ h=>okX (an:=⟨[],[],[],[],[]⟩) Tryz.func141 h
theorem Bd9:Aq2 Ad4 Tryz.prog:=fun _ _ _ h=>okX (an:=⟨[],[],[],[],[]⟩) Tryz.func142 h
theorem Gn2:Fj7 Ad4 Tryz.prog:=fun _ _ _ _ _ h=>okX (an:=⟨[(0,[(10,(.one (.int .i64)))],[(10,10),(29,43)])],[(0,[],[(10,10),(29,43)])],[],[],[(1,(.q 0 (.q 1 (.q 2 (.q 3 (.q 4 (.q 5 (.q 6 (.q 7 (.q 8 (.q 9 (.q 10 (.q 11 (.q 12 .done)))))))))))))),(6,(.q 0 (.q 1 (.q 2 (.q 3 (.q 4 (.q 5 (.q 6 (.q 7 (.q 8 (.q 9 (.e 10 .done))))))))))))]⟩) Tryz.func143 h
theorem Db7:Bs6 Ad4 Tryz.prog:=fun _ _ _ _ h=>okX (an:=⟨[],[],[],[],[]⟩) Tryz.func144 h
theorem Gg4:El8 Ad4 Tryz.prog:=fun _ _ _ _ h=>okX (an:=⟨[],[],[],[],[(1,(.q 0 (.q 1 (.q 2 (.q 3 (.q 4 (.q 5 (.q 6 (.q 7 (.q 8 (.q 9 (.e 10 (.e 11 (.q 12 .done))))))))))))))]⟩) Tryz.func145 h
theorem Bq3:Ay9 Ad4 Tryz.prog:=fun _ _ _ h=>okX (an:=⟨[(0,[(3,(.one (.int .u64)))],[(3,3),(10,19)])],[(0,[(3,(.one (.int .u64)))],[(3,3),(10,19)])],[],[],[]⟩) Tryz.func146 h
theorem Ev5:Co9 Ad4 Tryz.prog:=fun _ _ _ h=>okX (an:=⟨[],[],[],[],[]⟩) Tryz.func147 h
theorem Eg2:Ce6 Ad4 Tryz.prog:=fun _ _ _ h=>okX (an:=⟨[(0,[(3,(.one .slice))],[(3,3),(13,26)])],[(0,[(3,(.one .slice))],[(3,3),(13,26)])],[],[],[]⟩) Tryz.func148 h
theorem Fo9:Dx2 Ad4 Tryz.prog:=fun _ _ _ _ _ _ _ h=>okX (an:=⟨[],[],[],[],[]⟩) Tryz.func149 h
theorem Fw6:Ej4 Ad4 Tryz.prog:=fun _ _ _ _ _ _ _ _ h=>okX (an:=⟨[(0,[(6,(.one (.int .i64)))],[(6,8),(23,72)]),(2,[(7,(.one (.int .u64))),(8,(.one (.int .i64)))],[(7,8),(29,64)])],[(0,[],[(6,8),(23,72)]),(2,[(7,(.one (.int .u64)))],[(7,8),(29,64)])],[(1,[(16,(.one .bool))],[(9,16)])],[],[(11,(.q 0 (.q 1 (.q 2 (.q 3 (.q 4 (.q 5 (.q 6 (.q 7 (.q 8 (.q 9 (.q 10 (.q 11 (.q 12 (.q 13 (.q 14 (.q 15 (.q 16 (.q 17 (.q 18 (.q 19 (.q 20 (.q 21 .done)))))))))))))))))))))))]⟩) Tryz.func150 h
theorem Fm4:Dx4 Ad4 Tryz.prog:=fun _ _ _ _ _ h=>okX (an:=⟨[],[],[],[],[]⟩) Tryz.func151 h
theorem Fq9:Dt6 Ad4 Tryz.prog:=fun _ _ _ _ _ _ h=>okX (an:=⟨[(0,[(8,(.one (.int .i64)))],[(8,9),(24,58)])],[(0,[],[(8,9),(24,58)])],[],[],[]⟩) Tryz.func153 h
theorem Fu8:Ev7 Ad4 Tryz.prog:=fun _ _ _ _ _ _ _ _ h=>okX (an:=⟨[(0,[(6,(.one (.int .u64))),(7,(.one (.int .i64)))],[(6,7),(19,49)])],[(0,[(6,(.one (.int .u64)))],[(6,7),(19,49)])],[],[(12,[(0,(.one .slice)),(1,(.one .slice))],[(0,1),(13,14)]),(35,[(6,(.one (.int .u64)))],[(6,6),(36,42)])],[]⟩) Tryz.func154 h
theorem Ez8:Di7 Ad4 Tryz.prog:=fun _ _ _ _ _ _ h=>okX (an:=⟨[(0,[(8,(.one (.int .i64)))],[(8,9),(24,61)])],[(0,[],[(8,9),(24,61)])],[],[(43,[(9,(.one (.int .u64)))],[(9,9),(44,54)])],[]⟩) Tryz.func155 h
theorem Fv5:Eu6 Ad4 Tryz.prog:=fun _ _ _ _ _ _ _ _ h=>okX (an:=⟨[(0,[(6,(.one (.int .u64))),(7,(.one (.int .i64)))],[(6,8),(12,42)])],[(0,[],[(6,8),(12,42)])],[],[(28,[(8,(.one (.int .u64)))],[(8,8),(29,35)])],[]⟩) Tryz.func156 h
theorem Fz1:Et4 Ad4 Tryz.prog:=fun _ _ _ _ _ _ _ _ _ _ h=>okX (an:=⟨[],[],[],[],[]⟩) Tryz.func157 h
theorem Gb4:Eq5 Ad4 Tryz.prog:=fun _ _ _ _ _ _ _ _ h=>okX (an:=⟨[(0,[(5,(.one (.int .i64)))],[(4,5),(19,40)])],[(0,[],[(4,5),(19,40)])],[],[],[(8,(.q 0 (.q 1 (.q 2 (.q 3 (.q 4 (.q 5 (.q 6 (.q 7 (.q 8 .done)))))))))),(9,(.q 0 (.q 1 (.q 2 (.q 3 (.q 4 (.q 5 (.q 6 (.q 7 (.q 8 .done))))))))))]⟩) Tryz.func158 h
theorem Dm6:Cc1 Ad4 Tryz.prog:=fun _ _ _ _ h=>okX (an:=⟨[],[],[],[(9,[(5,(.one (.int .u64)))],[(5,5),(10,11)])],[]⟩) Tryz.func159 h
theorem Ek8:Cs6 Ad4 Tryz.prog:=fun _ _ _ _ _ h=>okX (an:=⟨[],[],[(2,[(9,(.one .bool))],[(9,28)]),(4,[(29,(.one .bool))],[(29,53)])],[(61,[(5,(.one .f64))],[(5,5),(62,63)])],[]⟩) Tryz.func160 h
theorem Er3:Ct6 Ad4 Tryz.prog:=fun _ _ _ _ h=>okX (an:=⟨[],[],[],[(17,[(5,(.one (.int .i64)))],[(5,5),(18,23)])],[]⟩) Tryz.func161 h
theorem Ez0:Dc5 Ad4 Tryz.prog:=fun _ _ _ h=>okX (an:=⟨[],[],[],[],[]⟩) Tryz.func162 h
theorem Fn2:Dr0 Ad4 Tryz.prog:=fun _ _ _ _ _ h=>okX (an:=⟨[(0,[(3,(.one (.int .i64)))],[(3,3),(6,17)])],[(0,[(3,(.one (.int .i64)))],[(3,3),(6,17)])],[],[],[]⟩) Tryz.func163 h
theorem Cx3:Bq0 Ad4 Tryz.prog:=fun _ _ _ _ h=>okX (an:=⟨[],[],[],[],[]⟩) Tryz.func164 h
theorem Ea4:Ce0 Ad4 Tryz.prog:=fun _ _ _ _ h=>okX (an:=⟨[],[(0,[(5,(.one (.int .u64)))],[(5,5),(8,23)])],[],[(10,[(5,(.one (.int .u64)))],[(5,5),(8,9),(13,23)]),(14,[(5,(.one (.int .u64)))],[(5,5),(15,16)]),(17,[(5,(.one (.int .u64)))],[(5,5),(8,9),(22,23)])],[]⟩) Tryz.func165 h
theorem Fa6:De8 Ad4 Tryz.prog:=fun _ _ _ h=>okX (an:=⟨[],[],[],[],[]⟩) Tryz.func166 h
theorem Fu9:El4 Ad4 Tryz.prog:=fun _ _ _ h=>okX (an:=⟨[],[],[],[],[]⟩) Tryz.func167 h
theorem Ee7:Ci5 Ad4 Tryz.prog:=fun _ _ _ h=>okX (an:=⟨[],[],[],[],[]⟩) Tryz.func169 h
theorem Dy8:Cf4 Ad4 Tryz.prog:=fun _ _ _ _ h=>okX (an:=⟨[],[],[(3,[(12,(.one .bool))],[(12,18)])],[(48,[(1,(.one (.int .i64))),(7,(.one .f64))],[(1,1),(7,7),(49,50)])],[]⟩) Tryz.func171 h
theorem Fz4:Es0 Ad4 Tryz.prog:=fun _ _ _ _ h=>okX (an:=⟨[(0,[(6,(.one (.int .u64))),(7,(.one (.int .i64)))],[(6,7),(20,39)])],[(0,[],[(6,7),(20,39)])],[],[(19,[],[(6,7),(20,39)])],[]⟩) Tryz.func172 h
theorem Gi0:Fj1 Ad4 Tryz.prog:=fun _ _ _ _ _ _ h=>okX (an:=⟨[(0,[(5,(.one (.int .u64))),(6,(.one (.int .i64)))],[(5,6),(20,40)])],[(0,[],[(5,6),(20,40)])],[(1,[(19,(.one .bool))],[(7,19)])],[],[]⟩) Tryz.func173 h
theorem Fa9:De0 Ad4 Tryz.prog:=fun _ _ _ h=>okX (an:=⟨[],[],[],[],[]⟩) Tryz.func174 h
theorem Fu1:Ei1 Ad4 Tryz.prog:=fun _ _ _ _ _ _ h=>okX (an:=⟨[],[],[],[],[]⟩) Tryz.func175 h
theorem Er2:Cq3 Ad4 Tryz.prog:=fun _ _ _ _ _ h=>okX (an:=⟨[(0,[(3,(.one (.int .i64))),(4,(.one (.int .u32)))],[(3,4),(14,19)])],[(0,[(3,(.one (.int .i64)))],[(3,4),(14,19)])],[],[],[]⟩) Tryz.func176 h
theorem Fw1:Et3 Ad4 Tryz.prog:=fun _ _ _ _ _ h=>okX (an:=⟨[(0,[(10,(.one (.int .i64)))],[(10,10),(29,43)])],[(0,[],[(10,10),(29,43)])],[],[],[(1,(.q 0 (.q 1 (.q 2 (.q 3 (.q 4 (.q 5 (.q 6 (.q 7 (.q 8 (.q 9 (.q 10 (.q 11 (.q 12 .done)))))))))))))),(6,(.q 0 (.q 1 (.q 2 (.q 3 (.q 4 (.q 5 (.q 6 (.q 7 (.q 8 (.q 9 (.e 10 .done))))))))))))]⟩) Tryz.func177 h
theorem Fr2:Dt2 Ad4 Tryz.prog:=fun _ _ _ _ _ h=>okX (an:=⟨[(0,[(3,(.one (.int .i64)))],[(3,3),(6,17)])],[(0,[(3,(.one (.int .i64)))],[(3,3),(6,17)])],[],[],[]⟩) Tryz.func178 h
theorem Ee6:Cg2 Ad4 Tryz.prog:=fun _ _ _ h=>okX (an:=⟨[],[],[],[(13,[(4,(.one (.int .i64)))],[(4,4),(14,15)])],[]⟩) Tryz.func179 h
theorem Fm3:Dx0 Ad4 Tryz.prog:=fun _ _ _ h=>okX (an:=⟨[],[],[],[],[]⟩) Tryz.func180 h
theorem Dl6:Ca9 Ad4 Tryz.prog:=fun _ _ _ h=>okX (an:=⟨[],[],[],[],[]⟩) Tryz.func181 h
theorem Ef5:Cl6 Ad4 Tryz.prog:=fun _ _ _ h=>okX (an:=⟨[],[],[],[],[]⟩) Tryz.func182 h
theorem Cn2:Bl1 Ad4 Tryz.prog:=fun _ _ _ h=>okX (an:=⟨[],[],[],[],[]⟩) Tryz.func183 h
theorem Ez5:Dk0 Ad4 Tryz.prog:=fun _ _ _ h=>okX (an:=⟨[],[],[],[(5,[(3,(.one (.int .u64)))],[(3,3)])],[]⟩) Tryz.func184 h
theorem Cd1:Bg2 Ad4 Tryz.prog:=by
  intro x w K h
  exact Gt3 (fn:=Tryz.f75) (g:=Extern.MathFloatBits.float64bits) Tryz.func75 (by kernel_rfl) (by kernel_rfl) (by kernel_rfl) (by kernel_rfl) rfl h
theorem Bo6:Ax1 Ad4 Tryz.prog:=by
  intro x w K h
  exact Gt3 (fn:=Tryz.f131) (g:=Extern.MathFloatBits.float64frombits) Tryz.func131 (by kernel_rfl) (by kernel_rfl) (by kernel_rfl) (by kernel_rfl) rfl h
theorem Ch3:Bh9 Ad4 Tryz.prog:=by
  intro x h0 h1 w K h
  exact Gc9 (fn:=Tryz.f152) Tryz.func152 (by kernel_rfl) (by kernel_rfl) ((Tryz.bits_Len64 x w h0 h1).mono fun e w1 ⟨he,hw⟩=>⟨_,he,by subst hw;exact h⟩)
theorem Hm4:AllOk Ad4 Tryz.prog:=⟨Cl3,Ek1,Eu4,Dg5,Dm7,Dp1,Ey3,Dp4,Dh1,Dm4,Di6,Dl4,Fa8,Cz1,Dk3,El9,Dm8,Dp5,Fn9,Ga0,Dz7,Cx0,Cw2,Fl8,Eb9,Eu1,En4,Ew1,Ei7,Dn6,Dn3,Dj9,Do4,Ea1,Fb5,Ei3,Da3,Dp3,Ex5,Cw7,Eg9,Fy9,Dc4,Do9,Ef0,Ck0,Fl4,Ey2,Eh1,Ep5,Ep6,Em1,Ec1,Dj8,Eo9,Eb8,Ee8,Eh4,Dl3,Dl5,Fx8,Dn4,Fd1,Er0,Dl8,Dm1,Dg4,Eu2,Dn2,Ew6,Ej7,Fd5,Fm2,Eg8,Ay2,Dp8,Au6,Dl9,Ee0,Dx5,Fe2,Fc7,Ec0,Ep1,Eb2,Ej6,Fz3,Ea7,Fv2,Fd4,Gc6,Et5,Gc8,Fv9,Gb3,El2,Fp3,Es4,Eh3,Fq7,Ef3,Eb5,Do2,Ek3,Do3,Dz0,Ej8,Et0,Fa5,Eb4,Eu8,Fz7,Ez2,Ek9,De4,Cz5,Dz3,Db3,Ec3,Ed0,Eq2,Ef8,Ez3,Fc8,Aw9,Gf5,Eu5,Ec2,Ea9,Bd9,Gn2,Db7,Gg4,Bq3,Ev5,Eg2,Fo9,Fw6,Fm4,Fq9,Fu8,Ez8,Fv5,Fz1,Gb4,Dm6,Ek8,Er3,Ez0,Fn2,Cx3,Ea4,Fa6,Fu9,Ee7,Dy8,Fz4,Gi0,Fa9,Fu1,Er2,Fw1,Fr2,Ee6,Fm3,Dl6,Ef5,Cn2,Ez5,Cd1,Bo6,Ch3⟩
end Go.Eng
