/-
 Functions of plain Lean beside functions of the program, printed by a program of the session. No condition.
-/
import Derived.Test.YtgbilchfljlbeaaGreatDoorTpA
import Derived.Test.YtgbilchfljlbeaaGreatDoorBgo
set_option linter.all false
set_option maxRecDepth 100000
namespace Go.Eng
open Go
open Go.IntKind (i64 u64 u32 u8)
def T_w14_two  : Option (Int×Int×List Nat×Int×List Nat×List Nat):=
 (some [(nf 4616189618054758400),(nf 4607182418800017408),(nf 4607182418800017408),(nf 4613937818241073152)]).bind fun t1=>
 (some [(nf 4598175219545276416)]).bind fun t2=>
 (some [(nf 4616189618054758400),(nf 4613374868287651840)]).bind fun t3=>
 some (2,2,t1,2,t2,t3)
def T_matrix_fits (q0:Int):Option Bool:=
 cond (decide (q0≥0))
  (some (decide (q0≤48)))
  (some false)
def T_matrix_Right (q0_0:Int) (q0_1:Int) (l0_2:List Nat):Option Bool:=
 (T_matrix_fits q0_0).bind fun t1=>
 cond t1
  ((T_matrix_fits q0_1).bind fun t2=>
   cond t2
    ((some ((l0_2.length:Nat):Int)).bind fun t3=>
     some (t3==(i64.wrap (q0_0*q0_1))))
    (some false))
  (some false)
def T_refine_fit (q0_0:Int) (q0_1:Int) (l0_2:List Nat) (l1:List Nat) (l2:List Nat):Option Bool:=
 (T_matrix_Right q0_0 q0_1 l0_2).bind fun t1=>
 cond t1
  ((some ((l1.length:Nat):Int)).bind fun t2=>
   cond (t2==q0_1)
    ((some ((l2.length:Nat):Int)).bind fun t3=>
     some (t3==q0_0))
    (some false))
  (some false)
def T_refine_finite_b7 (t4:Int) (t3:List Nat):Int→Option (Int⊕(Unit⊕Bool)):=fun st=>match st with
| t5 =>
 cond (decide (t5<t4))
  ((atI t3 t5).bind fun t6=>
   (some (fsub t6 t6)).bind fun t7=>
   (some (!feq t7 (nf 0))).bind fun t8=>
   cond t8
    (some (.inr (.inr false)))
    (some (.inl (i64.wrap (t5+1)))))
  (some (.inr (.inl ())))
def T_refine_finite_b5 (t1:Int) (l0:List (List Nat)):Int→Option (Int⊕(Unit⊕Bool)):=fun st=>match st with
| t2 =>
 cond (decide (t2<t1))
  ((atI l0 t2).bind fun t3=>
   (some ((t3.length:Nat):Int)).bind fun t4=>
   ((iter (T_refine_finite_b7 t4 t3) FU 0:Option (Unit⊕Bool))).bind fun o=>match o with
   | .inl ()=>some (.inl (i64.wrap (t2+1)))
   | .inr v=>some (.inr (.inr v)))
  (some (.inr (.inl ())))
def T_refine_finite (l0:List (List Nat)):Option Bool:=
 (some ((l0.length:Nat):Int)).bind fun t1=>
 ((iter (T_refine_finite_b5 t1 l0) FU 0:Option (Unit⊕Bool))).bind fun o=>match o with
 | .inl ()=>some true
 | .inr v=>some v
def T_math_IsNaN (p0:Nat):Option Bool:=
 (some (!feq p0 p0)).bind fun t1=>
 some t1
def T_math_Float64bits (p0:Nat):Option Int:=
 cond (isNaN p0) none (some (p0:Int))
def T_math_Float64frombits (q0:Int):Option Nat:=
 some (nf q0.toNat)
def T_math_Abs (p0:Nat):Option Nat:=
 some (nf (magF p0))
def T_math_IsInf (p0:Nat) (q1:Int):Option Bool:=
 (cond (q1==0)
   ((T_math_Abs p0).bind fun t2=>
    some t2)
   ((cond (decide (q1<0))
      ((some (nf (fneg p0))).bind fun t4=>
       some t4)
      (some p0)).bind fun t3=>
    some t3)).bind fun t1=>
 (some (fgt t1 (nf 9218868437227405311))).bind fun t5=>
 some t5
def T_sums_finite_b2 (t1:Int) (l0:List Nat):Int→Option (Int⊕(Unit⊕Bool)):=fun st=>match st with
| t2 =>
 cond (decide (t2<t1))
  ((atI l0 t2).bind fun t3=>
   (T_math_IsNaN t3).bind fun t4=>
   cond (!t4)
    ((T_math_IsInf t3 0).bind fun t5=>
     cond t5
      (some (.inr (.inr false)))
      (some (.inl (i64.wrap (t2+1)))))
    (some (.inr (.inr false))))
  (some (.inr (.inl ())))
def T_sums_finite (l0:List Nat):Option Bool:=
 (some ((l0.length:Nat):Int)).bind fun t1=>
 ((iter (T_sums_finite_b2 t1 l0) FU 0:Option (Unit⊕Bool))).bind fun o=>match o with
 | .inl ()=>some true
 | .inr v=>some v
def T_bits_Kind (p0:Nat):Option Int:=
 (T_math_Abs p0).bind fun t1=>
 (some (!feq p0 p0)).bind fun t2=>
 cond t2
  (some 4)
  ((T_math_IsInf p0 0).bind fun t3=>
   cond t3
    (some 3)
    ((some (fgt t1 (nf 4503599627370496)||feq t1 (nf 4503599627370496))).bind fun t4=>
     cond t4
      (some 2)
      ((some (fgt t1 (nf 0))).bind fun t5=>
       cond t5
        (some 1)
        (some 0))))
def T_math_Signbit (p0:Nat):Option Bool:=
 cond (isNaN p0) none (some (negF p0))
def T_math_normalize (p0:Nat):Option (Nat×Int):=
 (T_math_Abs p0).bind fun t1=>
 (some (flt t1 (nf 4503599627370496))).bind fun t2=>
 cond t2
  ((some (fmul p0 (nf 4841369599423283200))).bind fun t3=>
   some (t3,(-52)))
  (some (p0,0))
def T_math_frexp (p0:Nat):Option (Nat×Int):=
 (some (feq p0 (nf 0))).bind fun t1=>
 cond t1
  (some (p0,0))
  ((T_math_IsInf p0 0).bind fun t2=>
   cond (!t2)
    ((T_math_IsNaN p0).bind fun t3=>
     cond t3
      (some (p0,0))
      ((T_math_normalize p0).bind fun o=>match o with
       | (t4,t5)=>
       (T_math_Float64bits t4).bind fun t6=>
       (T_math_Float64frombits (u64.wrap (BitVec.ofInt u64.bits (u64.wrap (BitVec.ofInt u64.bits t6 &&& ~~~BitVec.ofInt u64.bits 9218868437227405312).toNat) ||| BitVec.ofInt u64.bits 4602678819172646912).toNat)).bind fun t7=>
       some (t7,(i64.wrap (t5+(i64.wrap ((i64.wrap ((i64.wrap (u64.wrap (BitVec.ofInt u64.bits (t6.fdiv (2^(min (52:Int).toNat u64.bits))) &&& BitVec.ofInt u64.bits 2047).toNat))-1023))+1)))))))
    (some (p0,0)))
def T_math_Frexp (p0:Nat):Option (Nat×Int):=
 (T_math_frexp p0).bind fun o=>match o with
 | (t1,t2)=>
 some (t1,t2)
def T_math_Copysign (p0:Nat) (p1:Nat):Option Nat:=
 cond (isNaN p1) none (some (nf ((if negF p1 then 9223372036854775808 else 0)+magF p0)))
def T_math_Inf (q0:Int):Option Nat:=
 (cond (decide (q0≥0))
   (some 9218868437227405312)
   (some 18442240474082181120)).bind fun t1=>
 (T_math_Float64frombits t1).bind fun t2=>
 some t2
def T_math_ldexp (p0:Nat) (q1:Int):Option Nat:=
 (some (feq p0 (nf 0))).bind fun t1=>
 cond t1
  (some p0)
  (((T_math_IsInf p0 0).bind fun t3=>
    cond (!t3)
     ((T_math_IsNaN p0).bind fun t4=>
      some t4)
     (some true)).bind fun t2=>
   cond t2
    (some p0)
    ((T_math_normalize p0).bind fun o=>match o with
     | (t5,t6)=>
     (T_math_Float64bits t5).bind fun t7=>
     cond (decide ((i64.wrap ((i64.wrap (q1+t6))+(i64.wrap ((i64.wrap (BitVec.ofInt i64.bits (i64.wrap (t7.fdiv (2^(min (52:Int).toNat u64.bits)))) &&& BitVec.ofInt i64.bits 2047).toNat)-1023))))<(-1075)))
      ((T_math_Copysign (nf 0) t5).bind fun t8=>
       some t8)
      (cond (decide ((i64.wrap ((i64.wrap (q1+t6))+(i64.wrap ((i64.wrap (BitVec.ofInt i64.bits (i64.wrap (t7.fdiv (2^(min (52:Int).toNat u64.bits)))) &&& BitVec.ofInt i64.bits 2047).toNat)-1023))))>1023))
        ((some (flt t5 (nf 0))).bind fun t9=>
         cond t9
          ((T_math_Inf (-1)).bind fun t10=>
           some t10)
          ((T_math_Inf 1).bind fun t11=>
           some t11))
        ((cond (decide ((i64.wrap ((i64.wrap (q1+t6))+(i64.wrap ((i64.wrap (BitVec.ofInt i64.bits (i64.wrap (t7.fdiv (2^(min (52:Int).toNat u64.bits)))) &&& BitVec.ofInt i64.bits 2047).toNat)-1023))))<(-1022)))
           (some ((i64.wrap ((i64.wrap ((i64.wrap (q1+t6))+(i64.wrap ((i64.wrap (BitVec.ofInt i64.bits (i64.wrap (t7.fdiv (2^(min (52:Int).toNat u64.bits)))) &&& BitVec.ofInt i64.bits 2047).toNat)-1023))))+53)),(nf 4368491638549381120)))
           (some ((i64.wrap ((i64.wrap (q1+t6))+(i64.wrap ((i64.wrap (BitVec.ofInt i64.bits (i64.wrap (t7.fdiv (2^(min (52:Int).toNat u64.bits)))) &&& BitVec.ofInt i64.bits 2047).toNat)-1023)))),(nf 4607182418800017408)))).bind fun o=>match o with
         | (t12,t13)=>
         (T_math_Float64frombits (u64.wrap (BitVec.ofInt u64.bits (u64.wrap (BitVec.ofInt u64.bits t7 &&& ~~~BitVec.ofInt u64.bits 9218868437227405312).toNat) ||| BitVec.ofInt u64.bits (u64.wrap ((u64.wrap (i64.wrap (t12+1023)))*2^(min (52:Int).toNat u64.bits)))).toNat)).bind fun t14=>
         (some (fmul t13 t14)).bind fun t15=>
         some t15))))
def T_math_Ldexp (p0:Nat) (q1:Int):Option Nat:=
 (T_math_ldexp p0 q1).bind fun t1=>
 some t1
def T_math_bits_TrailingZeros64 (q0:Int):Option Int:=
 some (tz64 q0)
def T_bits_Split (p0:Nat):Option (Bool×Int×Int×Bool):=
 (T_bits_Kind p0).bind fun t1=>
 cond (decide (t1>2))
  (some (false,0,0,false))
  ((T_math_Signbit p0).bind fun t2=>
   (some (feq p0 (nf 0))).bind fun t3=>
   cond t3
    (some (t2,0,0,true))
    ((T_math_Abs p0).bind fun t4=>
     (T_math_Frexp t4).bind fun o=>match o with
     | (t5,t6)=>
     (T_math_Ldexp t5 53).bind fun t7=>
     (f2i t7 .u64).bind fun t8=>
     (T_math_bits_TrailingZeros64 t8).bind fun t9=>
     (nn t9).bind fun t10=>
     some (t2,(t8.fdiv (2^(min t9.toNat u64.bits))),(i64.wrap ((i64.wrap (t6-53))+t9)),true)))
def T_dyad_Of (p0:Nat):Option (Bool×List Int×Int×Int):=
 (T_bits_Split p0).bind fun o=>match o with
 | (t1,t2,t3,t4)=>
 cond (!t4)
  (some (false,([]:List Int),0,5))
  (cond (t2==0)
    (some (false,([]:List Int),0,0))
    ((some [t2]).bind fun t5=>
     some (t1,t5,t3,0)))
def T_dyad_Right (q0_0:Bool) (l0_1:List Int) (q0_2:Int):Option Bool:=
 (some ((l0_1.length:Nat):Int)).bind fun t1=>
 cond (t1==0)
  (cond (!q0_0)
    (some (q0_2==0))
    (some false))
  (cond (decide (t1≤256))
    ((atI l0_1 (i64.wrap (t1-1))).bind fun t2=>
     cond (t2 != 0)
      ((atI l0_1 0).bind fun t3=>
       cond ((u64.wrap (BitVec.ofInt u64.bits t3 &&& BitVec.ofInt u64.bits 1).toNat)==1)
        (cond (decide (((-65536):Int)≤q0_2))
          (some (decide (q0_2≤65536)))
          (some false))
        (some false))
      (some false))
    (some false))
def T_dyad_both (q0_0:Bool) (l0_1:List Int) (q0_2:Int) (q1_0:Bool) (l1_1:List Int) (q1_2:Int):Option Bool:=
 (T_dyad_Right q0_0 l0_1 q0_2).bind fun t1=>
 cond t1
  ((T_dyad_Right q1_0 l1_1 q1_2).bind fun t2=>
   some t2)
  (some false)
def T_dyad_whole_b2 (t1:Int) (l0_1:List Int):(Int×Int)→Option ((Int×Int)⊕(Int)):=fun st=>match st with
| (t3, t4) =>
 cond (decide (t3<t1))
  ((bigLsh t4 64).bind fun t5=>
   (some ((l0_1.length:Nat):Int)).bind fun t6=>
   (atI l0_1 (i64.wrap ((i64.wrap (t6-1))-t3))).bind fun t7=>
   (bigSetUint64 t7).bind fun t8=>
   (bigOr t5 t8).bind fun t9=>
   some (.inl ((i64.wrap (t3+1)),t9)))
  (some (.inr t4))
def T_dyad_whole (q0_0:Bool) (l0_1:List Int) (q0_2:Int):Option Int:=
 (some ((l0_1.length:Nat):Int)).bind fun t1=>
 (iter (T_dyad_whole_b2 t1 l0_1) FU (0,0)).bind fun t2=>
 (cond q0_0
   ((bigNeg t2).bind fun t11=>
    some t11)
   (some t2)).bind fun t10=>
 some t10
def T_dyad_limbs_b2 (t2:Int):(Int×Int×List Int)→Option ((Int×Int×List Int)⊕(List Int)):=fun st=>match st with
| (t4, t5, t6) =>
 (bigSign t5).bind fun t7=>
 cond (decide (t7>0))
  ((bigAnd t5 t2).bind fun t8=>
   (bigUint64 t8).bind fun t9=>
   (some [t9]).bind fun t10=>
   (appL t6 t10).bind fun t11=>
   (bigRsh t5 64).bind fun t12=>
   some (.inl (t8,t12,t11)))
  (some (.inr t6))
def T_dyad_limbs (y0:Int):Option (List Int):=
 (bigAbs y0).bind fun t1=>
 (bigSetUint64 18446744073709551615).bind fun t2=>
 (iter (T_dyad_limbs_b2 t2) FU (0,t1,([]:List Int))).bind fun t3=>
 some t3
def T_dyad_made (y0:Int) (q1:Int):Option (Bool×List Int×Int×Int):=
 (bigSign y0).bind fun t1=>
 cond (t1==0)
  (some (false,([]:List Int),0,0))
  ((bigTrailingZeroBits y0).bind fun t2=>
   cond (decide (q1>65536))
    (some (false,([]:List Int),0,3))
    (cond (decide (q1<(i64.wrap ((-65536)-(i64.wrap t2)))))
      (some (false,([]:List Int),0,3))
      (cond (decide ((i64.wrap (q1+(i64.wrap t2)))>65536))
        (some (false,([]:List Int),0,3))
        ((bigBitLen y0).bind fun t3=>
         cond (decide ((i64.wrap (t3-(i64.wrap t2)))>16384))
          (some (false,([]:List Int),0,3))
          ((bigSign y0).bind fun t4=>
           (bigAbs y0).bind fun t5=>
           (bigRsh t5 (u64.wrap (i64.wrap t2))).bind fun t6=>
           (T_dyad_limbs t6).bind fun t7=>
           some ((decide (t4<0)),t7,(i64.wrap (q1+(i64.wrap t2))),0))))))
def T_dyad_Mul (q0_0:Bool) (l0_1:List Int) (q0_2:Int) (q1_0:Bool) (l1_1:List Int) (q1_2:Int):Option (Bool×List Int×Int×Int):=
 (T_dyad_both q0_0 l0_1 q0_2 q1_0 l1_1 q1_2).bind fun t1=>
 cond (!t1)
  (some (false,([]:List Int),0,2))
  ((T_dyad_whole q0_0 l0_1 q0_2).bind fun t2=>
   (T_dyad_whole q1_0 l1_1 q1_2).bind fun t3=>
   (bigMul t2 t3).bind fun t4=>
   (T_dyad_made t4 (i64.wrap (q0_2+q1_2))).bind fun o=>match o with
   | (t5,t6,t7,t8)=>
   some (t5,t6,t7,t8))
def T_sums_DotExact_1 (q0:Int) (l1:List Nat) (l2:List Nat):Option (Bool×List Int×Int):=
 (atI l1 q0).bind fun t1=>
 (T_dyad_Of t1).bind fun o=>match o with
 | (t2,t3,t4,t5)=>
 (atI l2 q0).bind fun t6=>
 (T_dyad_Of t6).bind fun o=>match o with
 | (t7,t8,t9,t10)=>
 (T_dyad_Mul t2 t3 t4 t7 t8 t9).bind fun o=>match o with
 | (t11,t12,t13,t14)=>
 some (t11,t12,t13)
def T_bn_NewInt (q0:Int):Option Int:=
 (bigSetInt64 q0).bind fun t1=>
 some t1
def T_dyad_Int (q0:Int):Option (Bool×List Int×Int):=
 (T_bn_NewInt q0).bind fun t1=>
 (T_dyad_made t1 0).bind fun o=>match o with
 | (t2,t3,t4,t5)=>
 some (t2,t3,t4)
def T_dyad_Add (q0_0:Bool) (l0_1:List Int) (q0_2:Int) (q1_0:Bool) (l1_1:List Int) (q1_2:Int):Option (Bool×List Int×Int×Int):=
 (T_dyad_both q0_0 l0_1 q0_2 q1_0 l1_1 q1_2).bind fun t1=>
 cond (!t1)
  (some (false,([]:List Int),0,2))
  ((T_dyad_whole q0_0 l0_1 q0_2).bind fun t2=>
   (T_dyad_whole q1_0 l1_1 q1_2).bind fun t3=>
   ((bigSign t2).bind fun t5=>
    cond (!(t5==0))
     ((bigSign t3).bind fun t6=>
      some (t6==0))
     (some true)).bind fun t4=>
   cond t4
    ((bigAdd t2 t3).bind fun t7=>
     (T_dyad_made t7 (i64.wrap (q0_2+q1_2))).bind fun o=>match o with
     | (t8,t9,t10,t11)=>
     some (t8,t9,t10,t11))
    ((cond (decide (q0_2<q1_2))
       (some (q0_0,q0_2,q1_0,q1_2,t3,t2,l0_1,l1_1))
       (some (q1_0,q1_2,q0_0,q0_2,t2,t3,l1_1,l0_1))).bind fun o=>match o with
     | (t12,t13,t14,t15,t16,t17,t18,t19)=>
     cond (decide ((i64.wrap (t15-t13))>16385))
      (some (false,([]:List Int),0,3))
      ((bigLsh t16 (u64.wrap (i64.wrap (t15-t13)))).bind fun t20=>
       (bigAdd t20 t17).bind fun t21=>
       (T_dyad_made t21 t13).bind fun o=>match o with
       | (t22,t23,t24,t25)=>
       some (t22,t23,t24,t25))))
def T_sums_total_b2 (q0:Int) (f1:Int→Option (Bool×List Int×Int)):(Int×Bool×Int×List Int)→Option ((Int×Bool×Int×List Int)⊕((Bool×Int×List Int))):=fun st=>match st with
| (t7, t8, t9, t10) =>
 cond (decide (t7<q0))
  ((f1 t7).bind fun o=>match o with
   | (t11,t12,t13)=>
   (T_dyad_Add t8 t10 t9 t11 t12 t13).bind fun o=>match o with
   | (t14,t15,t16,t17)=>
   some (.inl ((i64.wrap (t7+1)),t14,t16,t15)))
  (some (.inr (t8,t9,t10)))
def T_sums_total (q0:Int) (f1:Int→Option (Bool×List Int×Int)):Option (Bool×List Int×Int):=
 (T_dyad_Int 0).bind fun o=>match o with
 | (t1,t2,t3)=>
 (iter (T_sums_total_b2 q0 f1) FU (0,t1,t3,t2)).bind fun o=>match o with
 | (t4,t5,t6)=>some (t4,t6,t5)
def T_math_bits_Len64 (q0:Int):Option Int:=
 cond (decide (0≤q0∧q0≤18446744073709551615)) (some ((blN q0.toNat:Nat):Int)) none
def T_dyad_top (q0_0:Bool) (l0_1:List Int) (q0_2:Int):Option Int:=
 (some ((l0_1.length:Nat):Int)).bind fun t1=>
 (atI l0_1 (i64.wrap (t1-1))).bind fun t2=>
 (T_math_bits_Len64 t2).bind fun t3=>
 some (i64.wrap ((i64.wrap (q0_2+(i64.wrap (64*(i64.wrap (t1-1))))))+t3))
def T_dyad_away (q0:Int) (q1:Bool) (q2:Int) (q3:Bool):Option Bool:=
 cond (q0==1)
  (some q1)
  (cond (q0==2)
    (some (!q1))
    (cond (q0==3)
      (some false)
      (cond (!(decide (q2>0)))
        (cond (q2==0)
          (some q3)
          (some false))
        (some true))))
def T_bits_Join (q0_0:Bool) (q0_1:Int) (q0_2:Int):Option (Nat×Bool):=
 (T_math_bits_Len64 q0_1).bind fun t1=>
 (cond (q0_1==0)
   (cond (!(q0_2 != 0))
     (cond (q0_1 != 0)
       (some ((q0_1.tmod 2)==0))
       (some false))
     (some true))
   (cond (q0_1 != 0)
     (some ((q0_1.tmod 2)==0))
     (some false))).bind fun t2=>
 cond t2
  (some ((nf 0),false))
  ((cond (!(decide (t1>53)))
     (cond (!(decide (q0_2>1024)))
       (cond (!(decide (q0_2<(-1074))))
         (cond (q0_1 != 0)
           (some (decide ((i64.wrap (q0_2+t1))>1024)))
           (some false))
         (some true))
       (some true))
     (some true)).bind fun t3=>
   cond t3
    (some ((nf 0),false))
    ((T_math_Ldexp (nf (FloatKind.f64.nearest q0_1)) q0_2).bind fun t4=>
     (cond q0_0
       ((T_math_Copysign t4 (nf 13830554455654793216)).bind fun t6=>
        some t6)
       (some t4)).bind fun t5=>
     some (t5,true)))
def T_bits_Place (p0:Nat):Option (Int×Bool):=
 (some (!feq p0 p0)).bind fun t1=>
 cond t1
  (some (0,false))
  ((T_math_Abs p0).bind fun t2=>
   (T_math_Float64bits t2).bind fun t3=>
   (some (flt p0 (nf 0))).bind fun t4=>
   (cond t4
     (some (i64.wrap (0-(i64.wrap t3))))
     (some (i64.wrap t3))).bind fun t5=>
   some (t5,true))
def T_bits_At (q0:Int):Option (Nat×Bool):=
 cond (!(decide (q0>9218868437227405312)))
  (cond (decide (q0<(-9218868437227405312)))
    (some ((nf 0),false))
    (cond (decide (q0<0))
      ((T_math_Float64frombits (u64.wrap (i64.wrap (0-q0)))).bind fun t1=>
       (some (nf (fneg t1))).bind fun t2=>
       some (t2,true))
      ((T_math_Float64frombits (u64.wrap q0)).bind fun t3=>
       some (t3,true))))
  (some ((nf 0),false))
def T_bits_Next (p0:Nat) (q1:Bool):Option Nat:=
 (T_bits_Place p0).bind fun o=>match o with
 | (t1,t2)=>
 cond (!t2)
  (some p0)
  ((cond q1
     (some (if 9218868437227405312<(i64.wrap (t1+1)) then 9218868437227405312 else (i64.wrap (t1+1))))
     (some (if (-9218868437227405312)>(i64.wrap (t1-1)) then (-9218868437227405312) else (i64.wrap (t1-1))))).bind fun t3=>
   (T_bits_At t3).bind fun o=>match o with
   | (t4,t5)=>
   some t4)
def T_dyad_float (q0:Bool) (q1:Int) (q2:Int) (q3:Int):Option Nat:=
 (cond (decide (q1>0))
   ((T_math_bits_TrailingZeros64 q1).bind fun t3=>
    (nn t3).bind fun t4=>
    some ((q1.fdiv (2^(min t3.toNat u64.bits))),(i64.wrap (q2+t3))))
   (some (0,0))).bind fun o=>match o with
 | (t1,t2)=>
 (T_math_bits_Len64 t1).bind fun t5=>
 cond (decide ((i64.wrap (t5+t2))>1024))
  ((T_bits_Join q0 9007199254740991 971).bind fun o=>match o with
   | (t6,t7)=>
   cond (!(q3==3))
    (cond (q3==1)
      (cond (!(!q0))
        (cond (q3==2)
          (cond q0
            (some t6)
            ((T_bits_Next t6 (!q0)).bind fun t8=>
             some t8))
          ((T_bits_Next t6 (!q0)).bind fun t9=>
           some t9))
        (some t6))
      (cond (q3==2)
        (cond q0
          (some t6)
          ((T_bits_Next t6 (!q0)).bind fun t10=>
           some t10))
        ((T_bits_Next t6 (!q0)).bind fun t11=>
         some t11)))
    (some t6))
  ((T_bits_Join q0 t1 t2).bind fun o=>match o with
   | (t12,t13)=>
   some t12)
def T_dyad_Round (q0_0:Bool) (l0_1:List Int) (q0_2:Int) (q1:Int):Option (Nat×Int):=
 (T_dyad_Right q0_0 l0_1 q0_2).bind fun t1=>
 cond (!t1)
  (some ((nf 0),2))
  ((some ((l0_1.length:Nat):Int)).bind fun t2=>
   cond (t2==0)
    (some ((nf 0),0))
    ((T_dyad_whole q0_0 l0_1 q0_2).bind fun t3=>
     (bigAbs t3).bind fun t4=>
     (T_dyad_top q0_0 l0_1 q0_2).bind fun t5=>
     (cond (decide ((i64.wrap ((if (-1074)>(i64.wrap (t5-53)) then (-1074) else (i64.wrap (t5-53)))-q0_2))≤0))
       ((bigLsh t4 (u64.wrap (i64.wrap (0-(i64.wrap ((if (-1074)>(i64.wrap (t5-53)) then (-1074) else (i64.wrap (t5-53)))-q0_2)))))).bind fun t7=>
        (bigUint64 t7).bind fun t8=>
        some t8)
       ((bigRsh t4 (u64.wrap (i64.wrap ((if (-1074)>(i64.wrap (t5-53)) then (-1074) else (i64.wrap (t5-53)))-q0_2)))).bind fun t9=>
        (bigUint64 t9).bind fun t10=>
        (bigLsh t9 (u64.wrap (i64.wrap ((if (-1074)>(i64.wrap (t5-53)) then (-1074) else (i64.wrap (t5-53)))-q0_2)))).bind fun t11=>
        (bigSub t4 t11).bind fun t12=>
        (T_bn_NewInt 1).bind fun t13=>
        (bigLsh t13 (u64.wrap (i64.wrap ((i64.wrap ((if (-1074)>(i64.wrap (t5-53)) then (-1074) else (i64.wrap (t5-53)))-q0_2))-1)))).bind fun t14=>
        (bigCmp t12 t14).bind fun t15=>
        (bigSign t12).bind fun t16=>
        cond (decide (t16>0))
         ((T_dyad_away q1 q0_0 t15 ((u64.wrap (BitVec.ofInt u64.bits t10 &&& BitVec.ofInt u64.bits 1).toNat)==1)).bind fun t17=>
          (cond t17
            (some (u64.wrap (t10+1)))
            (some t10)).bind fun t18=>
          some t18)
         ((some t10).bind fun t19=>
          some t19))).bind fun t6=>
     (T_dyad_float q0_0 t6 (if (-1074)>(i64.wrap (t5-53)) then (-1074) else (i64.wrap (t5-53))) q1).bind fun t20=>
     some (t20,0)))
def T_sums_DotExact (l0:List Nat) (l1:List Nat) (q2:Int):Option (Nat×Int):=
 (some ((l0.length:Nat):Int)).bind fun t1=>
 (some ((l1.length:Nat):Int)).bind fun t2=>
 cond (t1 != t2)
  (some ((nf 0),4))
  ((T_sums_finite l0).bind fun t3=>
   cond (!(!t3))
    ((T_sums_finite l1).bind fun t4=>
     cond (!t4)
      (some ((nf 0),5))
      ((some ((l0.length:Nat):Int)).bind fun t5=>
       (T_sums_total t5 (fun v0=>T_sums_DotExact_1 v0 l0 l1)).bind fun o=>match o with
       | (t6,t7,t8)=>
       (T_dyad_Round t6 t7 t8 q2).bind fun o=>match o with
       | (t9,t10)=>
       some (t9,t10)))
    (some ((nf 0),5)))
def T_refine_Left_b9 (t12:Int) (t11:List Nat):(Int×List Nat)→Option ((Int×List Nat)⊕(List Nat)):=fun st=>match st with
| (t14, t15) =>
 cond (decide (t14<t12))
  ((atI t11 t14).bind fun t16=>
   (some (nf (fneg t16))).bind fun t17=>
   (some [t17]).bind fun t18=>
   (appL t15 t18).bind fun t19=>
   some (.inl ((i64.wrap (t14+1)),t19)))
  (some (.inr t15))
def T_refine_Left_b7 (q0_0:Int) (l2:List Nat) (l0_2:List Nat) (q0_1:Int) (t5:List Nat):(Int×List Nat)→Option ((Int×List Nat)⊕(List Nat)):=fun st=>match st with
| (t7, t8) =>
 cond (decide (t7<q0_0))
  ((atI l2 t7).bind fun t9=>
   (some [t9]).bind fun t10=>
   (subL l0_2 (i64.wrap (t7*q0_1)) (i64.wrap ((i64.wrap (t7+1))*q0_1))).bind fun t11=>
   (some ((t11.length:Nat):Int)).bind fun t12=>
   (iter (T_refine_Left_b9 t12 t11) FU (0,t10)).bind fun t13=>
   (T_sums_DotExact t13 t5 0).bind fun o=>match o with
   | (t20,t21)=>
   (some [t20]).bind fun t22=>
   (appL t8 t22).bind fun t23=>
   some (.inl ((i64.wrap (t7+1)),t23)))
  (some (.inr t8))
def T_refine_Left (q0_0:Int) (q0_1:Int) (l0_2:List Nat) (l1:List Nat) (l2:List Nat):Option (List Nat×Int):=
 (T_refine_fit q0_0 q0_1 l0_2 l1 l2).bind fun t1=>
 cond (!t1)
  (some ((List.map nf []),4))
  ((some ([l0_2,l1,l2]:List (List Nat))).bind fun t2=>
   (T_refine_finite t2).bind fun t3=>
   cond (!t3)
    (some ((List.map nf []),5))
    ((some [(nf 4607182418800017408)]).bind fun t4=>
     (appL t4 l1).bind fun t5=>
     (iter (T_refine_Left_b7 q0_0 l2 l0_2 q0_1 t5) FU (0,(List.map nf []))).bind fun t6=>
     (some ([t6]:List (List Nat))).bind fun t24=>
     (T_refine_finite t24).bind fun t25=>
     cond (!t25)
      (some ((List.map nf []),6))
      (some (t6,0))))
def T_lower_Right (q0_0:Int) (l0_1:List Nat) (l0_2:List Nat):Option Bool:=
 cond (decide (q0_0≥0))
  (cond (decide (q0_0≤48))
    ((some ((l0_1.length:Nat):Int)).bind fun t1=>
     cond (t1==(i64.wrap ((i64.wrap (q0_0*(i64.wrap (q0_0-1)))).tdiv 2)))
      ((some ((l0_2.length:Nat):Int)).bind fun t2=>
       some (t2==q0_0))
      (some false))
    (some false))
  (some false)
def T_refine_fits (q0_0:Int) (q0_1:Int) (l0_2:List Nat) (q1_0:Int) (l1_1:List Nat) (l1_2:List Nat):Option Bool:=
 (T_matrix_Right q0_0 q0_1 l0_2).bind fun t1=>
 cond t1
  ((T_lower_Right q1_0 l1_1 l1_2).bind fun t2=>
   cond t2
    (cond (q0_0==q1_0)
      (some (q0_1==q1_0))
      (some false))
    (some false))
  (some false)
def T_solve_fits (q0_0:Int) (l0_1:List Nat) (l0_2:List Nat) (q1:Int):Option Int:=
 (T_lower_Right q0_0 l0_1 l0_2).bind fun t1=>
 cond (!(!t1))
  (cond (q1 != q0_0)
    (some 4)
    (some 0))
  (some 4)
def T_slices_Clone___float64_float64 (l0:List Nat):Option (List Nat):=
 cond (decide (l0.length≤4294967296)) (some l0) none
def T_solve_below (q0_0:Int) (l0_1:List Nat) (l0_2:List Nat) (q1:Int) (q2:Int):Option Nat:=
 (atI l0_1 (i64.wrap ((i64.wrap ((i64.wrap (q1*(i64.wrap (q1-1)))).tdiv 2))+q2))).bind fun t1=>
 some t1
def T_solve_Forward_b9 (t6:Int) (q0_0:Int) (l0_1:List Nat) (l0_2:List Nat):(Int×List Nat)→Option ((Int×List Nat)⊕(List Nat)):=fun st=>match st with
| (t9, t10) =>
 cond (decide (t9<t6))
  ((atI t10 t6).bind fun t11=>
   (atI t10 t9).bind fun t12=>
   (T_solve_below q0_0 l0_1 l0_2 t6 t9).bind fun t13=>
   (some (fmul t13 t12)).bind fun t14=>
   (some (fsub t11 t14)).bind fun t15=>
   (atI t10 t6).bind fun t16=>
   (some (t10.set (t6).toNat t15)).bind fun t17=>
   some (.inl ((i64.wrap (t9+1)),t17)))
  (some (.inr t10))
def T_solve_Forward_b7 (t4:Int) (q0_0:Int) (l0_1:List Nat) (l0_2:List Nat):(Int×List Nat)→Option ((Int×List Nat)⊕(List Nat)):=fun st=>match st with
| (t6, t7) =>
 cond (decide (t6<t4))
  ((iter (T_solve_Forward_b9 t6 q0_0 l0_1 l0_2) FU (0,t7)).bind fun t8=>
   some (.inl ((i64.wrap (t6+1)),t8)))
  (some (.inr t7))
def T_solve_Forward (q0_0:Int) (l0_1:List Nat) (l0_2:List Nat) (l1:List Nat):Option (List Nat×Int):=
 (some ((l1.length:Nat):Int)).bind fun t1=>
 (T_solve_fits q0_0 l0_1 l0_2 t1).bind fun t2=>
 cond (t2 != 0)
  (some ((List.map nf []),t2))
  ((T_slices_Clone___float64_float64 l1).bind fun t3=>
   (some ((t3.length:Nat):Int)).bind fun t4=>
   (iter (T_solve_Forward_b7 t4 q0_0 l0_1 l0_2) FU (0,t3)).bind fun t5=>
   some (t5,0))
def T_slices_Index___float64_float64_b2 (t1:Int) (l0:List Nat) (p1:Nat):Int→Option (Int⊕(Unit⊕Int)):=fun st=>match st with
| t2 =>
 cond (decide (t2<t1))
  ((atI l0 t2).bind fun t3=>
   (some (feq p1 t3)).bind fun t4=>
   cond t4
    (some (.inr (.inr t2)))
    (some (.inl (i64.wrap (t2+1)))))
  (some (.inr (.inl ())))
def T_slices_Index___float64_float64 (l0:List Nat) (p1:Nat):Option Int:=
 (some ((l0.length:Nat):Int)).bind fun t1=>
 ((iter (T_slices_Index___float64_float64_b2 t1 l0 p1) FU 0:Option (Unit⊕Int))).bind fun o=>match o with
 | .inl ()=>some (-1)
 | .inr v=>some v
def T_slices_Contains___float64_float64 (l0:List Nat) (p1:Nat):Option Bool:=
 (T_slices_Index___float64_float64 l0 p1).bind fun t1=>
 some (decide (t1≥0))
def T_solve_Back_b2 (t5:Int) (l0_2:List Nat):(Int×List Nat)→Option ((Int×List Nat)⊕(List Nat)):=fun st=>match st with
| (t7, t8) =>
 cond (decide (t7<t5))
  ((atI l0_2 t7).bind fun t9=>
   (atI t8 t7).bind fun t10=>
   (some (fdiv t10 t9)).bind fun t11=>
   (atI t8 t7).bind fun t12=>
   (some (t8.set (t7).toNat t11)).bind fun t13=>
   some (.inl ((i64.wrap (t7+1)),t13)))
  (some (.inr t8))
def T_solve_Back_b11 (t18:Int) (t16:Int) (q0_0:Int) (l0_1:List Nat) (l0_2:List Nat):(Int×List Nat)→Option ((Int×List Nat)⊕(List Nat)):=fun st=>match st with
| (t20, t21) =>
 (some ((t21.length:Nat):Int)).bind fun t22=>
 cond (decide (t20<t22))
  ((atI t21 (i64.wrap ((i64.wrap (t18-1))-t16))).bind fun t23=>
   (atI t21 t20).bind fun t24=>
   (T_solve_below q0_0 l0_1 l0_2 t20 (i64.wrap ((i64.wrap (t18-1))-t16))).bind fun t25=>
   (some (fmul t25 t24)).bind fun t26=>
   (some (fsub t23 t26)).bind fun t27=>
   (atI t21 (i64.wrap ((i64.wrap (t18-1))-t16))).bind fun t28=>
   (some (t21.set ((i64.wrap ((i64.wrap (t18-1))-t16))).toNat t27)).bind fun t29=>
   some (.inl ((i64.wrap (t20+1)),t29)))
  (some (.inr t21))
def T_solve_Back_b9 (t14:Int) (q0_0:Int) (l0_1:List Nat) (l0_2:List Nat):(Int×List Nat)→Option ((Int×List Nat)⊕(List Nat)):=fun st=>match st with
| (t16, t17) =>
 cond (decide (t16<t14))
  ((some ((t17.length:Nat):Int)).bind fun t18=>
   (iter (T_solve_Back_b11 t18 t16 q0_0 l0_1 l0_2) FU ((i64.wrap ((i64.wrap ((i64.wrap (t18-1))-t16))+1)),t17)).bind fun t19=>
   some (.inl ((i64.wrap (t16+1)),t19)))
  (some (.inr t17))
def T_solve_Back (q0_0:Int) (l0_1:List Nat) (l0_2:List Nat) (l1:List Nat):Option (List Nat×Int):=
 (some ((l1.length:Nat):Int)).bind fun t1=>
 (T_solve_fits q0_0 l0_1 l0_2 t1).bind fun t2=>
 cond (t2 != 0)
  (some ((List.map nf []),t2))
  ((T_slices_Contains___float64_float64 l0_2 (nf 0)).bind fun t3=>
   cond t3
    (some ((List.map nf []),7))
    ((T_slices_Clone___float64_float64 l1).bind fun t4=>
     (some ((l0_2.length:Nat):Int)).bind fun t5=>
     (iter (T_solve_Back_b2 t5 l0_2) FU (0,t4)).bind fun t6=>
     (some ((t6.length:Nat):Int)).bind fun t14=>
     (iter (T_solve_Back_b9 t14 q0_0 l0_1 l0_2) FU (0,t6)).bind fun t15=>
     some (t15,0)))
def T_solve_Solve (q0_0:Int) (l0_1:List Nat) (l0_2:List Nat) (l1:List Nat):Option (List Nat×Int):=
 (T_solve_Forward q0_0 l0_1 l0_2 l1).bind fun o=>match o with
 | (t1,t2)=>
 cond (t2 != 0)
  (some ((List.map nf []),t2))
  ((T_solve_Back q0_0 l0_1 l0_2 t1).bind fun o=>match o with
   | (t3,t4)=>
   some (t3,t4))
def T_round_way (q0:Int):Option Int:=
 cond (!(decide (q0<0)))
  (cond (decide (q0>3))
    (some 0)
    (some q0))
  (some 0)
def T_round_finite_b2 (t1:Int) (l0:List Nat):Int→Option (Int⊕(Unit⊕Bool)):=fun st=>match st with
| t2 =>
 cond (decide (t2<t1))
  ((atI l0 t2).bind fun t3=>
   (T_math_IsNaN t3).bind fun t4=>
   cond (!t4)
    ((T_math_IsInf t3 0).bind fun t5=>
     cond t5
      (some (.inr (.inr false)))
      (some (.inl (i64.wrap (t2+1)))))
    (some (.inr (.inr false))))
  (some (.inr (.inl ())))
def T_round_finite (l0:List Nat):Option Bool:=
 (some ((l0.length:Nat):Int)).bind fun t1=>
 ((iter (T_round_finite_b2 t1 l0) FU 0:Option (Unit⊕Bool))).bind fun o=>match o with
 | .inl ()=>some true
 | .inr v=>some v
def T_round_none (q0:Int):Option Nat:=
 cond (q0==1)
  ((T_math_Copysign (nf 0) (nf 13830554455654793216)).bind fun t1=>
   some t1)
  (some (nf 0))
def T_round_step (p0:Nat) (q1:Bool):Option Nat:=
 (T_math_Float64bits p0).bind fun t1=>
 ((some (feq p0 (nf 0))).bind fun t3=>
  (cond t3
    ((cond (!q1)
       (some (u64.wrap (BitVec.ofInt u64.bits 1 ||| BitVec.ofInt u64.bits 9223372036854775808).toNat))
       (some 1)).bind fun t5=>
     some t5)
    ((some (fgt p0 (nf 0))).bind fun t6=>
     (cond (q1==t6)
       (some (u64.wrap (t1+1)))
       (some (u64.wrap (t1-1)))).bind fun t7=>
     some t7)).bind fun t4=>
  some t4).bind fun t2=>
 (T_math_Float64frombits t2).bind fun t8=>
 some t8
def T_round_settle (p0:Nat) (q1:Int) (q2:Int):Option Nat:=
 (cond (q2==3)
   ((T_math_Signbit p0).bind fun t2=>
    (cond t2
      (some 2)
      (some 1)).bind fun t3=>
    some t3)
   (some q2)).bind fun t1=>
 (T_math_IsInf p0 0).bind fun t4=>
 cond t4
  ((some (fgt p0 (nf 0))).bind fun t5=>
   cond t5
    (cond (!(t1==1))
      ((some (flt p0 (nf 0))).bind fun t6=>
       cond t6
        (cond (t1==2)
          ((T_math_Copysign (nf 9218868437227405311) p0).bind fun t7=>
           some t7)
          (some p0))
        (some p0))
      ((T_math_Copysign (nf 9218868437227405311) p0).bind fun t8=>
       some t8))
    ((some (flt p0 (nf 0))).bind fun t9=>
     cond t9
      (cond (t1==2)
        ((T_math_Copysign (nf 9218868437227405311) p0).bind fun t10=>
         some t10)
        (some p0))
      (some p0)))
  (cond (decide (q1<0))
    (cond (!(t1==1))
      (cond (decide (q1>0))
        (cond (t1==2)
          ((T_round_step p0 (decide (q1>0))).bind fun t11=>
           some t11)
          (some p0))
        (some p0))
      ((T_round_step p0 (decide (q1>0))).bind fun t12=>
       some t12))
    (cond (decide (q1>0))
      (cond (t1==2)
        ((T_round_step p0 (decide (q1>0))).bind fun t13=>
         some t13)
        (some p0))
      (some p0)))
def T_round_sign (p0:Nat):Option Int:=
 (some (fgt p0 (nf 0))).bind fun t1=>
 cond t1
  (some 1)
  ((some (flt p0 (nf 0))).bind fun t2=>
   cond t2
    (some (-1))
    (some 0))
def T_round_Add (p0:Nat) (p1:Nat) (q2:Int):Option Nat:=
 (T_round_way q2).bind fun t1=>
 (some (fadd p0 p1)).bind fun t2=>
 (some [p0,p1]).bind fun t3=>
 (T_round_finite t3).bind fun t4=>
 cond (!t4)
  (some t2)
  (((some (feq t2 (nf 0))).bind fun t6=>
    cond t6
     ((some (!feq p0 (nf 0))).bind fun t7=>
      cond (!t7)
       ((some (feq t2 (nf 0))).bind fun t8=>
        cond t8
         ((T_math_Signbit p0).bind fun t9=>
          (T_math_Signbit p1).bind fun t10=>
          some (!(t9==t10)))
         (some false))
       (some true))
     ((some (feq t2 (nf 0))).bind fun t11=>
      cond t11
       ((T_math_Signbit p0).bind fun t12=>
        (T_math_Signbit p1).bind fun t13=>
        some (!(t12==t13)))
       (some false))).bind fun t5=>
   cond t5
    ((T_round_none t1).bind fun t14=>
     some t14)
    ((some (feq t2 (nf 0))).bind fun t15=>
     cond t15
      (some t2)
      ((T_math_IsInf t2 0).bind fun t16=>
       cond t16
        ((T_round_settle t2 0 t1).bind fun t17=>
         some t17)
        ((T_math_Abs p0).bind fun t18=>
         (T_math_Abs p1).bind fun t19=>
         (some (flt t18 t19)).bind fun t20=>
         (cond t20
           (some (p1,p0))
           (some (p0,p1))).bind fun o=>match o with
         | (t21,t22)=>
         (some (fsub t2 t21)).bind fun t23=>
         (some (fsub t22 t23)).bind fun t24=>
         (T_round_sign t24).bind fun t25=>
         (T_round_settle t2 t25 t1).bind fun t26=>
         some t26))))
def T_vector_Norm_b2 (t1:Int) (l0:List Nat):(Nat×Int)→Option ((Nat×Int)⊕(Nat)):=fun st=>match st with
| (t3, t4) =>
 cond (decide (t4<t1))
  ((atI l0 t4).bind fun t5=>
   (T_math_Abs t5).bind fun t6=>
   (T_round_Add t3 t6 2).bind fun t7=>
   some (.inl (t7,(i64.wrap (t4+1)))))
  (some (.inr t3))
def T_vector_Norm (l0:List Nat):Option Nat:=
 (some ((l0.length:Nat):Int)).bind fun t1=>
 (iter (T_vector_Norm_b2 t1 l0) FU ((nf 0),0)).bind fun t2=>
 some t2
def T_vector_fit (l0:List Nat) (l1:List Nat):Option Int:=
 (some ((l0.length:Nat):Int)).bind fun t1=>
 (some ((l1.length:Nat):Int)).bind fun t2=>
 cond (t1 != t2)
  (some 4)
  ((some ((l0.length:Nat):Int)).bind fun t3=>
   cond (decide (t3>4096))
    (some 3)
    (some 0))
def T_vector_each_b2 (t4:Int) (l0:List Nat) (l1:List Nat) (f2:Nat→Nat→Option Nat):(Int×List Nat)→Option ((Int×List Nat)⊕(List Nat)):=fun st=>match st with
| (t6, t7) =>
 cond (decide (t6<t4))
  ((atI l0 t6).bind fun t8=>
   (atI l1 t6).bind fun t9=>
   (f2 t8 t9).bind fun t10=>
   (atI t7 t6).bind fun t11=>
   (some (t7.set (t6).toNat t10)).bind fun t12=>
   some (.inl ((i64.wrap (t6+1)),t12)))
  (some (.inr t7))
def T_vector_each (l0:List Nat) (l1:List Nat) (f2:Nat→Nat→Option Nat):Option (List Nat×Int):=
 (T_vector_fit l0 l1).bind fun t1=>
 cond (t1 != 0)
  (some ((List.map nf []),t1))
  ((some ((l0.length:Nat):Int)).bind fun t2=>
   (mkL (nf 0) t2 t2).bind fun t3=>
   (some ((l0.length:Nat):Int)).bind fun t4=>
   (iter (T_vector_each_b2 t4 l0 l1 f2) FU (0,t3)).bind fun t5=>
   some (t5,0))
def T_vector_Add_1 (p0:Nat) (p1:Nat):Option Nat:=
 (some (fadd p0 p1)).bind fun t1=>
 some t1
def T_vector_Add (l0:List Nat) (l1:List Nat):Option (List Nat×Int):=
 (T_vector_each l0 l1 (fun v0 v1=>T_vector_Add_1 v0 v1)).bind fun o=>match o with
 | (t1,t2)=>
 some (t1,t2)
def T_refine_Step (q0_0:Int) (q0_1:Int) (l0_2:List Nat) (q1_0:Int) (l1_1:List Nat) (l1_2:List Nat) (l2:List Nat) (l3:List Nat):Option (List Nat×Int):=
 ((T_refine_fit q0_0 q0_1 l0_2 l2 l3).bind fun t2=>
  cond (!(!t2))
   ((T_refine_fits q0_0 q0_1 l0_2 q1_0 l1_1 l1_2).bind fun t3=>
    some (!t3))
   (some true)).bind fun t1=>
 cond t1
  (some ((List.map nf []),4))
  ((T_refine_Left q0_0 q0_1 l0_2 l2 l3).bind fun o=>match o with
   | (t4,t5)=>
   cond (t5 != 0)
    (some ((List.map nf []),t5))
    ((T_solve_Solve q1_0 l1_1 l1_2 t4).bind fun o=>match o with
     | (t6,t7)=>
     cond (t7 != 0)
      (some ((List.map nf []),t7))
      ((T_vector_Add l2 t6).bind fun o=>match o with
       | (t8,t9)=>
       (some ([t8]:List (List Nat))).bind fun t10=>
       (T_refine_finite t10).bind fun t11=>
       cond (!t11)
        (some ((List.map nf []),6))
        (some (t8,0)))))
def T_refine_Until_b2 (q3:Int) (q0_0:Int) (q0_1:Int) (l0_2:List Nat) (q1_0:Int) (l1_1:List Nat) (l1_2:List Nat) (l2:List Nat):(Nat×Int×List Nat)→Option ((Nat×Int×List Nat)⊕(List Nat⊕(List Nat×Int×Int))):=fun st=>match st with
| (t15, t16, t17) =>
 cond (decide (t16<q3))
  ((T_refine_Step q0_0 q0_1 l0_2 q1_0 l1_1 l1_2 t17 l2).bind fun o=>match o with
   | (t18,t19)=>
   cond (t19 != 0)
    (some (.inr (.inr (t17,t16,0))))
    ((T_refine_Left q0_0 q0_1 l0_2 t18 l2).bind fun o=>match o with
     | (t20,t21)=>
     cond (!(t21 != 0))
      ((T_vector_Norm t20).bind fun t22=>
       (some (fgt t22 t15||feq t22 t15)).bind fun t23=>
       cond t23
        (some (.inr (.inr (t17,t16,0))))
        ((T_vector_Norm t20).bind fun t24=>
         some (.inl (t24,(i64.wrap (t16+1)),t18))))
      (some (.inr (.inr (t17,t16,0))))))
  (some (.inr (.inl t17)))
def T_refine_Until (q0_0:Int) (q0_1:Int) (l0_2:List Nat) (q1_0:Int) (l1_1:List Nat) (l1_2:List Nat) (l2:List Nat) (q3:Int):Option (List Nat×Int×Int):=
 (cond (!(decide (q3<0)))
   (some (decide (q3>64)))
   (some true)).bind fun t1=>
 cond t1
  (some ((List.map nf []),0,2))
  (((T_refine_fits q0_0 q0_1 l0_2 q1_0 l1_1 l1_2).bind fun t3=>
    cond (!(!t3))
     ((some ((l2.length:Nat):Int)).bind fun t4=>
      some (t4 != q0_0))
     (some true)).bind fun t2=>
   cond t2
    (some ((List.map nf []),0,4))
    ((some ([l0_2,l2]:List (List Nat))).bind fun t5=>
     (T_refine_finite t5).bind fun t6=>
     cond (!t6)
      (some ((List.map nf []),0,5))
      ((T_solve_Solve q1_0 l1_1 l1_2 l2).bind fun o=>match o with
       | (t7,t8)=>
       cond (t8 != 0)
        (some ((List.map nf []),0,t8))
        ((some ([t7]:List (List Nat))).bind fun t9=>
         (T_refine_finite t9).bind fun t10=>
         cond (!t10)
          (some ((List.map nf []),0,6))
          ((T_refine_Left q0_0 q0_1 l0_2 t7 l2).bind fun o=>match o with
           | (t11,t12)=>
           cond (t12 != 0)
            (some ((List.map nf []),0,t12))
            ((T_vector_Norm t11).bind fun t13=>
             ((iter (T_refine_Until_b2 q3 q0_0 q0_1 l0_2 q1_0 l1_1 l1_2 l2) FU (t13,0,t7):Option (List Nat⊕(List Nat×Int×Int)))).bind fun o=>match o with
             | .inl t14=>some (t14,q3,0)
             | .inr v=>some v))))))
def T_k_Like (p0:Nat) (p1:Nat):Option Bool:=
 (some (feq p0 p1)).bind fun t1=>
 cond (!t1)
  ((some (!feq p0 p0)).bind fun t2=>
   cond t2
    ((some (!feq p1 p1)).bind fun t3=>
     some t3)
    (some false))
  (some true)
def T_k_LikeReals_b2 (l0:List Nat) (l1:List Nat):Int→Option (Int⊕(Unit⊕Bool)):=fun st=>match st with
| t3 =>
 (some ((l0.length:Nat):Int)).bind fun t4=>
 cond (decide (t3<t4))
  ((atI l0 t3).bind fun t5=>
   (atI l1 t3).bind fun t6=>
   (T_k_Like t5 t6).bind fun t7=>
   cond (!t7)
    (some (.inr (.inr false)))
    (some (.inl (i64.wrap (t3+1)))))
  (some (.inr (.inl ())))
def T_k_LikeReals (l0:List Nat) (l1:List Nat):Option Bool:=
 (some ((l0.length:Nat):Int)).bind fun t1=>
 (some ((l1.length:Nat):Int)).bind fun t2=>
 cond (t1 != t2)
  (some false)
  (((iter (T_k_LikeReals_b2 l0 l1) FU 0:Option (Unit⊕Bool))).bind fun o=>match o with
   | .inl ()=>some true
   | .inr v=>some v)
def T_w14_awake  : Option Bool:=
 (T_w14_two ).bind fun o=>match o with
 | (t1,t2,t3,t4,t5,t6)=>
 (some [(nf 4607182418800017408),(nf 4607182418800017408)]).bind fun t7=>
 (some [(nf 4618441417868443648),(nf 4616189618054758400)]).bind fun t8=>
 (T_refine_Left t1 t2 t3 t7 t8).bind fun o=>match o with
 | (t9,t10)=>
 (some [(nf 4617315517961601024),(nf 4616189618054758400)]).bind fun t11=>
 (T_refine_Until t1 t2 t3 t4 t5 t6 t11 8).bind fun o=>match o with
 | (t12,t13,t14)=>
 (some [(nf 4607182418800017408),(nf 4607182418800017408)]).bind fun t15=>
 (some [(nf 4877398396442247168),(nf 4607182418800017408)]).bind fun t16=>
 (some [(nf 4877398396442247168)]).bind fun t17=>
 (T_refine_Left 1 2 t15 t16 t17).bind fun o=>match o with
 | (t18,t19)=>
 cond (t10==0)
  (cond (t14==0)
    (cond (t19==0)
      ((some [(nf 4607182418800017408),(nf 0)]).bind fun t20=>
       (T_k_LikeReals t9 t20).bind fun t21=>
       cond t21
        ((some ((t12.length:Nat):Int)).bind fun t22=>
         cond (t22==2)
          ((atI t12 0).bind fun t23=>
           (some (fgt t23 (nf 4607092346807469998))).bind fun t24=>
           cond t24
            ((atI t12 0).bind fun t25=>
             (some (flt t25 (nf 4607227454796291113))).bind fun t26=>
             cond t26
              (cond (decide (t13≤8))
                ((some [(nf 13830554455654793216)]).bind fun t27=>
                 (T_k_LikeReals t18 t27).bind fun t28=>
                 some t28)
                (some false))
              (some false))
            (some false))
          (some false))
        (some false))
      (some false))
    (some false))
  (some false)
def T_w14_great (q0_0:Int) (q0_1:Int) (l0_2:List Nat):Option Bool:=
 (some ((l0_2.length:Nat):Int)).bind fun t1=>
 some (decide (t1>100))
def T_k_Pick (q0:Int) (q1:Int):Option Int:=
 cond (decide (q1<1))
  (some 0)
  ((nz q1).bind fun t2=>
   (cond (decide ((q0.tmod q1)<0))
     (some (i64.wrap ((q0.tmod q1)+q1)))
     (some (q0.tmod q1))).bind fun t1=>
   some t1)
def T_w14_left (q0_0:Int) (q0_1:Int) (l0_2:List Nat) (q0_3:Int) (l0_4:List Nat) (l0_5:List Nat) (l0_6:List Nat) (l0_7:List Nat) (l1:List Nat):Option (Nat×Bool):=
 (T_refine_Left q0_0 q0_1 l0_2 l1 l0_7).bind fun o=>match o with
 | (t1,t2)=>
 (T_vector_Norm t1).bind fun t3=>
 some (t3,(t2==0))
def T_k_SameFloat (p0:Nat) (p1:Nat):Option Bool:=
 some (p0==p1)
def T_k_SameReals_b2 (l0:List Nat) (l1:List Nat):Int→Option (Int⊕(Unit⊕Bool)):=fun st=>match st with
| t3 =>
 (some ((l0.length:Nat):Int)).bind fun t4=>
 cond (decide (t3<t4))
  ((atI l0 t3).bind fun t5=>
   (atI l1 t3).bind fun t6=>
   (T_k_SameFloat t5 t6).bind fun t7=>
   cond (!t7)
    (some (.inr (.inr false)))
    (some (.inl (i64.wrap (t3+1)))))
  (some (.inr (.inl ())))
def T_k_SameReals (l0:List Nat) (l1:List Nat):Option Bool:=
 (some ((l0.length:Nat):Int)).bind fun t1=>
 (some ((l1.length:Nat):Int)).bind fun t2=>
 cond (t1 != t2)
  (some false)
  (((iter (T_k_SameReals_b2 l0 l1) FU 0:Option (Unit⊕Bool))).bind fun o=>match o with
   | .inl ()=>some true
   | .inr v=>some v)
def T_w14_RefineNever (q0_0:Int) (q0_1:Int) (l0_2:List Nat) (q0_3:Int) (l0_4:List Nat) (l0_5:List Nat) (l0_6:List Nat) (l0_7:List Nat) (q1:Int):Option Bool:=
 (T_w14_awake ).bind fun t1=>
 cond (!t1)
  (some false)
  (((T_w14_great q0_0 q0_1 l0_2).bind fun t3=>
    cond (!t3)
     ((some ((l0_7.length:Nat):Int)).bind fun t4=>
      some (decide (t4>100)))
     (some true)).bind fun t2=>
   cond t2
    (some true)
    ((T_k_Pick q1 12).bind fun t5=>
     (T_refine_Until q0_0 q0_1 l0_2 q0_3 l0_4 l0_5 l0_7 t5).bind fun o=>match o with
     | (t6,t7,t8)=>
     (T_refine_Until q0_0 q0_1 l0_2 q0_3 l0_4 l0_5 l0_7 (i64.wrap (t5+1))).bind fun o=>match o with
     | (t9,t10,t11)=>
     (cond (!(t8 != t11))
       (some (t8 != 0))
       (some true)).bind fun t12=>
     cond t12
      (cond (t8==t11)
        (cond (t7==0)
          (cond (t10==0)
            ((some ((t6.length:Nat):Int)).bind fun t13=>
             (some ((t9.length:Nat):Int)).bind fun t14=>
             some ((i64.wrap (t13+t14))==0))
            (some false))
          (some false))
        (some false))
      ((T_solve_Solve q0_3 l0_4 l0_5 l0_7).bind fun o=>match o with
       | (t15,t16)=>
       (T_w14_left q0_0 q0_1 l0_2 q0_3 l0_4 l0_5 l0_6 l0_7 t15).bind fun o=>match o with
       | (t17,t18)=>
       (T_w14_left q0_0 q0_1 l0_2 q0_3 l0_4 l0_5 l0_6 l0_7 t6).bind fun o=>match o with
       | (t19,t20)=>
       (T_w14_left q0_0 q0_1 l0_2 q0_3 l0_4 l0_5 l0_6 l0_7 t9).bind fun o=>match o with
       | (t21,t22)=>
       (cond (!(t16 != 0))
         (cond (!(!t18))
           (cond (!(!t20))
             (cond (!(!t22))
               (cond (!(decide (t7<0)))
                 (cond (!(decide (t7>t5)))
                   (cond (!(decide (t10<t7)))
                     (cond (!(decide (t10>(i64.wrap (t7+1)))))
                       ((some (fgt t19 t17)).bind fun t24=>
                        cond (!t24)
                         ((some (fgt t21 t19)).bind fun t25=>
                         some t25)
                         (some true))
                       (some true))
                     (some true))
                   (some true))
                 (some true))
               (some true))
             (some true))
           (some true))
         (some true)).bind fun t23=>
       cond t23
        (some false)
        (cond (t7==0)
          ((T_k_SameReals t15 t6).bind fun t26=>
           cond (!(!t26))
            (cond (decide (t7>0))
              ((some (flt t19 t17)).bind fun t27=>
               cond (!t27)
                (some false)
                (cond (t10==t7)
                  ((T_k_SameReals t6 t9).bind fun t28=>
                   some t28)
                  (cond (t7==t5)
                    ((some (flt t21 t19)).bind fun t29=>
                     some t29)
                    (some false))))
              (cond (t10==t7)
                ((T_k_SameReals t6 t9).bind fun t30=>
                 some t30)
                (cond (t7==t5)
                  ((some (flt t21 t19)).bind fun t31=>
                   some t31)
                  (some false))))
            (some false))
          (cond (decide (t7>0))
            ((some (flt t19 t17)).bind fun t32=>
             cond (!t32)
              (some false)
              (cond (t10==t7)
                ((T_k_SameReals t6 t9).bind fun t33=>
                 some t33)
                (cond (t7==t5)
                  ((some (flt t21 t19)).bind fun t34=>
                   some t34)
                  (some false))))
            (cond (t10==t7)
              ((T_k_SameReals t6 t9).bind fun t35=>
               some t35)
              (cond (t7==t5)
                ((some (flt t21 t19)).bind fun t36=>
                 some t36)
                (some false))))))))
end Go.Eng
