/-
 Functions of plain Lean beside functions of the program, printed by a program of the session. No condition.
-/
import Derived.Test.YtlnelldekejadaaTpA
import Derived.Test.YtlnelldekejadaaBgo
import Derived.Test.YtlnelldekejadaaTw5
set_option linter.all false
set_option maxRecDepth 100000
namespace Go.Eng
open Go
open Go.IntKind (i64 u64 u32 u8)
def T_w16_great_b2 (l0_2:List Dy):(Int×Int)→Option ((Int×Int)⊕(Int)):=fun st=>match st with
| (t2,t3)=>
 (some ((l0_2.length:Nat):Int)).bind fun t4=>
 cond (decide (t3<t4))
  (cond (decide (t2≤400))
    ((atI l0_2 t3).bind fun t5=>
     (some ((t5.2.1.length:Nat):Int)).bind fun t6=>
     some (.inl ((i64.wrap (t2+t6)),(i64.wrap (t3+1)))))
    (some (.inr t2)))
  (some (.inr t2))
def T_w16_great (q0_0:Int) (q0_1:Int) (l0_2:List Dy):Option Bool:=
 (iter (T_w16_great_b2 l0_2) FU (0,0)).bind fun t1=>
 cond (!(decide (q0_0>8)))
  (cond (!(decide (q0_1>8)))
    (some (decide (t1>400)))
    (some true))
  (some true)
def T_r02_NatTrim_b2 (l0:List Int):Int→Option (Int⊕(Int)):=fun st=>match st with
| t3=>
 cond (decide (t3>0))
  ((atI l0 (i64.wrap (t3-1))).bind fun t4=>
   cond (t4==0)
    (some (.inl (i64.wrap (t3-1))))
    (some (.inr t3)))
  (some (.inr t3))
def T_r02_NatTrim (l0:List Int):Option (List Int):=
 (some ((l0.length:Nat):Int)).bind fun t1=>
 (iter (T_r02_NatTrim_b2 l0) FU t1).bind fun t2=>
 (subL l0 0 t2).bind fun t5=>
 (appL ([]:List Int) t5).bind fun t6=>
 some t6
def T_r02_NatOf (q0:Int):Option (List Int):=
 (some [q0]).bind fun t1=>
 (T_r02_NatTrim t1).bind fun t2=>
 some t2
def T_r02_Whole (q0:Int):Option (Bool×List Int×Int):=
 (cond (decide (q0<0))
   (some (u64.wrap (0-(u64.wrap q0))))
   (some (u64.wrap q0))).bind fun t1=>
 (T_r02_NatOf t1).bind fun t2=>
 some ((decide (q0<0)),t2,0)
def T_r02_low_b2 (l0:List Int):Int→Option (Int⊕(Int)):=fun st=>match st with
| t3=>
 cond (decide (t3>0))
  ((atI l0 (i64.wrap (t3-1))).bind fun t4=>
   cond (t4==0)
    (some (.inl (i64.wrap (t3-1))))
    (some (.inr t3)))
  (some (.inr t3))
def T_r02_low (l0:List Int):Option Int:=
 (some ((l0.length:Nat):Int)).bind fun t1=>
 (iter (T_r02_low_b2 l0) FU t1).bind fun t2=>
 (subL l0 0 t2).bind fun t5=>
 some t2
def T_r02_halves_b2 (l0:List Int):(Int×List Int)→Option ((Int×List Int)⊕(List Int)):=fun st=>match st with
| (t2,t3)=>
 (some ((l0.length:Nat):Int)).bind fun t4=>
 cond (decide (t2<t4))
  ((atI l0 t2).bind fun t5=>
   (atI l0 t2).bind fun t6=>
   (some [(t5.tmod 4294967296),(u64.wrap (t6.tdiv 4294967296))]).bind fun t7=>
   (appL t3 t7).bind fun t8=>
   some (.inl ((i64.wrap (t2+1)),t8)))
  (some (.inr t3))
def T_r02_halves (l0:List Int):Option (List Int):=
 (iter (T_r02_halves_b2 l0) FU (0,([]:List Int))).bind fun t1=>
 (T_r02_low t1).bind fun t9=>
 (subL t1 0 t9).bind fun t10=>
 some t10
def T_r02_short_b2 (l0:List Int) (q1:Int):(Int×Int×List Int)→Option ((Int×Int×List Int)⊕((Int×List Int))):=fun st=>match st with
| (t6,t7,t8)=>
 cond (decide (t7≥0))
  ((atI l0 t7).bind fun t9=>
   (nz q1).bind fun t13=>
   (atI t8 t7).bind fun t10=>
   (some (t8.set (t7).toNat (u64.wrap ((u64.wrap ((u64.wrap (t6*4294967296))+t9)).tdiv q1)))).bind fun t11=>
   (nz q1).bind fun t12=>
   some (.inl (((u64.wrap ((u64.wrap (t6*4294967296))+t9)).tmod q1),(i64.wrap (t7-1)),t11)))
  (some (.inr (t6,t8)))
def T_r02_short (l0:List Int) (q1:Int):Option (List Int×Int):=
 (some ((l0.length:Nat):Int)).bind fun t1=>
 (mkL 0 t1 t1).bind fun t2=>
 (some ((l0.length:Nat):Int)).bind fun t3=>
 (iter (T_r02_short_b2 l0 q1) FU (0,(i64.wrap (t3-1)),t2)).bind fun o=>match o with
 | (t4,t5)=>
 (T_r02_low t5).bind fun t14=>
 (subL t5 0 t14).bind fun t15=>
 some (t15,t4)
def T_r02_limbs_b2 (l0:List Int):(Int×List Int)→Option ((Int×List Int)⊕(List Int)):=fun st=>match st with
| (t2,t3)=>
 (some ((l0.length:Nat):Int)).bind fun t4=>
 cond (decide (t2<t4))
  ((atI l0 t2).bind fun t5=>
   (some ((l0.length:Nat):Int)).bind fun t6=>
   (cond (decide ((i64.wrap (t2+1))<t6))
     ((atI l0 (i64.wrap (t2+1))).bind fun t8=>
      some (u64.wrap (t5+(u64.wrap (4294967296*t8)))))
     (some t5)).bind fun t7=>
   (some [t7]).bind fun t9=>
   (appL t3 t9).bind fun t10=>
   some (.inl ((i64.wrap (t2+2)),t10)))
  (some (.inr t3))
def T_r02_limbs (l0:List Int):Option (List Int):=
 (iter (T_r02_limbs_b2 l0) FU (0,([]:List Int))).bind fun t1=>
 (T_r02_NatTrim t1).bind fun t11=>
 some t11
def T_r02_NatDown_b2 (q1:Int) (t1:List Int):(Bool×Int)→Option ((Bool×Int)⊕(Bool)):=fun st=>match st with
| (t3,t4)=>
 cond (decide (t4<(i64.wrap (q1.tdiv 32))))
  ((some ((t1.length:Nat):Int)).bind fun t5=>
   cond (decide (t4<t5))
    (cond (!t3)
      ((atI t1 t4).bind fun t6=>
       some (.inl ((t6 != 0),(i64.wrap (t4+1)))))
      (some (.inl (true,(i64.wrap (t4+1))))))
    (some (.inr t3)))
  (some (.inr t3))
def T_r02_NatDown_b4 (q1:Int):(Int×Int)→Option ((Int×Int)⊕(Int)):=fun st=>match st with
| (t9,t10)=>
 cond (decide (t10<(q1.tmod 32)))
  (some (.inl ((u64.wrap (2*t9)),(i64.wrap (t10+1)))))
  (some (.inr t9))
def T_r02_NatDown (l0:List Int) (q1:Int):Option (List Int×Bool):=
 (T_r02_halves l0).bind fun t1=>
 (iter (T_r02_NatDown_b2 q1 t1) FU (false,0)).bind fun t2=>
 (some ((t1.length:Nat):Int)).bind fun t7=>
 cond (decide ((i64.wrap (q1.tdiv 32))≥t7))
  (some (([]:List Int),t2))
  ((iter (T_r02_NatDown_b4 q1) FU (1,0)).bind fun t8=>
   (some ((t1.length:Nat):Int)).bind fun t12=>
   (subL t1 (i64.wrap (q1.tdiv 32)) t12).bind fun t11=>
   (T_r02_short t11 t8).bind fun o=>match o with
   | (t13,t14)=>
   (T_r02_limbs t13).bind fun t15=>
   cond (!t2)
    (some (t15,(t14 != 0)))
    (some (t15,true)))
def T_r02_Norm_b2 (t1:List Int):Int→Option (Int⊕(Int)):=fun st=>match st with
| t4=>
 (atI t1 (i64.wrap (t4.tdiv 64))).bind fun t5=>
 (nn (u64.wrap (t4.tmod 64))).bind fun t6=>
 cond (((t5.fdiv (2^(min (u64.wrap (t4.tmod 64)).toNat u64.bits))).tmod 2)==0)
  (some (.inl (i64.wrap (t4+1))))
  (some (.inr t4))
def T_r02_Norm (q0_0:Bool) (l0_1:List Int) (q0_2:Int):Option (Bool×List Int×Int×Int):=
 (T_r02_NatTrim l0_1).bind fun t1=>
 (some ((t1.length:Nat):Int)).bind fun t2=>
 cond (t2==0)
  (some (false,([]:List Int),0,0))
  ((iter (T_r02_Norm_b2 t1) FU 0).bind fun t3=>
   (T_r02_NatDown t1 t3).bind fun o=>match o with
   | (t7,t8)=>
   ((some ((t7.length:Nat):Int)).bind fun t10=>
    cond (!(decide (t10>256)))
     (cond (!(decide (q0_2>65536)))
       (cond (!(decide (q0_2<(i64.wrap ((-65536)-t3)))))
         (some (decide ((i64.wrap (q0_2+t3))>65536)))
         (some true))
       (some true))
     (some true)).bind fun t9=>
   cond t9
    (some (false,([]:List Int),0,3))
    (some (q0_0,t7,(i64.wrap (q0_2+t3)),0)))
def T_r02_Told (q0_0:Bool) (l0_1:List Int) (q0_2:Int):Option (Bool×List Int×Int×Int):=
 (T_r02_Norm q0_0 l0_1 q0_2).bind fun o=>match o with
 | (t1,t2,t3,t4)=>
 some (t1,t2,t3,t4)
def T_r02_Int (q0:Int):Option (Bool×List Int×Int):=
 (T_r02_Whole q0).bind fun o=>match o with
 | (t1,t2,t3)=>
 (T_r02_Told t1 t2 t3).bind fun o=>match o with
 | (t4,t5,t6,t7)=>
 some (t4,t5,t6)
def T_w16_of_b2 (l1:List Int):(Int×List Dy)→Option ((Int×List Dy)⊕(List Dy)):=fun st=>match st with
| (t2,t3)=>
 (some ((l1.length:Nat):Int)).bind fun t4=>
 cond (decide (t2<t4))
  ((atI l1 t2).bind fun t5=>
   (T_r02_Int t5).bind fun o=>match o with
   | (t6,t7,t8)=>
   (some ([(t6,t7,t8)]:List Dy)).bind fun t9=>
   (appL t3 t9).bind fun t10=>
   some (.inl ((i64.wrap (t2+1)),t10)))
  (some (.inr t3))
def T_w16_of (q0:Int) (l1:List Int):Option (Int×Int×List Dy):=
 (iter (T_w16_of_b2 l1) FU (0,([]:List Dy))).bind fun t1=>
 some (q0,q0,t1)
def T_inertia_fits (q0:Int):Option Bool:=
 cond (decide (q0≥0))
  (some (decide (q0≤48)))
  (some false)
def T_slices_IndexFunc___api_Dyad_api_Dyad_b2 (t1:Int) (l0:List Dy) (f1:Dy→Option Bool):Int→Option (Int⊕(Unit⊕Int)):=fun st=>match st with
| t2=>
 cond (decide (t2<t1))
  ((atI l0 t2).bind fun t3=>
   (f1 (t3.1,t3.2.1,t3.2.2)).bind fun t4=>
   cond t4
    (some (.inr (.inr t2)))
    (some (.inl (i64.wrap (t2+1)))))
  (some (.inr (.inl ())))
def T_slices_IndexFunc___api_Dyad_api_Dyad (l0:List Dy) (f1:Dy→Option Bool):Option Int:=
 (some ((l0.length:Nat):Int)).bind fun t1=>
 ((iter (T_slices_IndexFunc___api_Dyad_api_Dyad_b2 t1 l0 f1) FU 0:Option (Unit⊕Int))).bind fun o=>match o with
 | .inl ()=>some (-1)
 | .inr v=>some v
def T_slices_ContainsFunc___api_Dyad_api_Dyad (l0:List Dy) (f1:Dy→Option Bool):Option Bool:=
 (T_slices_IndexFunc___api_Dyad_api_Dyad l0 f1).bind fun t1=>
 some (decide (t1≥0))
def T_dyad_Right (q0_0:Bool) (l0_1:List Int) (q0_2:Int):Option Bool:=
 (some ((l0_1.length:Nat):Int)).bind fun t1=>
 cond (t1==0)
  (cond (!q0_0)
    (some (q0_2==0))
    (some false))
  (cond (decide (t1≤256))
    ((atI l0_1 (i64.wrap (t1-1))).bind fun t2=>
     cond (t2 != 0)
      ((atI l0_1 0).bind fun t3=>
       cond ((u64.wrap (BitVec.ofInt u64.bits t3 &&& BitVec.ofInt u64.bits 1).toNat)==1)
        (cond (decide (((-65536):Int)≤q0_2))
          (some (decide (q0_2≤65536)))
          (some false))
        (some false))
      (some false))
    (some false))
def T_inertia_Right_1 (q0_0:Bool) (l0_1:List Int) (q0_2:Int):Option Bool:=
 (T_dyad_Right q0_0 l0_1 q0_2).bind fun t1=>
 some (!t1)
def T_inertia_Right (q0_0:Int) (q0_1:Int) (l0_2:List Dy):Option Bool:=
 (T_inertia_fits q0_0).bind fun t1=>
 cond t1
  ((T_inertia_fits q0_1).bind fun t2=>
   cond t2
    ((some ((l0_2.length:Nat):Int)).bind fun t3=>
     cond (t3==(i64.wrap (q0_0*q0_1)))
      ((T_slices_ContainsFunc___api_Dyad_api_Dyad l0_2 (fun v=>T_inertia_Right_1 v.1 v.2.1 v.2.2)).bind fun t4=>
       some (!t4))
      (some false))
    (some false))
  (some false)
def T_dyad_Sign (q0_0:Bool) (l0_1:List Int) (q0_2:Int):Option (Int×Int):=
 (T_dyad_Right q0_0 l0_1 q0_2).bind fun t1=>
 cond (!t1)
  (some (0,2))
  ((some ((l0_1.length:Nat):Int)).bind fun t2=>
   cond (t2==0)
    (some (0,0))
    (cond q0_0
      (some ((-1),0))
      (some (1,0))))
def T_math_bits_Len64 (q0:Int):Option Int:=
 cond (decide (0≤q0∧q0≤18446744073709551615)) (some ((blN q0.toNat:Nat):Int)) none
def T_dyad_top (q0_0:Bool) (l0_1:List Int) (q0_2:Int):Option Int:=
 (some ((l0_1.length:Nat):Int)).bind fun t1=>
 (atI l0_1 (i64.wrap (t1-1))).bind fun t2=>
 (T_math_bits_Len64 t2).bind fun t3=>
 some (i64.wrap ((i64.wrap (q0_2+(i64.wrap (64*(i64.wrap (t1-1))))))+t3))
def T_dyad_whole_b2 (t1:Int) (l0_1:List Int):(Int×Int)→Option ((Int×Int)⊕(Int)):=fun st=>match st with
| (t3,t4)=>
 cond (decide (t3<t1))
  ((bigLsh t4 64).bind fun t5=>
   (some ((l0_1.length:Nat):Int)).bind fun t6=>
   (atI l0_1 (i64.wrap ((i64.wrap (t6-1))-t3))).bind fun t7=>
   (bigSetUint64 t7).bind fun t8=>
   (bigOr t5 t8).bind fun t9=>
   some (.inl ((i64.wrap (t3+1)),t9)))
  (some (.inr t4))
def T_dyad_whole (q0_0:Bool) (l0_1:List Int) (q0_2:Int):Option Int:=
 (some ((l0_1.length:Nat):Int)).bind fun t1=>
 (iter (T_dyad_whole_b2 t1 l0_1) FU (0,0)).bind fun t2=>
 (cond q0_0
   ((bigNeg t2).bind fun t11=>
    some t11)
   (some t2)).bind fun t10=>
 some t10
def T_dyad_Cmp (q0_0:Bool) (l0_1:List Int) (q0_2:Int) (q1_0:Bool) (l1_1:List Int) (q1_2:Int):Option (Int×Int):=
 (T_dyad_Sign q0_0 l0_1 q0_2).bind fun o=>match o with
 | (t1,t2)=>
 (T_dyad_Sign q1_0 l1_1 q1_2).bind fun o=>match o with
 | (t3,t4)=>
 (cond (!(t2 != 0))
   (some (t4 != 0))
   (some true)).bind fun t5=>
 cond t5
  (some (0,2))
  (cond (t1 != t3)
    (cond (decide (t1<t3))
      (some ((-1),0))
      (some (1,0)))
    (cond (t1==0)
      (some (0,0))
      ((T_dyad_top q0_0 l0_1 q0_2).bind fun t6=>
       (T_dyad_top q1_0 l1_1 q1_2).bind fun t7=>
       cond (t6 != t7)
        ((T_dyad_top q0_0 l0_1 q0_2).bind fun t8=>
         (T_dyad_top q1_0 l1_1 q1_2).bind fun t9=>
         cond (decide (t8<t9))
          (some ((i64.wrap (0-t1)),0))
          (some (t1,0)))
        ((T_dyad_whole q0_0 l0_1 q0_2).bind fun t10=>
         (T_dyad_whole q1_0 l1_1 q1_2).bind fun t11=>
         (cond (decide (q0_2>q1_2))
           ((bigLsh t10 (u64.wrap (i64.wrap (q0_2-q1_2)))).bind fun t14=>
            some (t14,t11))
           ((bigLsh t11 (u64.wrap (i64.wrap (q1_2-q0_2)))).bind fun t15=>
            some (t10,t15))).bind fun o=>match o with
         | (t12,t13)=>
         (bigCmp t12 t13).bind fun t16=>
         some (t16,0)))))
def T_inertia_Symmetric_b7 (t3:Int) (l0_2:List Dy) (q0_1:Int):Int→Option (Int⊕(Unit⊕Bool)):=fun st=>match st with
| t4=>
 cond (decide (t4<t3))
  ((atI l0_2 (i64.wrap ((i64.wrap (t3*q0_1))+t4))).bind fun t5=>
   (atI l0_2 (i64.wrap ((i64.wrap (t4*q0_1))+t3))).bind fun t6=>
   (T_dyad_Cmp t5.1 t5.2.1 t5.2.2 t6.1 t6.2.1 t6.2.2).bind fun o=>match o with
   | (t7,t8)=>
   cond (t7 != 0)
    (some (.inr (.inr false)))
    (some (.inl (i64.wrap (t4+1)))))
  (some (.inr (.inl ())))
def T_inertia_Symmetric_b5 (q0_0:Int) (l0_2:List Dy) (q0_1:Int):Int→Option (Int⊕(Unit⊕Bool)):=fun st=>match st with
| t3=>
 cond (decide (t3<q0_0))
  (((iter (T_inertia_Symmetric_b7 t3 l0_2 q0_1) FU 0:Option (Unit⊕Bool))).bind fun o=>match o with
   | .inl ()=>some (.inl (i64.wrap (t3+1)))
   | .inr v=>some (.inr (.inr v)))
  (some (.inr (.inl ())))
def T_inertia_Symmetric (q0_0:Int) (q0_1:Int) (l0_2:List Dy):Option Bool:=
 ((T_inertia_Right q0_0 q0_1 l0_2).bind fun t2=>
  cond (!(!t2))
   (some (q0_0 != q0_1))
   (some true)).bind fun t1=>
 cond t1
  (some false)
  (((iter (T_inertia_Symmetric_b5 q0_0 l0_2 q0_1) FU 0:Option (Unit⊕Bool))).bind fun o=>match o with
   | .inl ()=>some true
   | .inr v=>some v)
def T_inertia_whole_b2 (t2:Int) (l0_1:List Int):(Int×Int)→Option ((Int×Int)⊕(Int)):=fun st=>match st with
| (t4,t5)=>
 cond (decide (t4<t2))
  ((bigLsh t5 64).bind fun t6=>
   (some ((l0_1.length:Nat):Int)).bind fun t7=>
   (atI l0_1 (i64.wrap ((i64.wrap (t7-1))-t4))).bind fun t8=>
   (bigSetUint64 t8).bind fun t9=>
   (bigOr t6 t9).bind fun t10=>
   some (.inl ((i64.wrap (t4+1)),t10)))
  (some (.inr t5))
def T_inertia_whole (q0_0:Bool) (l0_1:List Int) (q0_2:Int) (q1:Int):Option Int:=
 (some ((l0_1.length:Nat):Int)).bind fun t1=>
 cond (t1==0)
  (some 0)
  ((some ((l0_1.length:Nat):Int)).bind fun t2=>
   (iter (T_inertia_whole_b2 t2 l0_1) FU (0,0)).bind fun t3=>
   (cond q0_0
     ((bigNeg t3).bind fun t12=>
      some t12)
     (some t3)).bind fun t11=>
   (bigLsh t11 (u64.wrap (i64.wrap (q0_2-q1)))).bind fun t13=>
   some t13)
def T_bn_NewInt (q0:Int):Option Int:=
 (bigSetInt64 q0).bind fun t1=>
 some t1
def T_dyad_limbs_b2 (t2:Int):(Int×Int×List Int)→Option ((Int×Int×List Int)⊕(List Int)):=fun st=>match st with
| (t4,t5,t6)=>
 (bigSign t5).bind fun t7=>
 cond (decide (t7>0))
  ((bigAnd t5 t2).bind fun t8=>
   (bigUint64 t8).bind fun t9=>
   (some [t9]).bind fun t10=>
   (appL t6 t10).bind fun t11=>
   (bigRsh t5 64).bind fun t12=>
   some (.inl (t8,t12,t11)))
  (some (.inr t6))
def T_dyad_limbs (y0:Int):Option (List Int):=
 (bigAbs y0).bind fun t1=>
 (bigSetUint64 18446744073709551615).bind fun t2=>
 (iter (T_dyad_limbs_b2 t2) FU (0,t1,([]:List Int))).bind fun t3=>
 some t3
def T_dyad_made (y0:Int) (q1:Int):Option (Bool×List Int×Int×Int):=
 (bigSign y0).bind fun t1=>
 cond (t1==0)
  (some (false,([]:List Int),0,0))
  ((bigTrailingZeroBits y0).bind fun t2=>
   cond (decide (q1>65536))
    (some (false,([]:List Int),0,3))
    (cond (decide (q1<(i64.wrap ((-65536)-(i64.wrap t2)))))
      (some (false,([]:List Int),0,3))
      (cond (decide ((i64.wrap (q1+(i64.wrap t2)))>65536))
        (some (false,([]:List Int),0,3))
        ((bigBitLen y0).bind fun t3=>
         cond (decide ((i64.wrap (t3-(i64.wrap t2)))>16384))
          (some (false,([]:List Int),0,3))
          ((bigSign y0).bind fun t4=>
           (bigAbs y0).bind fun t5=>
           (bigRsh t5 (u64.wrap (i64.wrap t2))).bind fun t6=>
           (T_dyad_limbs t6).bind fun t7=>
           some ((decide (t4<0)),t7,(i64.wrap (q1+(i64.wrap t2))),0))))))
def T_dyad_Norm (q0_0:Bool) (l0_1:List Int) (q0_2:Int):Option (Bool×List Int×Int×Int):=
 (T_dyad_whole q0_0 l0_1 q0_2).bind fun t1=>
 (T_dyad_made t1 q0_2).bind fun o=>match o with
 | (t2,t3,t4,t5)=>
 some (t2,t3,t4,t5)
def T_inertia_told_b2  : (Int×List Int)→Option ((Int×List Int)⊕(List Int)):=fun st=>match st with
| (t4,t5)=>
 (bigSign t4).bind fun t6=>
 cond (decide (t6>0))
  ((bigUint64 t4).bind fun t7=>
   (some [t7]).bind fun t8=>
   (appL t5 t8).bind fun t9=>
   (bigRsh t4 64).bind fun t10=>
   some (.inl (t10,t9)))
  (some (.inr t5))
def T_inertia_told (y0:Int) (q1:Int):Option (Bool×List Int×Int×Int):=
 (bigSign y0).bind fun t1=>
 (bigAbs y0).bind fun t2=>
 (iter (T_inertia_told_b2) FU (t2,([]:List Int))).bind fun t3=>
 (T_dyad_Norm (decide (t1<0)) t3 q1).bind fun o=>match o with
 | (t11,t12,t13,t14)=>
 some (t11,t12,t13,t14)
def T_k_SameLimbs_b2 (l0:List Int) (l1:List Int):Int→Option (Int⊕(Unit⊕Bool)):=fun st=>match st with
| t3=>
 (some ((l0.length:Nat):Int)).bind fun t4=>
 cond (decide (t3<t4))
  ((atI l0 t3).bind fun t5=>
   (atI l1 t3).bind fun t6=>
   cond (t5 != t6)
    (some (.inr (.inr false)))
    (some (.inl (i64.wrap (t3+1)))))
  (some (.inr (.inl ())))
def T_k_SameLimbs (l0:List Int) (l1:List Int):Option Bool:=
 (some ((l0.length:Nat):Int)).bind fun t1=>
 (some ((l1.length:Nat):Int)).bind fun t2=>
 cond (t1 != t2)
  (some false)
  (((iter (T_k_SameLimbs_b2 l0 l1) FU 0:Option (Unit⊕Bool))).bind fun o=>match o with
   | .inl ()=>some true
   | .inr v=>some v)
def T_k_SameDyad (q0_0:Bool) (l0_1:List Int) (q0_2:Int) (q1_0:Bool) (l1_1:List Int) (q1_2:Int):Option Bool:=
 cond (q0_0==q1_0)
  ((T_k_SameLimbs l0_1 l1_1).bind fun t1=>
   cond t1
    (some (q0_2==q1_2))
    (some false))
  (some false)
def T_k_SameDyads_b2 (l0:List Dy) (l1:List Dy):Int→Option (Int⊕(Unit⊕Bool)):=fun st=>match st with
| t3=>
 (some ((l0.length:Nat):Int)).bind fun t4=>
 cond (decide (t3<t4))
  ((atI l0 t3).bind fun t5=>
   (atI l1 t3).bind fun t6=>
   (T_k_SameDyad t5.1 t5.2.1 t5.2.2 t6.1 t6.2.1 t6.2.2).bind fun t7=>
   cond (!t7)
    (some (.inr (.inr false)))
    (some (.inl (i64.wrap (t3+1)))))
  (some (.inr (.inl ())))
def T_k_SameDyads (l0:List Dy) (l1:List Dy):Option Bool:=
 (some ((l0.length:Nat):Int)).bind fun t1=>
 (some ((l1.length:Nat):Int)).bind fun t2=>
 cond (t1 != t2)
  (some false)
  (((iter (T_k_SameDyads_b2 l0 l1) FU 0:Option (Unit⊕Bool))).bind fun o=>match o with
   | .inl ()=>some true
   | .inr v=>some v)
def T_w16_sign (q0_0:Bool) (l0_1:List Int) (q0_2:Int):Option Int:=
 (T_dyad_Sign q0_0 l0_1 q0_2).bind fun o=>match o with
 | (t1,t2)=>
 some t1
def T_dyad_Int (q0:Int):Option (Bool×List Int×Int):=
 (T_bn_NewInt q0).bind fun t1=>
 (T_dyad_made t1 0).bind fun o=>match o with
 | (t2,t3,t4,t5)=>
 some (t2,t3,t4)
def T_dyad_both (q0_0:Bool) (l0_1:List Int) (q0_2:Int) (q1_0:Bool) (l1_1:List Int) (q1_2:Int):Option Bool:=
 (T_dyad_Right q0_0 l0_1 q0_2).bind fun t1=>
 cond t1
  ((T_dyad_Right q1_0 l1_1 q1_2).bind fun t2=>
   some t2)
  (some false)
def T_dyad_Add (q0_0:Bool) (l0_1:List Int) (q0_2:Int) (q1_0:Bool) (l1_1:List Int) (q1_2:Int):Option (Bool×List Int×Int×Int):=
 (T_dyad_both q0_0 l0_1 q0_2 q1_0 l1_1 q1_2).bind fun t1=>
 cond (!t1)
  (some (false,([]:List Int),0,2))
  ((T_dyad_whole q0_0 l0_1 q0_2).bind fun t2=>
   (T_dyad_whole q1_0 l1_1 q1_2).bind fun t3=>
   ((bigSign t2).bind fun t5=>
    cond (!(t5==0))
     ((bigSign t3).bind fun t6=>
      some (t6==0))
     (some true)).bind fun t4=>
   cond t4
    ((bigAdd t2 t3).bind fun t7=>
     (T_dyad_made t7 (i64.wrap (q0_2+q1_2))).bind fun o=>match o with
     | (t8,t9,t10,t11)=>
     some (t8,t9,t10,t11))
    ((cond (decide (q0_2<q1_2))
       (some (q0_0,q0_2,q1_0,q1_2,t3,t2,l0_1,l1_1))
       (some (q1_0,q1_2,q0_0,q0_2,t2,t3,l1_1,l0_1))).bind fun o=>match o with
     | (t12,t13,t14,t15,t16,t17,t18,t19)=>
     cond (decide ((i64.wrap (t15-t13))>16385))
      (some (false,([]:List Int),0,3))
      ((bigLsh t16 (u64.wrap (i64.wrap (t15-t13)))).bind fun t20=>
       (bigAdd t20 t17).bind fun t21=>
       (T_dyad_made t21 t13).bind fun o=>match o with
       | (t22,t23,t24,t25)=>
       some (t22,t23,t24,t25))))
def T_dyad_Neg (q0_0:Bool) (l0_1:List Int) (q0_2:Int):Option (Bool×List Int×Int×Int):=
 (T_dyad_Right q0_0 l0_1 q0_2).bind fun t1=>
 cond (!t1)
  (some (false,([]:List Int),0,2))
  (cond (!q0_0)
    ((some ((l0_1.length:Nat):Int)).bind fun t2=>
     (appL ([]:List Int) l0_1).bind fun t3=>
     some ((decide (t2>0)),t3,q0_2,0))
    ((appL ([]:List Int) l0_1).bind fun t4=>
     some (false,t4,q0_2,0)))
end Go.Eng
