/-
 Functions of plain Lean beside functions of the program, printed by a program of the session. No condition.
-/
import Derived.Test.YtgbilchfljlbeaaGreatDoorTpA
import Derived.Test.YtgbilchfljlbeaaGreatDoorBgo
set_option linter.all false
set_option maxRecDepth 100000
namespace Go.Eng
open Go
open Go.IntKind (i64 u64 u32 u8)
def Dh0  : Option (Int×Int×List Nat×Int×List Nat×List Nat):=
 (some [(nf 4616189618054758400),(nf 4607182418800017408),(nf 4607182418800017408),(nf 4613937818241073152)]).bind fun t1=>
 (some [(nf 4598175219545276416)]).bind fun t2=>
 (some [(nf 4616189618054758400),(nf 4613374868287651840)]).bind fun t3=>
 some (2,2,t1,2,t2,t3)
def As4 (q0:Int):Option Bool:=
 cond (decide (q0≥0))
  (some (decide (q0≤48)))
  (some false)
def Ap7 (q0_0:Int) (q0_1:Int) (l0_2:List Nat):Option Bool:=
 (As4 q0_0).bind fun t1=>
 cond t1
  ((As4 q0_1).bind fun t2=>
   cond t2
    ((some ((l0_2.length:Nat):Int)).bind fun t3=>
     some (t3==(i64.wrap (q0_0*q0_1))))
    (some false))
  (some false)
def Aw6 (q0_0:Int) (q0_1:Int) (l0_2:List Nat) (l1:List Nat) (l2:List Nat):Option Bool:=
 (Ap7 q0_0 q0_1 l0_2).bind fun t1=>
 cond t1
  ((some ((l1.length:Nat):Int)).bind fun t2=>
   cond (t2==q0_1)
    ((some ((l2.length:Nat):Int)).bind fun t3=>
     some (t3==q0_0))
    (some false))
  (some false)
def Am1 (t4:Int) (t3:List Nat):Int→Option (Int⊕(Unit⊕Bool)):=fun st=>match st with
| t5=>
 cond (decide (t5<t4))
  ((atI t3 t5).bind fun t6=>
   (some (Bn1 t6 t6)).bind fun t7=>
   (some (!feq t7 (nf 0))).bind fun t8=>
   cond t8
    (some (.inr (.inr false)))
    (some (.inl (i64.wrap (t5+1)))))
  (some (.inr (.inl ())))
def Aq4 (t1:Int) (l0:List (List Nat)):Int→Option (Int⊕(Unit⊕Bool)):=fun st=>match st with
| t2=>
 cond (decide (t2<t1))
  ((atI l0 t2).bind fun t3=>
   (some ((t3.length:Nat):Int)).bind fun t4=>
   ((Ag0 (Am1 t4 t3) FU 0:Option (Unit⊕Bool))).bind fun o=>match o with
   | .inl ()=>some (.inl (i64.wrap (t2+1)))
   | .inr v=>some (.inr (.inr v)))
  (some (.inr (.inl ())))
def Af8 (l0:List (List Nat)):Option Bool:=
 (some ((l0.length:Nat):Int)).bind fun t1=>
 ((Ag0 (Aq4 t1 l0) FU 0:Option (Unit⊕Bool))).bind fun o=>match o with
 | .inl ()=>some true
 | .inr v=>some v
def Af3 (p0:Nat):Option Bool:=
 (some (!feq p0 p0)).bind fun t1=>
 some t1
def Ac4 (p0:Nat):Option Int:=
 cond (isNaN p0) none (some (p0:Int))
def Ab1 (q0:Int):Option Nat:=
 some (nf q0.toNat)
def Af9 (p0:Nat):Option Nat:=
 some (nf (Ab2 p0))
def Af4 (p0:Nat) (q1:Int):Option Bool:=
 (cond (q1==0)
   ((Af9 p0).bind fun t2=>
    some t2)
   ((cond (decide (q1<0))
      ((some (nf (Bn0 p0))).bind fun t4=>
       some t4)
      (some p0)).bind fun t3=>
    some t3)).bind fun t1=>
 (some (fgt t1 (nf 9218868437227405311))).bind fun t5=>
 some t5
def Av0 (t1:Int) (l0:List Nat):Int→Option (Int⊕(Unit⊕Bool)):=fun st=>match st with
| t2=>
 cond (decide (t2<t1))
  ((atI l0 t2).bind fun t3=>
   (Af3 t3).bind fun t4=>
   cond (!t4)
    ((Af4 t3 0).bind fun t5=>
     cond t5
      (some (.inr (.inr false)))
      (some (.inl (i64.wrap (t2+1)))))
    (some (.inr (.inr false))))
  (some (.inr (.inl ())))
def At2 (l0:List Nat):Option Bool:=
 (some ((l0.length:Nat):Int)).bind fun t1=>
 ((Ag0 (Av0 t1 l0) FU 0:Option (Unit⊕Bool))).bind fun o=>match o with
 | .inl ()=>some true
 | .inr v=>some v
def Bg1 (p0:Nat):Option Int:=
 (Af9 p0).bind fun t1=>
 (some (!feq p0 p0)).bind fun t2=>
 cond t2
  (some 4)
  ((Af4 p0 0).bind fun t3=>
   cond t3
    (some 3)
    ((some (fgt t1 (nf 4503599627370496)||feq t1 (nf 4503599627370496))).bind fun t4=>
     cond t4
      (some 2)
      ((some (fgt t1 (nf 0))).bind fun t5=>
       cond t5
        (some 1)
        (some 0))))
def Ac9 (p0:Nat):Option Bool:=
 cond (isNaN p0) none (some (Ae3 p0))
def Aj7 (p0:Nat):Option (Nat×Int):=
 (Af9 p0).bind fun t1=>
 (some (flt t1 (nf 4503599627370496))).bind fun t2=>
 cond t2
  ((some (Cq0 p0 (nf 4841369599423283200))).bind fun t3=>
   some (t3,(-52)))
  (some (p0,0))
def Bi9 (p0:Nat):Option (Nat×Int):=
 (some (feq p0 (nf 0))).bind fun t1=>
 cond t1
  (some (p0,0))
  ((Af4 p0 0).bind fun t2=>
   cond (!t2)
    ((Af3 p0).bind fun t3=>
     cond t3
      (some (p0,0))
      ((Aj7 p0).bind fun o=>match o with
       | (t4,t5)=>
       (Ac4 t4).bind fun t6=>
       (Ab1 (u64.wrap (BitVec.ofInt u64.bits (u64.wrap (BitVec.ofInt u64.bits t6 &&& ~~~BitVec.ofInt u64.bits 9218868437227405312).toNat) ||| BitVec.ofInt u64.bits 4602678819172646912).toNat)).bind fun t7=>
       some (t7,(i64.wrap (t5+(i64.wrap ((i64.wrap ((i64.wrap (u64.wrap (BitVec.ofInt u64.bits (t6.fdiv (2^(min (52:Int).toNat u64.bits))) &&& BitVec.ofInt u64.bits 2047).toNat))-1023))+1)))))))
    (some (p0,0)))
def Bc6 (p0:Nat):Option (Nat×Int):=
 (Bi9 p0).bind fun o=>match o with
 | (t1,t2)=>
 some (t1,t2)
def Ac0 (p0:Nat) (p1:Nat):Option Nat:=
 cond (isNaN p1) none (some (nf ((if Ae3 p1 then 9223372036854775808 else 0)+Ab2 p0)))
def Bx3 (q0:Int):Option Nat:=
 (cond (decide (q0≥0))
   (some 9218868437227405312)
   (some 18442240474082181120)).bind fun t1=>
 (Ab1 t1).bind fun t2=>
 some t2
def Bj6 (p0:Nat) (q1:Int):Option Nat:=
 (some (feq p0 (nf 0))).bind fun t1=>
 cond t1
  (some p0)
  (((Af4 p0 0).bind fun t3=>
    cond (!t3)
     ((Af3 p0).bind fun t4=>
      some t4)
     (some true)).bind fun t2=>
   cond t2
    (some p0)
    ((Aj7 p0).bind fun o=>match o with
     | (t5,t6)=>
     (Ac4 t5).bind fun t7=>
     cond (decide ((i64.wrap ((i64.wrap (q1+t6))+(i64.wrap ((i64.wrap (BitVec.ofInt i64.bits (i64.wrap (t7.fdiv (2^(min (52:Int).toNat u64.bits)))) &&& BitVec.ofInt i64.bits 2047).toNat)-1023))))<(-1075)))
      ((Ac0 (nf 0) t5).bind fun t8=>
       some t8)
      (cond (decide ((i64.wrap ((i64.wrap (q1+t6))+(i64.wrap ((i64.wrap (BitVec.ofInt i64.bits (i64.wrap (t7.fdiv (2^(min (52:Int).toNat u64.bits)))) &&& BitVec.ofInt i64.bits 2047).toNat)-1023))))>1023))
        ((some (flt t5 (nf 0))).bind fun t9=>
         cond t9
          ((Bx3 (-1)).bind fun t10=>
           some t10)
          ((Bx3 1).bind fun t11=>
           some t11))
        ((cond (decide ((i64.wrap ((i64.wrap (q1+t6))+(i64.wrap ((i64.wrap (BitVec.ofInt i64.bits (i64.wrap (t7.fdiv (2^(min (52:Int).toNat u64.bits)))) &&& BitVec.ofInt i64.bits 2047).toNat)-1023))))<(-1022)))
           (some ((i64.wrap ((i64.wrap ((i64.wrap (q1+t6))+(i64.wrap ((i64.wrap (BitVec.ofInt i64.bits (i64.wrap (t7.fdiv (2^(min (52:Int).toNat u64.bits)))) &&& BitVec.ofInt i64.bits 2047).toNat)-1023))))+53)),(nf 4368491638549381120)))
           (some ((i64.wrap ((i64.wrap (q1+t6))+(i64.wrap ((i64.wrap (BitVec.ofInt i64.bits (i64.wrap (t7.fdiv (2^(min (52:Int).toNat u64.bits)))) &&& BitVec.ofInt i64.bits 2047).toNat)-1023)))),(nf 4607182418800017408)))).bind fun o=>match o with
         | (t12,t13)=>
         (Ab1 (u64.wrap (BitVec.ofInt u64.bits (u64.wrap (BitVec.ofInt u64.bits t7 &&& ~~~BitVec.ofInt u64.bits 9218868437227405312).toNat) ||| BitVec.ofInt u64.bits (u64.wrap ((u64.wrap (i64.wrap (t12+1023)))*2^(min (52:Int).toNat u64.bits)))).toNat)).bind fun t14=>
         (some (Cq0 t13 t14)).bind fun t15=>
         some t15))))
def Aw4 (p0:Nat) (q1:Int):Option Nat:=
 (Bj6 p0 q1).bind fun t1=>
 some t1
def Ad9 (q0:Int):Option Int:=
 some (Hc3 q0)
def Ai2 (p0:Nat):Option (Bool×Int×Int×Bool):=
 (Bg1 p0).bind fun t1=>
 cond (decide (t1>2))
  (some (false,0,0,false))
  ((Ac9 p0).bind fun t2=>
   (some (feq p0 (nf 0))).bind fun t3=>
   cond t3
    (some (t2,0,0,true))
    ((Af9 p0).bind fun t4=>
     (Bc6 t4).bind fun o=>match o with
     | (t5,t6)=>
     (Aw4 t5 53).bind fun t7=>
     (f2i t7 .u64).bind fun t8=>
     (Ad9 t8).bind fun t9=>
     (nn t9).bind fun t10=>
     some (t2,(t8.fdiv (2^(min t9.toNat u64.bits))),(i64.wrap ((i64.wrap (t6-53))+t9)),true)))
def Au5 (p0:Nat):Option (Bool×List Int×Int×Int):=
 (Ai2 p0).bind fun o=>match o with
 | (t1,t2,t3,t4)=>
 cond (!t4)
  (some (false,([]:List Int),0,5))
  (cond (t2==0)
    (some (false,([]:List Int),0,0))
    ((some [t2]).bind fun t5=>
     some (t1,t5,t3,0)))
def An9 (q0_0:Bool) (l0_1:List Int) (q0_2:Int):Option Bool:=
 (some ((l0_1.length:Nat):Int)).bind fun t1=>
 cond (t1==0)
  (cond (!q0_0)
    (some (q0_2==0))
    (some false))
  (cond (decide (t1≤256))
    ((atI l0_1 (i64.wrap (t1-1))).bind fun t2=>
     cond (t2 != 0)
      ((atI l0_1 0).bind fun t3=>
       cond ((u64.wrap (BitVec.ofInt u64.bits t3 &&& BitVec.ofInt u64.bits 1).toNat)==1)
        (cond (decide (((-65536):Int)≤q0_2))
          (some (decide (q0_2≤65536)))
          (some false))
        (some false))
      (some false))
    (some false))
def Ba2 (q0_0:Bool) (l0_1:List Int) (q0_2:Int) (q1_0:Bool) (l1_1:List Int) (q1_2:Int):Option Bool:=
 (An9 q0_0 l0_1 q0_2).bind fun t1=>
 cond t1
  ((An9 q1_0 l1_1 q1_2).bind fun t2=>
   some t2)
  (some false)
def An5 (t1:Int) (l0_1:List Int):(Int×Int)→Option ((Int×Int)⊕(Int)):=fun st=>match st with
| (t3,t4)=>
 cond (decide (t3<t1))
  ((Ar5 t4 64).bind fun t5=>
   (some ((l0_1.length:Nat):Int)).bind fun t6=>
   (atI l0_1 (i64.wrap ((i64.wrap (t6-1))-t3))).bind fun t7=>
   (Ao0 t7).bind fun t8=>
   (Fo0 t5 t8).bind fun t9=>
   some (.inl ((i64.wrap (t3+1)),t9)))
  (some (.inr t4))
def Ai0 (q0_0:Bool) (l0_1:List Int) (q0_2:Int):Option Int:=
 (some ((l0_1.length:Nat):Int)).bind fun t1=>
 (Ag0 (An5 t1 l0_1) FU (0,0)).bind fun t2=>
 (cond q0_0
   ((Fi4 t2).bind fun t11=>
    some t11)
   (some t2)).bind fun t10=>
 some t10
def Ar4 (t2:Int):(Int×Int×List Int)→Option ((Int×Int×List Int)⊕(List Int)):=fun st=>match st with
| (t4,t5,t6)=>
 (Ao5 t5).bind fun t7=>
 cond (decide (t7>0))
  ((Dw0 t5 t2).bind fun t8=>
   (An2 t8).bind fun t9=>
   (some [t9]).bind fun t10=>
   (Eg7 t6 t10).bind fun t11=>
   (Bi6 t5 64).bind fun t12=>
   some (.inl (t8,t12,t11)))
  (some (.inr t6))
def Aw7 (y0:Int):Option (List Int):=
 (Bp5 y0).bind fun t1=>
 (Ao0 18446744073709551615).bind fun t2=>
 (Ag0 (Ar4 t2) FU (0,t1,([]:List Int))).bind fun t3=>
 some t3
def Ao7 (y0:Int) (q1:Int):Option (Bool×List Int×Int×Int):=
 (Ao5 y0).bind fun t1=>
 cond (t1==0)
  (some (false,([]:List Int),0,0))
  ((Ai8 y0).bind fun t2=>
   cond (decide (q1>65536))
    (some (false,([]:List Int),0,3))
    (cond (decide (q1<(i64.wrap ((-65536)-(i64.wrap t2)))))
      (some (false,([]:List Int),0,3))
      (cond (decide ((i64.wrap (q1+(i64.wrap t2)))>65536))
        (some (false,([]:List Int),0,3))
        ((Br5 y0).bind fun t3=>
         cond (decide ((i64.wrap (t3-(i64.wrap t2)))>16384))
          (some (false,([]:List Int),0,3))
          ((Ao5 y0).bind fun t4=>
           (Bp5 y0).bind fun t5=>
           (Bi6 t5 (u64.wrap (i64.wrap t2))).bind fun t6=>
           (Aw7 t6).bind fun t7=>
           some ((decide (t4<0)),t7,(i64.wrap (q1+(i64.wrap t2))),0))))))
def Be9 (q0_0:Bool) (l0_1:List Int) (q0_2:Int) (q1_0:Bool) (l1_1:List Int) (q1_2:Int):Option (Bool×List Int×Int×Int):=
 (Ba2 q0_0 l0_1 q0_2 q1_0 l1_1 q1_2).bind fun t1=>
 cond (!t1)
  (some (false,([]:List Int),0,2))
  ((Ai0 q0_0 l0_1 q0_2).bind fun t2=>
   (Ai0 q1_0 l1_1 q1_2).bind fun t3=>
   (Ei0 t2 t3).bind fun t4=>
   (Ao7 t4 (i64.wrap (q0_2+q1_2))).bind fun o=>match o with
   | (t5,t6,t7,t8)=>
   some (t5,t6,t7,t8))
def An0 (q0:Int) (l1:List Nat) (l2:List Nat):Option (Bool×List Int×Int):=
 (atI l1 q0).bind fun t1=>
 (Au5 t1).bind fun o=>match o with
 | (t2,t3,t4,t5)=>
 (atI l2 q0).bind fun t6=>
 (Au5 t6).bind fun o=>match o with
 | (t7,t8,t9,t10)=>
 (Be9 t2 t3 t4 t7 t8 t9).bind fun o=>match o with
 | (t11,t12,t13,t14)=>
 some (t11,t12,t13)
def Az4 (q0:Int):Option Int:=
 (Bn9 q0).bind fun t1=>
 some t1
def Bw9 (q0:Int):Option (Bool×List Int×Int):=
 (Az4 q0).bind fun t1=>
 (Ao7 t1 0).bind fun o=>match o with
 | (t2,t3,t4,t5)=>
 some (t2,t3,t4)
def Be7 (q0_0:Bool) (l0_1:List Int) (q0_2:Int) (q1_0:Bool) (l1_1:List Int) (q1_2:Int):Option (Bool×List Int×Int×Int):=
 (Ba2 q0_0 l0_1 q0_2 q1_0 l1_1 q1_2).bind fun t1=>
 cond (!t1)
  (some (false,([]:List Int),0,2))
  ((Ai0 q0_0 l0_1 q0_2).bind fun t2=>
   (Ai0 q1_0 l1_1 q1_2).bind fun t3=>
   ((Ao5 t2).bind fun t5=>
    cond (!(t5==0))
     ((Ao5 t3).bind fun t6=>
      some (t6==0))
     (some true)).bind fun t4=>
   cond t4
    ((Cl2 t2 t3).bind fun t7=>
     (Ao7 t7 (i64.wrap (q0_2+q1_2))).bind fun o=>match o with
     | (t8,t9,t10,t11)=>
     some (t8,t9,t10,t11))
    ((cond (decide (q0_2<q1_2))
       (some (q0_0,q0_2,q1_0,q1_2,t3,t2,l0_1,l1_1))
       (some (q1_0,q1_2,q0_0,q0_2,t2,t3,l1_1,l0_1))).bind fun o=>match o with
     | (t12,t13,t14,t15,t16,t17,t18,t19)=>
     cond (decide ((i64.wrap (t15-t13))>16385))
      (some (false,([]:List Int),0,3))
      ((Ar5 t16 (u64.wrap (i64.wrap (t15-t13)))).bind fun t20=>
       (Cl2 t20 t17).bind fun t21=>
       (Ao7 t21 t13).bind fun o=>match o with
       | (t22,t23,t24,t25)=>
       some (t22,t23,t24,t25))))
def Ar0 (q0:Int) (f1:Int→Option (Bool×List Int×Int)):(Int×Bool×Int×List Int)→Option ((Int×Bool×Int×List Int)⊕((Bool×Int×List Int))):=fun st=>match st with
| (t7,t8,t9,t10)=>
 cond (decide (t7<q0))
  ((f1 t7).bind fun o=>match o with
   | (t11,t12,t13)=>
   (Be7 t8 t10 t9 t11 t12 t13).bind fun o=>match o with
   | (t14,t15,t16,t17)=>
   some (.inl ((i64.wrap (t7+1)),t14,t16,t15)))
  (some (.inr (t8,t9,t10)))
def Bi4 (q0:Int) (f1:Int→Option (Bool×List Int×Int)):Option (Bool×List Int×Int):=
 (Bw9 0).bind fun o=>match o with
 | (t1,t2,t3)=>
 (Ag0 (Ar0 q0 f1) FU (0,t1,t3,t2)).bind fun o=>match o with
 | (t4,t5,t6)=>some (t4,t6,t5)
def Ae5 (q0:Int):Option Int:=
 cond (decide (0≤q0∧q0≤18446744073709551615)) (some ((blN q0.toNat:Nat):Int)) none
def Bl4 (q0_0:Bool) (l0_1:List Int) (q0_2:Int):Option Int:=
 (some ((l0_1.length:Nat):Int)).bind fun t1=>
 (atI l0_1 (i64.wrap (t1-1))).bind fun t2=>
 (Ae5 t2).bind fun t3=>
 some (i64.wrap ((i64.wrap (q0_2+(i64.wrap (64*(i64.wrap (t1-1))))))+t3))
def Az5 (q0:Int) (q1:Bool) (q2:Int) (q3:Bool):Option Bool:=
 cond (q0==1)
  (some q1)
  (cond (q0==2)
    (some (!q1))
    (cond (q0==3)
      (some false)
      (cond (!(decide (q2>0)))
        (cond (q2==0)
          (some q3)
          (some false))
        (some true))))
def As1 (q0_0:Bool) (q0_1:Int) (q0_2:Int):Option (Nat×Bool):=
 (Ae5 q0_1).bind fun t1=>
 (cond (q0_1==0)
   (cond (!(q0_2 != 0))
     (cond (q0_1 != 0)
       (some ((q0_1.tmod 2)==0))
       (some false))
     (some true))
   (cond (q0_1 != 0)
     (some ((q0_1.tmod 2)==0))
     (some false))).bind fun t2=>
 cond t2
  (some ((nf 0),false))
  ((cond (!(decide (t1>53)))
     (cond (!(decide (q0_2>1024)))
       (cond (!(decide (q0_2<(-1074))))
         (cond (q0_1 != 0)
           (some (decide ((i64.wrap (q0_2+t1))>1024)))
           (some false))
         (some true))
       (some true))
     (some true)).bind fun t3=>
   cond t3
    (some ((nf 0),false))
    ((Aw4 (nf (FloatKind.f64.nearest q0_1)) q0_2).bind fun t4=>
     (cond q0_0
       ((Ac0 t4 (nf 13830554455654793216)).bind fun t6=>
        some t6)
       (some t4)).bind fun t5=>
     some (t5,true)))
def Bt0 (p0:Nat):Option (Int×Bool):=
 (some (!feq p0 p0)).bind fun t1=>
 cond t1
  (some (0,false))
  ((Af9 p0).bind fun t2=>
   (Ac4 t2).bind fun t3=>
   (some (flt p0 (nf 0))).bind fun t4=>
   (cond t4
     (some (i64.wrap (0-(i64.wrap t3))))
     (some (i64.wrap t3))).bind fun t5=>
   some (t5,true))
def Df0 (q0:Int):Option (Nat×Bool):=
 cond (!(decide (q0>9218868437227405312)))
  (cond (decide (q0<(-9218868437227405312)))
    (some ((nf 0),false))
    (cond (decide (q0<0))
      ((Ab1 (u64.wrap (i64.wrap (0-q0)))).bind fun t1=>
       (some (nf (Bn0 t1))).bind fun t2=>
       some (t2,true))
      ((Ab1 (u64.wrap q0)).bind fun t3=>
       some (t3,true))))
  (some ((nf 0),false))
def Av7 (p0:Nat) (q1:Bool):Option Nat:=
 (Bt0 p0).bind fun o=>match o with
 | (t1,t2)=>
 cond (!t2)
  (some p0)
  ((cond q1
     (some (if 9218868437227405312<(i64.wrap (t1+1)) then 9218868437227405312 else (i64.wrap (t1+1))))
     (some (if (-9218868437227405312)>(i64.wrap (t1-1)) then (-9218868437227405312) else (i64.wrap (t1-1))))).bind fun t3=>
   (Df0 t3).bind fun o=>match o with
   | (t4,t5)=>
   some t4)
def Bb6 (q0:Bool) (q1:Int) (q2:Int) (q3:Int):Option Nat:=
 (cond (decide (q1>0))
   ((Ad9 q1).bind fun t3=>
    (nn t3).bind fun t4=>
    some ((q1.fdiv (2^(min t3.toNat u64.bits))),(i64.wrap (q2+t3))))
   (some (0,0))).bind fun o=>match o with
 | (t1,t2)=>
 (Ae5 t1).bind fun t5=>
 cond (decide ((i64.wrap (t5+t2))>1024))
  ((As1 q0 9007199254740991 971).bind fun o=>match o with
   | (t6,t7)=>
   cond (!(q3==3))
    (cond (q3==1)
      (cond (!(!q0))
        (cond (q3==2)
          (cond q0
            (some t6)
            ((Av7 t6 (!q0)).bind fun t8=>
             some t8))
          ((Av7 t6 (!q0)).bind fun t9=>
           some t9))
        (some t6))
      (cond (q3==2)
        (cond q0
          (some t6)
          ((Av7 t6 (!q0)).bind fun t10=>
           some t10))
        ((Av7 t6 (!q0)).bind fun t11=>
         some t11)))
    (some t6))
  ((As1 q0 t1 t2).bind fun o=>match o with
   | (t12,t13)=>
   some t12)
def As0 (q0_0:Bool) (l0_1:List Int) (q0_2:Int) (q1:Int):Option (Nat×Int):=
 (An9 q0_0 l0_1 q0_2).bind fun t1=>
 cond (!t1)
  (some ((nf 0),2))
  ((some ((l0_1.length:Nat):Int)).bind fun t2=>
   cond (t2==0)
    (some ((nf 0),0))
    ((Ai0 q0_0 l0_1 q0_2).bind fun t3=>
     (Bp5 t3).bind fun t4=>
     (Bl4 q0_0 l0_1 q0_2).bind fun t5=>
     (cond (decide ((i64.wrap ((if (-1074)>(i64.wrap (t5-53)) then (-1074) else (i64.wrap (t5-53)))-q0_2))≤0))
       ((Ar5 t4 (u64.wrap (i64.wrap (0-(i64.wrap ((if (-1074)>(i64.wrap (t5-53)) then (-1074) else (i64.wrap (t5-53)))-q0_2)))))).bind fun t7=>
        (An2 t7).bind fun t8=>
        some t8)
       ((Bi6 t4 (u64.wrap (i64.wrap ((if (-1074)>(i64.wrap (t5-53)) then (-1074) else (i64.wrap (t5-53)))-q0_2)))).bind fun t9=>
        (An2 t9).bind fun t10=>
        (Ar5 t9 (u64.wrap (i64.wrap ((if (-1074)>(i64.wrap (t5-53)) then (-1074) else (i64.wrap (t5-53)))-q0_2)))).bind fun t11=>
        (Du0 t4 t11).bind fun t12=>
        (Az4 1).bind fun t13=>
        (Ar5 t13 (u64.wrap (i64.wrap ((i64.wrap ((if (-1074)>(i64.wrap (t5-53)) then (-1074) else (i64.wrap (t5-53)))-q0_2))-1)))).bind fun t14=>
        (Dt3 t12 t14).bind fun t15=>
        (Ao5 t12).bind fun t16=>
        cond (decide (t16>0))
         ((Az5 q1 q0_0 t15 ((u64.wrap (BitVec.ofInt u64.bits t10 &&& BitVec.ofInt u64.bits 1).toNat)==1)).bind fun t17=>
          (cond t17
            (some (u64.wrap (t10+1)))
            (some t10)).bind fun t18=>
          some t18)
         ((some t10).bind fun t19=>
          some t19))).bind fun t6=>
     (Bb6 q0_0 t6 (if (-1074)>(i64.wrap (t5-53)) then (-1074) else (i64.wrap (t5-53))) q1).bind fun t20=>
     some (t20,0)))
def Ar6 (l0:List Nat) (l1:List Nat) (q2:Int):Option (Nat×Int):=
 (some ((l0.length:Nat):Int)).bind fun t1=>
 (some ((l1.length:Nat):Int)).bind fun t2=>
 cond (t1 != t2)
  (some ((nf 0),4))
  ((At2 l0).bind fun t3=>
   cond (!(!t3))
    ((At2 l1).bind fun t4=>
     cond (!t4)
      (some ((nf 0),5))
      ((some ((l0.length:Nat):Int)).bind fun t5=>
       (Bi4 t5 (fun v0=>An0 v0 l0 l1)).bind fun o=>match o with
       | (t6,t7,t8)=>
       (As0 t6 t7 t8 q2).bind fun o=>match o with
       | (t9,t10)=>
       some (t9,t10)))
    (some ((nf 0),5)))
def Ak5 (t12:Int) (t11:List Nat):(Int×List Nat)→Option ((Int×List Nat)⊕(List Nat)):=fun st=>match st with
| (t14,t15)=>
 cond (decide (t14<t12))
  ((atI t11 t14).bind fun t16=>
   (some (nf (Bn0 t16))).bind fun t17=>
   (some [t17]).bind fun t18=>
   (Eg7 t15 t18).bind fun t19=>
   some (.inl ((i64.wrap (t14+1)),t19)))
  (some (.inr t15))
def Ak2 (q0_0:Int) (l2:List Nat) (l0_2:List Nat) (q0_1:Int) (t5:List Nat):(Int×List Nat)→Option ((Int×List Nat)⊕(List Nat)):=fun st=>match st with
| (t7,t8)=>
 cond (decide (t7<q0_0))
  ((atI l2 t7).bind fun t9=>
   (some [t9]).bind fun t10=>
   (Cy1 l0_2 (i64.wrap (t7*q0_1)) (i64.wrap ((i64.wrap (t7+1))*q0_1))).bind fun t11=>
   (some ((t11.length:Nat):Int)).bind fun t12=>
   (Ag0 (Ak5 t12 t11) FU (0,t10)).bind fun t13=>
   (Ar6 t13 t5 0).bind fun o=>match o with
   | (t20,t21)=>
   (some [t20]).bind fun t22=>
   (Eg7 t8 t22).bind fun t23=>
   some (.inl ((i64.wrap (t7+1)),t23)))
  (some (.inr t8))
def Ah8 (q0_0:Int) (q0_1:Int) (l0_2:List Nat) (l1:List Nat) (l2:List Nat):Option (List Nat×Int):=
 (Aw6 q0_0 q0_1 l0_2 l1 l2).bind fun t1=>
 cond (!t1)
  (some ((List.map nf []),4))
  ((some ([l0_2,l1,l2]:List (List Nat))).bind fun t2=>
   (Af8 t2).bind fun t3=>
   cond (!t3)
    (some ((List.map nf []),5))
    ((some [(nf 4607182418800017408)]).bind fun t4=>
     (Eg7 t4 l1).bind fun t5=>
     (Ag0 (Ak2 q0_0 l2 l0_2 q0_1 t5) FU (0,(List.map nf []))).bind fun t6=>
     (some ([t6]:List (List Nat))).bind fun t24=>
     (Af8 t24).bind fun t25=>
     cond (!t25)
      (some ((List.map nf []),6))
      (some (t6,0))))
def Ad3 (q0_0:Int) (l0_1:List Nat) (l0_2:List Nat):Option Bool:=
 cond (decide (q0_0≥0))
  (cond (decide (q0_0≤48))
    ((some ((l0_1.length:Nat):Int)).bind fun t1=>
     cond (t1==(i64.wrap ((i64.wrap (q0_0*(i64.wrap (q0_0-1)))).tdiv 2)))
      ((some ((l0_2.length:Nat):Int)).bind fun t2=>
       some (t2==q0_0))
      (some false))
    (some false))
  (some false)
def Af0 (q0_0:Int) (q0_1:Int) (l0_2:List Nat) (q1_0:Int) (l1_1:List Nat) (l1_2:List Nat):Option Bool:=
 (Ap7 q0_0 q0_1 l0_2).bind fun t1=>
 cond t1
  ((Ad3 q1_0 l1_1 l1_2).bind fun t2=>
   cond t2
    (cond (q0_0==q1_0)
      (some (q0_1==q1_0))
      (some false))
    (some false))
  (some false)
def Ah9 (q0_0:Int) (l0_1:List Nat) (l0_2:List Nat) (q1:Int):Option Int:=
 (Ad3 q0_0 l0_1 l0_2).bind fun t1=>
 cond (!(!t1))
  (cond (q1 != q0_0)
    (some 4)
    (some 0))
  (some 4)
def Ac5 (l0:List Nat):Option (List Nat):=
 cond (decide (l0.length≤4294967296)) (some l0) none
def At1 (q0_0:Int) (l0_1:List Nat) (l0_2:List Nat) (q1:Int) (q2:Int):Option Nat:=
 (atI l0_1 (i64.wrap ((i64.wrap ((i64.wrap (q1*(i64.wrap (q1-1)))).tdiv 2))+q2))).bind fun t1=>
 some t1
def Ag8 (t6:Int) (q0_0:Int) (l0_1:List Nat) (l0_2:List Nat):(Int×List Nat)→Option ((Int×List Nat)⊕(List Nat)):=fun st=>match st with
| (t9,t10)=>
 cond (decide (t9<t6))
  ((atI t10 t6).bind fun t11=>
   (atI t10 t9).bind fun t12=>
   (At1 q0_0 l0_1 l0_2 t6 t9).bind fun t13=>
   (some (Cq0 t13 t12)).bind fun t14=>
   (some (Bn1 t11 t14)).bind fun t15=>
   (atI t10 t6).bind fun t16=>
   (some (t10.set (t6).toNat t15)).bind fun t17=>
   some (.inl ((i64.wrap (t9+1)),t17)))
  (some (.inr t10))
def Ag9 (t4:Int) (q0_0:Int) (l0_1:List Nat) (l0_2:List Nat):(Int×List Nat)→Option ((Int×List Nat)⊕(List Nat)):=fun st=>match st with
| (t6,t7)=>
 cond (decide (t6<t4))
  ((Ag0 (Ag8 t6 q0_0 l0_1 l0_2) FU (0,t7)).bind fun t8=>
   some (.inl ((i64.wrap (t6+1)),t8)))
  (some (.inr t7))
def Ac6 (q0_0:Int) (l0_1:List Nat) (l0_2:List Nat) (l1:List Nat):Option (List Nat×Int):=
 (some ((l1.length:Nat):Int)).bind fun t1=>
 (Ah9 q0_0 l0_1 l0_2 t1).bind fun t2=>
 cond (t2 != 0)
  (some ((List.map nf []),t2))
  ((Ac5 l1).bind fun t3=>
   (some ((t3.length:Nat):Int)).bind fun t4=>
   (Ag0 (Ag9 t4 q0_0 l0_1 l0_2) FU (0,t3)).bind fun t5=>
   some (t5,0))
def Aa7 (t1:Int) (l0:List Nat) (p1:Nat):Int→Option (Int⊕(Unit⊕Int)):=fun st=>match st with
| t2=>
 cond (decide (t2<t1))
  ((atI l0 t2).bind fun t3=>
   (some (feq p1 t3)).bind fun t4=>
   cond t4
    (some (.inr (.inr t2)))
    (some (.inl (i64.wrap (t2+1)))))
  (some (.inr (.inl ())))
def Ad5 (l0:List Nat) (p1:Nat):Option Int:=
 (some ((l0.length:Nat):Int)).bind fun t1=>
 ((Ag0 (Aa7 t1 l0 p1) FU 0:Option (Unit⊕Int))).bind fun o=>match o with
 | .inl ()=>some (-1)
 | .inr v=>some v
def Ab5 (l0:List Nat) (p1:Nat):Option Bool:=
 (Ad5 l0 p1).bind fun t1=>
 some (decide (t1≥0))
def Am8 (t5:Int) (l0_2:List Nat):(Int×List Nat)→Option ((Int×List Nat)⊕(List Nat)):=fun st=>match st with
| (t7,t8)=>
 cond (decide (t7<t5))
  ((atI l0_2 t7).bind fun t9=>
   (atI t8 t7).bind fun t10=>
   (some (fdiv t10 t9)).bind fun t11=>
   (atI t8 t7).bind fun t12=>
   (some (t8.set (t7).toNat t11)).bind fun t13=>
   some (.inl ((i64.wrap (t7+1)),t13)))
  (some (.inr t8))
def Aj5 (t18:Int) (t16:Int) (q0_0:Int) (l0_1:List Nat) (l0_2:List Nat):(Int×List Nat)→Option ((Int×List Nat)⊕(List Nat)):=fun st=>match st with
| (t20,t21)=>
 (some ((t21.length:Nat):Int)).bind fun t22=>
 cond (decide (t20<t22))
  ((atI t21 (i64.wrap ((i64.wrap (t18-1))-t16))).bind fun t23=>
   (atI t21 t20).bind fun t24=>
   (At1 q0_0 l0_1 l0_2 t20 (i64.wrap ((i64.wrap (t18-1))-t16))).bind fun t25=>
   (some (Cq0 t25 t24)).bind fun t26=>
   (some (Bn1 t23 t26)).bind fun t27=>
   (atI t21 (i64.wrap ((i64.wrap (t18-1))-t16))).bind fun t28=>
   (some (t21.set ((i64.wrap ((i64.wrap (t18-1))-t16))).toNat t27)).bind fun t29=>
   some (.inl ((i64.wrap (t20+1)),t29)))
  (some (.inr t21))
def An3 (t14:Int) (q0_0:Int) (l0_1:List Nat) (l0_2:List Nat):(Int×List Nat)→Option ((Int×List Nat)⊕(List Nat)):=fun st=>match st with
| (t16,t17)=>
 cond (decide (t16<t14))
  ((some ((t17.length:Nat):Int)).bind fun t18=>
   (Ag0 (Aj5 t18 t16 q0_0 l0_1 l0_2) FU ((i64.wrap ((i64.wrap ((i64.wrap (t18-1))-t16))+1)),t17)).bind fun t19=>
   some (.inl ((i64.wrap (t16+1)),t19)))
  (some (.inr t17))
def Ag1 (q0_0:Int) (l0_1:List Nat) (l0_2:List Nat) (l1:List Nat):Option (List Nat×Int):=
 (some ((l1.length:Nat):Int)).bind fun t1=>
 (Ah9 q0_0 l0_1 l0_2 t1).bind fun t2=>
 cond (t2 != 0)
  (some ((List.map nf []),t2))
  ((Ab5 l0_2 (nf 0)).bind fun t3=>
   cond t3
    (some ((List.map nf []),7))
    ((Ac5 l1).bind fun t4=>
     (some ((l0_2.length:Nat):Int)).bind fun t5=>
     (Ag0 (Am8 t5 l0_2) FU (0,t4)).bind fun t6=>
     (some ((t6.length:Nat):Int)).bind fun t14=>
     (Ag0 (An3 t14 q0_0 l0_1 l0_2) FU (0,t6)).bind fun t15=>
     some (t15,0)))
def Ah4 (q0_0:Int) (l0_1:List Nat) (l0_2:List Nat) (l1:List Nat):Option (List Nat×Int):=
 (Ac6 q0_0 l0_1 l0_2 l1).bind fun o=>match o with
 | (t1,t2)=>
 cond (t2 != 0)
  (some ((List.map nf []),t2))
  ((Ag1 q0_0 l0_1 l0_2 t1).bind fun o=>match o with
   | (t3,t4)=>
   some (t3,t4))
def Bh4 (q0:Int):Option Int:=
 cond (!(decide (q0<0)))
  (cond (decide (q0>3))
    (some 0)
    (some q0))
  (some 0)
def Ai6 (t1:Int) (l0:List Nat):Int→Option (Int⊕(Unit⊕Bool)):=fun st=>match st with
| t2=>
 cond (decide (t2<t1))
  ((atI l0 t2).bind fun t3=>
   (Af3 t3).bind fun t4=>
   cond (!t4)
    ((Af4 t3 0).bind fun t5=>
     cond t5
      (some (.inr (.inr false)))
      (some (.inl (i64.wrap (t2+1)))))
    (some (.inr (.inr false))))
  (some (.inr (.inl ())))
def Au8 (l0:List Nat):Option Bool:=
 (some ((l0.length:Nat):Int)).bind fun t1=>
 ((Ag0 (Ai6 t1 l0) FU 0:Option (Unit⊕Bool))).bind fun o=>match o with
 | .inl ()=>some true
 | .inr v=>some v
def Bc0 (q0:Int):Option Nat:=
 cond (q0==1)
  ((Ac0 (nf 0) (nf 13830554455654793216)).bind fun t1=>
   some t1)
  (some (nf 0))
def Ar1 (p0:Nat) (q1:Bool):Option Nat:=
 (Ac4 p0).bind fun t1=>
 ((some (feq p0 (nf 0))).bind fun t3=>
  (cond t3
    ((cond (!q1)
       (some (u64.wrap (BitVec.ofInt u64.bits 1 ||| BitVec.ofInt u64.bits 9223372036854775808).toNat))
       (some 1)).bind fun t5=>
     some t5)
    ((some (fgt p0 (nf 0))).bind fun t6=>
     (cond (q1==t6)
       (some (u64.wrap (t1+1)))
       (some (u64.wrap (t1-1)))).bind fun t7=>
     some t7)).bind fun t4=>
  some t4).bind fun t2=>
 (Ab1 t2).bind fun t8=>
 some t8
def Ap8 (p0:Nat) (q1:Int) (q2:Int):Option Nat:=
 (cond (q2==3)
   ((Ac9 p0).bind fun t2=>
    (cond t2
      (some 2)
      (some 1)).bind fun t3=>
    some t3)
   (some q2)).bind fun t1=>
 (Af4 p0 0).bind fun t4=>
 cond t4
  ((some (fgt p0 (nf 0))).bind fun t5=>
   cond t5
    (cond (!(t1==1))
      ((some (flt p0 (nf 0))).bind fun t6=>
       cond t6
        (cond (t1==2)
          ((Ac0 (nf 9218868437227405311) p0).bind fun t7=>
           some t7)
          (some p0))
        (some p0))
      ((Ac0 (nf 9218868437227405311) p0).bind fun t8=>
       some t8))
    ((some (flt p0 (nf 0))).bind fun t9=>
     cond t9
      (cond (t1==2)
        ((Ac0 (nf 9218868437227405311) p0).bind fun t10=>
         some t10)
        (some p0))
      (some p0)))
  (cond (decide (q1<0))
    (cond (!(t1==1))
      (cond (decide (q1>0))
        (cond (t1==2)
          ((Ar1 p0 (decide (q1>0))).bind fun t11=>
           some t11)
          (some p0))
        (some p0))
      ((Ar1 p0 (decide (q1>0))).bind fun t12=>
       some t12))
    (cond (decide (q1>0))
      (cond (t1==2)
        ((Ar1 p0 (decide (q1>0))).bind fun t13=>
         some t13)
        (some p0))
      (some p0)))
def Bc2 (p0:Nat):Option Int:=
 (some (fgt p0 (nf 0))).bind fun t1=>
 cond t1
  (some 1)
  ((some (flt p0 (nf 0))).bind fun t2=>
   cond t2
    (some (-1))
    (some 0))
def Bf9 (p0:Nat) (p1:Nat) (q2:Int):Option Nat:=
 (Bh4 q2).bind fun t1=>
 (some (As2 p0 p1)).bind fun t2=>
 (some [p0,p1]).bind fun t3=>
 (Au8 t3).bind fun t4=>
 cond (!t4)
  (some t2)
  (((some (feq t2 (nf 0))).bind fun t6=>
    cond t6
     ((some (!feq p0 (nf 0))).bind fun t7=>
      cond (!t7)
       ((some (feq t2 (nf 0))).bind fun t8=>
        cond t8
         ((Ac9 p0).bind fun t9=>
          (Ac9 p1).bind fun t10=>
          some (!(t9==t10)))
         (some false))
       (some true))
     ((some (feq t2 (nf 0))).bind fun t11=>
      cond t11
       ((Ac9 p0).bind fun t12=>
        (Ac9 p1).bind fun t13=>
        some (!(t12==t13)))
       (some false))).bind fun t5=>
   cond t5
    ((Bc0 t1).bind fun t14=>
     some t14)
    ((some (feq t2 (nf 0))).bind fun t15=>
     cond t15
      (some t2)
      ((Af4 t2 0).bind fun t16=>
       cond t16
        ((Ap8 t2 0 t1).bind fun t17=>
         some t17)
        ((Af9 p0).bind fun t18=>
         (Af9 p1).bind fun t19=>
         (some (flt t18 t19)).bind fun t20=>
         (cond t20
           (some (p1,p0))
           (some (p0,p1))).bind fun o=>match o with
         | (t21,t22)=>
         (some (Bn1 t2 t21)).bind fun t23=>
         (some (Bn1 t22 t23)).bind fun t24=>
         (Bc2 t24).bind fun t25=>
         (Ap8 t2 t25 t1).bind fun t26=>
         some t26))))
def Aj9 (t1:Int) (l0:List Nat):(Nat×Int)→Option ((Nat×Int)⊕(Nat)):=fun st=>match st with
| (t3,t4)=>
 cond (decide (t4<t1))
  ((atI l0 t4).bind fun t5=>
   (Af9 t5).bind fun t6=>
   (Bf9 t3 t6 2).bind fun t7=>
   some (.inl (t7,(i64.wrap (t4+1)))))
  (some (.inr t3))
def Ak7 (l0:List Nat):Option Nat:=
 (some ((l0.length:Nat):Int)).bind fun t1=>
 (Ag0 (Aj9 t1 l0) FU ((nf 0),0)).bind fun t2=>
 some t2
def Bb5 (l0:List Nat) (l1:List Nat):Option Int:=
 (some ((l0.length:Nat):Int)).bind fun t1=>
 (some ((l1.length:Nat):Int)).bind fun t2=>
 cond (t1 != t2)
  (some 4)
  ((some ((l0.length:Nat):Int)).bind fun t3=>
   cond (decide (t3>4096))
    (some 3)
    (some 0))
def Aj8 (t4:Int) (l0:List Nat) (l1:List Nat) (f2:Nat→Nat→Option Nat):(Int×List Nat)→Option ((Int×List Nat)⊕(List Nat)):=fun st=>match st with
| (t6,t7)=>
 cond (decide (t6<t4))
  ((atI l0 t6).bind fun t8=>
   (atI l1 t6).bind fun t9=>
   (f2 t8 t9).bind fun t10=>
   (atI t7 t6).bind fun t11=>
   (some (t7.set (t6).toNat t10)).bind fun t12=>
   some (.inl ((i64.wrap (t6+1)),t12)))
  (some (.inr t7))
def Ay4 (l0:List Nat) (l1:List Nat) (f2:Nat→Nat→Option Nat):Option (List Nat×Int):=
 (Bb5 l0 l1).bind fun t1=>
 cond (t1 != 0)
  (some ((List.map nf []),t1))
  ((some ((l0.length:Nat):Int)).bind fun t2=>
   (mkL (nf 0) t2 t2).bind fun t3=>
   (some ((l0.length:Nat):Int)).bind fun t4=>
   (Ag0 (Aj8 t4 l0 l1 f2) FU (0,t3)).bind fun t5=>
   some (t5,0))
def Bb4 (p0:Nat) (p1:Nat):Option Nat:=
 (some (As2 p0 p1)).bind fun t1=>
 some t1
def Bc7 (l0:List Nat) (l1:List Nat):Option (List Nat×Int):=
 (Ay4 l0 l1 (fun v0 v1=>Bb4 v0 v1)).bind fun o=>match o with
 | (t1,t2)=>
 some (t1,t2)
def Al7 (q0_0:Int) (q0_1:Int) (l0_2:List Nat) (q1_0:Int) (l1_1:List Nat) (l1_2:List Nat) (l2:List Nat) (l3:List Nat):Option (List Nat×Int):=
 ((Aw6 q0_0 q0_1 l0_2 l2 l3).bind fun t2=>
  cond (!(!t2))
   ((Af0 q0_0 q0_1 l0_2 q1_0 l1_1 l1_2).bind fun t3=>
    some (!t3))
   (some true)).bind fun t1=>
 cond t1
  (some ((List.map nf []),4))
  ((Ah8 q0_0 q0_1 l0_2 l2 l3).bind fun o=>match o with
   | (t4,t5)=>
   cond (t5 != 0)
    (some ((List.map nf []),t5))
    ((Ah4 q1_0 l1_1 l1_2 t4).bind fun o=>match o with
     | (t6,t7)=>
     cond (t7 != 0)
      (some ((List.map nf []),t7))
      ((Bc7 l2 t6).bind fun o=>match o with
       | (t8,t9)=>
       (some ([t8]:List (List Nat))).bind fun t10=>
       (Af8 t10).bind fun t11=>
       cond (!t11)
        (some ((List.map nf []),6))
        (some (t8,0)))))
def Ag5 (q3:Int) (q0_0:Int) (q0_1:Int) (l0_2:List Nat) (q1_0:Int) (l1_1:List Nat) (l1_2:List Nat) (l2:List Nat):(Nat×Int×List Nat)→Option ((Nat×Int×List Nat)⊕(List Nat⊕(List Nat×Int×Int))):=fun st=>match st with
| (t15,t16,t17)=>
 cond (decide (t16<q3))
  ((Al7 q0_0 q0_1 l0_2 q1_0 l1_1 l1_2 t17 l2).bind fun o=>match o with
   | (t18,t19)=>
   cond (t19 != 0)
    (some (.inr (.inr (t17,t16,0))))
    ((Ah8 q0_0 q0_1 l0_2 t18 l2).bind fun o=>match o with
     | (t20,t21)=>
     cond (!(t21 != 0))
      ((Ak7 t20).bind fun t22=>
       (some (fgt t22 t15||feq t22 t15)).bind fun t23=>
       cond t23
        (some (.inr (.inr (t17,t16,0))))
        ((Ak7 t20).bind fun t24=>
         some (.inl (t24,(i64.wrap (t16+1)),t18))))
      (some (.inr (.inr (t17,t16,0))))))
  (some (.inr (.inl t17)))
def Ap9 (q0_0:Int) (q0_1:Int) (l0_2:List Nat) (q1_0:Int) (l1_1:List Nat) (l1_2:List Nat) (l2:List Nat) (q3:Int):Option (List Nat×Int×Int):=
 (cond (!(decide (q3<0)))
   (some (decide (q3>64)))
   (some true)).bind fun t1=>
 cond t1
  (some ((List.map nf []),0,2))
  (((Af0 q0_0 q0_1 l0_2 q1_0 l1_1 l1_2).bind fun t3=>
    cond (!(!t3))
     ((some ((l2.length:Nat):Int)).bind fun t4=>
      some (t4 != q0_0))
     (some true)).bind fun t2=>
   cond t2
    (some ((List.map nf []),0,4))
    ((some ([l0_2,l2]:List (List Nat))).bind fun t5=>
     (Af8 t5).bind fun t6=>
     cond (!t6)
      (some ((List.map nf []),0,5))
      ((Ah4 q1_0 l1_1 l1_2 l2).bind fun o=>match o with
       | (t7,t8)=>
       cond (t8 != 0)
        (some ((List.map nf []),0,t8))
        ((some ([t7]:List (List Nat))).bind fun t9=>
         (Af8 t9).bind fun t10=>
         cond (!t10)
          (some ((List.map nf []),0,6))
          ((Ah8 q0_0 q0_1 l0_2 t7 l2).bind fun o=>match o with
           | (t11,t12)=>
           cond (t12 != 0)
            (some ((List.map nf []),0,t12))
            ((Ak7 t11).bind fun t13=>
             ((Ag0 (Ag5 q3 q0_0 q0_1 l0_2 q1_0 l1_1 l1_2 l2) FU (t13,0,t7):Option (List Nat⊕(List Nat×Int×Int)))).bind fun o=>match o with
             | .inl t14=>some (t14,q3,0)
             | .inr v=>some v))))))
def Dy3 (p0:Nat) (p1:Nat):Option Bool:=
 (some (feq p0 p1)).bind fun t1=>
 cond (!t1)
  ((some (!feq p0 p0)).bind fun t2=>
   cond t2
    ((some (!feq p1 p1)).bind fun t3=>
     some t3)
    (some false))
  (some true)
def Bp9 (l0:List Nat) (l1:List Nat):Int→Option (Int⊕(Unit⊕Bool)):=fun st=>match st with
| t3=>
 (some ((l0.length:Nat):Int)).bind fun t4=>
 cond (decide (t3<t4))
  ((atI l0 t3).bind fun t5=>
   (atI l1 t3).bind fun t6=>
   (Dy3 t5 t6).bind fun t7=>
   cond (!t7)
    (some (.inr (.inr false)))
    (some (.inl (i64.wrap (t3+1)))))
  (some (.inr (.inl ())))
def Bd8 (l0:List Nat) (l1:List Nat):Option Bool:=
 (some ((l0.length:Nat):Int)).bind fun t1=>
 (some ((l1.length:Nat):Int)).bind fun t2=>
 cond (t1 != t2)
  (some false)
  (((Ag0 (Bp9 l0 l1) FU 0:Option (Unit⊕Bool))).bind fun o=>match o with
   | .inl ()=>some true
   | .inr v=>some v)
def Bo2  : Option Bool:=
 (Dh0 ).bind fun o=>match o with
 | (t1,t2,t3,t4,t5,t6)=>
 (some [(nf 4607182418800017408),(nf 4607182418800017408)]).bind fun t7=>
 (some [(nf 4618441417868443648),(nf 4616189618054758400)]).bind fun t8=>
 (Ah8 t1 t2 t3 t7 t8).bind fun o=>match o with
 | (t9,t10)=>
 (some [(nf 4617315517961601024),(nf 4616189618054758400)]).bind fun t11=>
 (Ap9 t1 t2 t3 t4 t5 t6 t11 8).bind fun o=>match o with
 | (t12,t13,t14)=>
 (some [(nf 4607182418800017408),(nf 4607182418800017408)]).bind fun t15=>
 (some [(nf 4877398396442247168),(nf 4607182418800017408)]).bind fun t16=>
 (some [(nf 4877398396442247168)]).bind fun t17=>
 (Ah8 1 2 t15 t16 t17).bind fun o=>match o with
 | (t18,t19)=>
 cond (t10==0)
  (cond (t14==0)
    (cond (t19==0)
      ((some [(nf 4607182418800017408),(nf 0)]).bind fun t20=>
       (Bd8 t9 t20).bind fun t21=>
       cond t21
        ((some ((t12.length:Nat):Int)).bind fun t22=>
         cond (t22==2)
          ((atI t12 0).bind fun t23=>
           (some (fgt t23 (nf 4607092346807469998))).bind fun t24=>
           cond t24
            ((atI t12 0).bind fun t25=>
             (some (flt t25 (nf 4607227454796291113))).bind fun t26=>
             cond t26
              (cond (decide (t13≤8))
                ((some [(nf 13830554455654793216)]).bind fun t27=>
                 (Bd8 t18 t27).bind fun t28=>
                 some t28)
                (some false))
              (some false))
            (some false))
          (some false))
        (some false))
      (some false))
    (some false))
  (some false)
def Bg6 (q0_0:Int) (q0_1:Int) (l0_2:List Nat):Option Bool:=
 (some ((l0_2.length:Nat):Int)).bind fun t1=>
 some (decide (t1>100))
def Am0 (l0:List Nat):Option (List Nat):=
 cond (decide (l0.length≤4294967000)) (some l0) none
def Ba9 (q0_0:Int) (q0_1:Int) (l0_2:List Nat):Option (Int×Int×List Nat):=
 (Am0 l0_2).bind fun t1=>
 some (q0_0,q0_1,t1)
def Bb0 (q0_0:Int) (l0_1:List Nat) (l0_2:List Nat):Option (Int×List Nat×List Nat):=
 (Am0 l0_1).bind fun t1=>
 (Am0 l0_2).bind fun t2=>
 some (q0_0,t1,t2)
def Cf3 (q0:Int):Option Bool:=
 cond (decide (q0≥0))
  (some (decide (q0≤48)))
  (some false)
def Bn5 (q0_0:Int) (q0_1:Int) (l0_2:List Nat):Option Bool:=
 (Cf3 q0_0).bind fun t1=>
 cond t1
  ((Cf3 q0_1).bind fun t2=>
   cond t2
    ((some ((l0_2.length:Nat):Int)).bind fun t3=>
     some (t3==(i64.wrap (q0_0*q0_1))))
    (some false))
  (some false)
def Cd8 (q0_0:Int) (l0_1:List Nat) (l0_2:List Nat):Option Bool:=
 cond (decide (q0_0≥0))
  (cond (decide (q0_0≤48))
    ((some ((l0_1.length:Nat):Int)).bind fun t1=>
     cond (t1==(i64.wrap ((i64.wrap (q0_0*(i64.wrap (q0_0-1)))).tdiv 2)))
      ((some ((l0_2.length:Nat):Int)).bind fun t2=>
       some (t2==q0_0))
      (some false))
    (some false))
  (some false)
def Bl0 (q0_0:Int) (q0_1:Int) (l0_2:List Nat) (q1_0:Int) (l1_1:List Nat) (l1_2:List Nat):Option Bool:=
 (Bn5 q0_0 q0_1 l0_2).bind fun t1=>
 cond t1
  ((Cd8 q1_0 l1_1 l1_2).bind fun t2=>
   cond t2
    (cond (q0_0==q1_0)
      (some (q0_1==q1_0))
      (some false))
    (some false))
  (some false)
def Ax7 (l0:List Nat):Int→Option (Int⊕(Unit⊕Bool)):=fun st=>match st with
| t1=>
 (some ((l0.length:Nat):Int)).bind fun t2=>
 cond (decide (t1<t2))
  ((atI l0 t1).bind fun t3=>
   (atI l0 t1).bind fun t4=>
   (some (Bn1 t3 t4)).bind fun t5=>
   (some (!feq t5 (nf 0))).bind fun t6=>
   cond t6
    (some (.inr (.inr false)))
    (some (.inl (i64.wrap (t1+1)))))
  (some (.inr (.inl ())))
def Ag2 (l0:List Nat):Option Bool:=
 ((Ag0 (Ax7 l0) FU 0:Option (Unit⊕Bool))).bind fun o=>match o with
 | .inl ()=>some true
 | .inr v=>some v
def Bf4 (q0_0:Int) (l0_1:List Nat) (l0_2:List Nat):Option Bool:=
 cond (decide (q0_0≥0))
  (cond (decide (q0_0≤48))
    ((some ((l0_1.length:Nat):Int)).bind fun t1=>
     cond (t1==(i64.wrap ((i64.wrap (q0_0*(i64.wrap (q0_0-1)))).tdiv 2)))
      ((some ((l0_2.length:Nat):Int)).bind fun t2=>
       some (t2==q0_0))
      (some false))
    (some false))
  (some false)
def Cm2 (q0_0:Int) (l0_1:List Nat) (l0_2:List Nat) (q1:Int) (q2:Int):Option Nat:=
 (atI l0_1 (i64.wrap ((i64.wrap ((i64.wrap (q1*(i64.wrap (q1-1)))).tdiv 2))+q2))).bind fun t1=>
 some t1
def Aj6 (t6:Int) (t7:List Nat) (q0_0:Int) (l0_1:List Nat) (l0_2:List Nat):(Nat×Int)→Option ((Nat×Int)⊕(Nat)):=fun st=>match st with
| (t10,t11)=>
 cond (decide (t11<t6))
  ((atI t7 t11).bind fun t12=>
   (Cm2 q0_0 l0_1 l0_2 t6 t11).bind fun t13=>
   (some (Cq0 t13 t12)).bind fun t14=>
   (some (Bn1 t10 t14)).bind fun t15=>
   some (.inl (t15,(i64.wrap (t11+1)))))
  (some (.inr t10))
def Ak1 (q0_0:Int) (l1:List Nat) (l0_1:List Nat) (l0_2:List Nat):(Int×List Nat)→Option ((Int×List Nat)⊕(List Nat)):=fun st=>match st with
| (t6,t7)=>
 cond (decide (t6<q0_0))
  ((atI l1 t6).bind fun t8=>
   (Ag0 (Aj6 t6 t7 q0_0 l0_1 l0_2) FU (t8,0)).bind fun t9=>
   (atI t7 t6).bind fun t16=>
   (some (t7.set (t6).toNat t9)).bind fun t17=>
   some (.inl ((i64.wrap (t6+1)),t17)))
  (some (.inr t7))
def Ah6 (q0_0:Int) (l0_1:List Nat) (l0_2:List Nat) (l1:List Nat):Option (List Nat×Int):=
 ((Bf4 q0_0 l0_1 l0_2).bind fun t2=>
  cond (!(!t2))
   ((some ((l1.length:Nat):Int)).bind fun t3=>
    some (t3 != q0_0))
   (some true)).bind fun t1=>
 cond t1
  (some ((List.map nf []),4))
  ((mkL (nf 0) q0_0 q0_0).bind fun t4=>
   (Ag0 (Ak1 q0_0 l1 l0_1 l0_2) FU (0,t4)).bind fun t5=>
   some (t5,0))
def Al3 (l0_2:List Nat):Int→Option (Int⊕(Unit⊕Bool)):=fun st=>match st with
| t1=>
 (some ((l0_2.length:Nat):Int)).bind fun t2=>
 cond (decide (t1<t2))
  ((atI l0_2 t1).bind fun t3=>
   (some (feq t3 (nf 0))).bind fun t4=>
   cond t4
    (some (.inr (.inr true)))
    (some (.inl (i64.wrap (t1+1)))))
  (some (.inr (.inl ())))
def Az7 (q0_0:Int) (l0_1:List Nat) (l0_2:List Nat):Option Bool:=
 ((Ag0 (Al3 l0_2) FU 0:Option (Unit⊕Bool))).bind fun o=>match o with
 | .inl ()=>some false
 | .inr v=>some v
def At3 (q0_0:Int) (t8:List Nat) (l0_1:List Nat) (l0_2:List Nat) (t7:Int):(Nat×Int)→Option ((Nat×Int)⊕(Nat)):=fun st=>match st with
| (t13,t14)=>
 cond (decide (t14<q0_0))
  ((atI t8 t14).bind fun t15=>
   (Cm2 q0_0 l0_1 l0_2 t14 t7).bind fun t16=>
   (some (Cq0 t16 t15)).bind fun t17=>
   (some (Bn1 t13 t17)).bind fun t18=>
   some (.inl (t18,(i64.wrap (t14+1)))))
  (some (.inr t13))
def As6 (l1:List Nat) (l0_2:List Nat) (q0_0:Int) (l0_1:List Nat):(Int×List Nat)→Option ((Int×List Nat)⊕(List Nat)):=fun st=>match st with
| (t7,t8)=>
 cond (decide (t7≥0))
  ((atI l1 t7).bind fun t9=>
   (atI l0_2 t7).bind fun t10=>
   (some (fdiv t9 t10)).bind fun t11=>
   (Ag0 (At3 q0_0 t8 l0_1 l0_2 t7) FU (t11,(i64.wrap (t7+1)))).bind fun t12=>
   (atI t8 t7).bind fun t19=>
   (some (t8.set (t7).toNat t12)).bind fun t20=>
   some (.inl ((i64.wrap (t7-1)),t20)))
  (some (.inr t8))
def Am9 (q0_0:Int) (l0_1:List Nat) (l0_2:List Nat) (l1:List Nat):Option (List Nat×Int):=
 ((Bf4 q0_0 l0_1 l0_2).bind fun t2=>
  cond (!(!t2))
   ((some ((l1.length:Nat):Int)).bind fun t3=>
    some (t3 != q0_0))
   (some true)).bind fun t1=>
 cond t1
  (some ((List.map nf []),4))
  ((Az7 q0_0 l0_1 l0_2).bind fun t4=>
   cond t4
    (some ((List.map nf []),7))
    ((mkL (nf 0) q0_0 q0_0).bind fun t5=>
     (Ag0 (As6 l1 l0_2 q0_0 l0_1) FU ((i64.wrap (q0_0-1)),t5)).bind fun t6=>
     some (t6,0)))
def Ar7 (q0_0:Int) (l0_1:List Nat) (l0_2:List Nat) (l1:List Nat):Option (List Nat×Int):=
 (Ah6 q0_0 l0_1 l0_2 l1).bind fun o=>match o with
 | (t1,t2)=>
 cond (t2 != 0)
  (some ((List.map nf []),t2))
  ((Am9 q0_0 l0_1 l0_2 t1).bind fun o=>match o with
   | (t3,t4)=>
   some (t3,t4))
def Br1 (q0_0:Int) (q0_1:Int) (l0_2:List Nat) (l1:List Nat) (l2:List Nat):Option Bool:=
 (Bn5 q0_0 q0_1 l0_2).bind fun t1=>
 cond t1
  ((some ((l1.length:Nat):Int)).bind fun t2=>
   cond (t2==q0_1)
    ((some ((l2.length:Nat):Int)).bind fun t3=>
     some (t3==q0_0))
    (some false))
  (some false)
def Bi1 (p0:Nat):Option (Bool×Int×Int):=
 (Ac4 p0).bind fun t1=>
 some (((t1.fdiv (2^(min (63:Int).toNat u64.bits)))==1),(i64.wrap ((u64.wrap (t1.tdiv 4503599627370496)).tmod 2048)),(t1.tmod 4503599627370496))
def Bv7 (p0:Nat):Option Int:=
 some (if Cw1 p0=2047 then (if Bk2 p0=0 then 3 else 4) else if Cw1 p0=0 then (if Bk2 p0=0 then 0 else 1) else 2)
def Bc8 (p0:Nat):Option Bool:=
 (Bv7 p0).bind fun t1=>
 some (decide (t1<3))
def Ag7  : (Int×Int)→Option ((Int×Int)⊕((Int×Int))):=fun st=>match st with
| (t10,t11)=>
 cond (t10 != 0)
  (cond ((t10.tmod 2)==0)
    (some (.inl ((u64.wrap (t10.tdiv 2)),(i64.wrap (t11+1)))))
    (some (.inr (t10,t11))))
  (some (.inr (t10,t11)))
def Az3 (p0:Nat):Option (Bool×Int×Int×Bool):=
 (Bc8 p0).bind fun t1=>
 cond (!t1)
  (some (false,0,0,false))
  ((Bi1 p0).bind fun o=>match o with
   | (t2,t3,t4)=>
   (cond (decide (t3>0))
     (some ((u64.wrap (t4+4503599627370496)),(i64.wrap (t3-1075))))
     (some (t4,(-1074)))).bind fun o=>match o with
   | (t5,t6)=>
   (cond (t5==0)
     (some 0)
     (some t6)).bind fun t7=>
   (Ag0 (Ag7) FU (t5,t7)).bind fun o=>match o with
   | (t8,t9)=>some (t2,t8,t9,true))
def Ah2 (l0:List Int):Int→Option (Int⊕(Int)):=fun st=>match st with
| t3=>
 cond (decide (t3>0))
  ((atI l0 (i64.wrap (t3-1))).bind fun t4=>
   cond (t4==0)
    (some (.inl (i64.wrap (t3-1))))
    (some (.inr t3)))
  (some (.inr t3))
def Ah7 (l0:List Int):Option (List Int):=
 (some ((l0.length:Nat):Int)).bind fun t1=>
 (Ag0 (Ah2 l0) FU t1).bind fun t2=>
 (Cy1 l0 0 t2).bind fun t5=>
 (Eg7 ([]:List Int) t5).bind fun t6=>
 some t6
def Af7 (q0:Int):Option (List Int):=
 (some [q0]).bind fun t1=>
 (Ah7 t1).bind fun t2=>
 some t2
def Av4 (p0:Nat):Option (Bool×List Int×Int):=
 (Az3 p0).bind fun o=>match o with
 | (t1,t2,t3,t4)=>
 (Af7 t2).bind fun t5=>
 some (t1,t5,t3)
def Bu1 (l0:List Int):Int→Option (Int⊕(Int)):=fun st=>match st with
| t3=>
 cond (decide (t3>0))
  ((atI l0 (i64.wrap (t3-1))).bind fun t4=>
   cond (t4==0)
    (some (.inl (i64.wrap (t3-1))))
    (some (.inr t3)))
  (some (.inr t3))
def Bf6 (l0:List Int):Option Int:=
 (some ((l0.length:Nat):Int)).bind fun t1=>
 (Ag0 (Bu1 l0) FU t1).bind fun t2=>
 (Cy1 l0 0 t2).bind fun t5=>
 some t2
def Am7 (l0:List Int):(Int×List Int)→Option ((Int×List Int)⊕(List Int)):=fun st=>match st with
| (t2,t3)=>
 (some ((l0.length:Nat):Int)).bind fun t4=>
 cond (decide (t2<t4))
  ((atI l0 t2).bind fun t5=>
   (atI l0 t2).bind fun t6=>
   (some [(t5.tmod 4294967296),(u64.wrap (t6.tdiv 4294967296))]).bind fun t7=>
   (Eg7 t3 t7).bind fun t8=>
   some (.inl ((i64.wrap (t2+1)),t8)))
  (some (.inr t3))
def Ag4 (l0:List Int):Option (List Int):=
 (Ag0 (Am7 l0) FU (0,([]:List Int))).bind fun t1=>
 (Bf6 t1).bind fun t9=>
 (Cy1 t1 0 t9).bind fun t10=>
 some t10
def Ak3 (l1:List Int) (l0:List Int) (t5:Int):(Int×Int×List Int)→Option ((Int×Int×List Int)⊕((Int×List Int))):=fun st=>match st with
| (t10,t11,t12)=>
 (some ((l1.length:Nat):Int)).bind fun t13=>
 cond (decide (t11<t13))
  ((atI l0 t5).bind fun t14=>
   (atI l1 t11).bind fun t15=>
   (atI t12 (i64.wrap (t5+t11))).bind fun t16=>
   (atI t12 (i64.wrap (t5+t11))).bind fun t17=>
   (some (t12.set ((i64.wrap (t5+t11))).toNat ((u64.wrap ((u64.wrap ((u64.wrap (t14*t15))+t16))+t10)).tmod 4294967296))).bind fun t18=>
   some (.inl ((u64.wrap ((u64.wrap ((u64.wrap ((u64.wrap (t14*t15))+t16))+t10)).tdiv 4294967296)),(i64.wrap (t11+1)),t18)))
  (some (.inr (t10,t12)))
def Ak4 (l0:List Int) (l1:List Int):(Int×List Int)→Option ((Int×List Int)⊕(List Int)):=fun st=>match st with
| (t5,t6)=>
 (some ((l0.length:Nat):Int)).bind fun t7=>
 cond (decide (t5<t7))
  ((Ag0 (Ak3 l1 l0 t5) FU (0,0,t6)).bind fun o=>match o with
   | (t8,t9)=>
   (some ((l1.length:Nat):Int)).bind fun t19=>
   (atI t9 (i64.wrap (t5+t19))).bind fun t20=>
   (some (t9.set ((i64.wrap (t5+t19))).toNat t8)).bind fun t21=>
   some (.inl ((i64.wrap (t5+1)),t21)))
  (some (.inr t6))
def Ay0 (l0:List Int) (l1:List Int):Option (List Int):=
 (some ((l0.length:Nat):Int)).bind fun t1=>
 (some ((l1.length:Nat):Int)).bind fun t2=>
 (mkL 0 (i64.wrap (t1+t2)) (i64.wrap (t1+t2))).bind fun t3=>
 (Ag0 (Ak4 l0 l1) FU (0,t3)).bind fun t4=>
 (Bf6 t4).bind fun t22=>
 (Cy1 t4 0 t22).bind fun t23=>
 some t23
def Ap5 (l0:List Int):(Int×List Int)→Option ((Int×List Int)⊕(List Int)):=fun st=>match st with
| (t2,t3)=>
 (some ((l0.length:Nat):Int)).bind fun t4=>
 cond (decide (t2<t4))
  ((atI l0 t2).bind fun t5=>
   (some ((l0.length:Nat):Int)).bind fun t6=>
   (cond (decide ((i64.wrap (t2+1))<t6))
     ((atI l0 (i64.wrap (t2+1))).bind fun t8=>
      some (u64.wrap (t5+(u64.wrap (4294967296*t8)))))
     (some t5)).bind fun t7=>
   (some [t7]).bind fun t9=>
   (Eg7 t3 t9).bind fun t10=>
   some (.inl ((i64.wrap (t2+2)),t10)))
  (some (.inr t3))
def Ao2 (l0:List Int):Option (List Int):=
 (Ag0 (Ap5 l0) FU (0,([]:List Int))).bind fun t1=>
 (Ah7 t1).bind fun t11=>
 some t11
def Bd0 (l0:List Int) (l1:List Int):Option (List Int):=
 (Ag4 l0).bind fun t1=>
 (Ag4 l1).bind fun t2=>
 (Ay0 t1 t2).bind fun t3=>
 (Ao2 t3).bind fun t4=>
 some t4
def Bh1 (q0_0:Bool) (l0_1:List Int) (q0_2:Int) (q1_0:Bool) (l1_1:List Int) (q1_2:Int):Option (Bool×List Int×Int):=
 (Bd0 l0_1 l1_1).bind fun t1=>
 some ((!(q0_0==q1_0)),t1,(i64.wrap (q0_2+q1_2)))
def Bp3 (q0_0:Bool) (l0_1:List Int) (q0_2:Int):Option (Bool×List Int×Int):=
 some ((!q0_0),l0_1,q0_2)
def Ak6  : (Int×Int)→Option ((Int×Int)⊕(Int)):=fun st=>match st with
| (t7,t8)=>
 cond (decide (t8>0))
  (some (.inl ((i64.wrap (t7+1)),(u64.wrap (t8.tdiv 2)))))
  (some (.inr t7))
def Ao4 (l0:List Int):Option Int:=
 (Ah7 l0).bind fun t1=>
 (some ((t1.length:Nat):Int)).bind fun t2=>
 cond (t2==0)
  (some 0)
  ((some ((t1.length:Nat):Int)).bind fun t3=>
   (some ((t1.length:Nat):Int)).bind fun t4=>
   (atI t1 (i64.wrap (t4-1))).bind fun t5=>
   (Ag0 (Ak6) FU ((i64.wrap (64*(i64.wrap (t3-1)))),t5)).bind fun t6=>
   some t6)
def Ag6 (q0_0:Bool) (l0_1:List Int) (q0_2:Int):Option Bool:=
 (Ao4 l0_1).bind fun t1=>
 some (t1==0)
def Ba4 (q1:Int):(Int×Int)→Option ((Int×Int)⊕(Int)):=fun st=>match st with
| (t5,t6)=>
 cond (decide (t6<(q1.tmod 32)))
  (some (.inl ((u64.wrap (2*t5)),(i64.wrap (t6+1)))))
  (some (.inr t5))
def Ap3 (t1:List Int) (t4:Int):(Int×Int×List Int)→Option ((Int×Int×List Int)⊕((Int×List Int))):=fun st=>match st with
| (t9,t10,t11)=>
 (some ((t1.length:Nat):Int)).bind fun t12=>
 cond (decide (t10<t12))
  ((atI t1 t10).bind fun t13=>
   (some [((u64.wrap ((u64.wrap (t13*t4))+t9)).tmod 4294967296)]).bind fun t14=>
   (Eg7 t11 t14).bind fun t15=>
   some (.inl ((u64.wrap ((u64.wrap ((u64.wrap (t13*t4))+t9)).tdiv 4294967296)),(i64.wrap (t10+1)),t15)))
  (some (.inr (t9,t11)))
def Ao3 (l0:List Int) (q1:Int):Option (List Int):=
 (Ag4 l0).bind fun t1=>
 (some ((t1.length:Nat):Int)).bind fun t2=>
 cond (t2==0)
  (some ([]:List Int))
  ((mkL 0 (i64.wrap (q1.tdiv 32)) (i64.wrap (q1.tdiv 32))).bind fun t3=>
   (Ag0 (Ba4 q1) FU (1,0)).bind fun t4=>
   (Ag0 (Ap3 t1 t4) FU (0,0,t3)).bind fun o=>match o with
   | (t7,t8)=>
   (some [t7]).bind fun t16=>
   (Eg7 t8 t16).bind fun t17=>
   (Ao2 t17).bind fun t18=>
   some t18)
def Av8 (l0:List Int) (q1:Int):Option Int:=
 (some ((l0.length:Nat):Int)).bind fun t1=>
 cond (decide (q1<t1))
  ((atI l0 q1).bind fun t2=>
   some t2)
  (some 0)
def Aj0 (t1:List Int) (t2:List Int):(Int×Int×List Int)→Option ((Int×Int×List Int)⊕(List Int)):=fun st=>match st with
| (t4,t5,t6)=>
 ((some ((t1.length:Nat):Int)).bind fun t8=>
  cond (!(decide (t5<t8)))
   ((some ((t2.length:Nat):Int)).bind fun t9=>
    cond (!(decide (t5<t9)))
     (some (decide (t4>0)))
     (some true))
   (some true)).bind fun t7=>
 cond t7
  ((Av8 t1 t5).bind fun t10=>
   (Av8 t2 t5).bind fun t11=>
   (some [((u64.wrap ((u64.wrap (t10+t11))+t4)).tmod 4294967296)]).bind fun t12=>
   (Eg7 t6 t12).bind fun t13=>
   some (.inl ((u64.wrap ((u64.wrap ((u64.wrap (t10+t11))+t4)).tdiv 4294967296)),(i64.wrap (t5+1)),t13)))
  (some (.inr t6))
def Ae2 (l0:List Int) (l1:List Int):Option (List Int):=
 (Ag4 l0).bind fun t1=>
 (Ag4 l1).bind fun t2=>
 (Ag0 (Aj0 t1 t2) FU (0,0,([]:List Int))).bind fun t3=>
 (Ao2 t3).bind fun t14=>
 some t14
def Ai7 (t1:List Int) (t2:List Int):Int→Option (Int⊕(Unit⊕Int)):=fun st=>match st with
| t8=>
 cond (decide (t8≥0))
  ((atI t1 t8).bind fun t9=>
   (atI t2 t8).bind fun t10=>
   cond (decide (t9<t10))
    (some (.inr (.inr (-1))))
    ((atI t1 t8).bind fun t11=>
     (atI t2 t8).bind fun t12=>
     cond (decide (t11>t12))
      (some (.inr (.inr 1)))
      (some (.inl (i64.wrap (t8-1))))))
  (some (.inr (.inl ())))
def Ar2 (l0:List Int) (l1:List Int):Option Int:=
 (Ah7 l0).bind fun t1=>
 (Ah7 l1).bind fun t2=>
 (some ((t1.length:Nat):Int)).bind fun t3=>
 (some ((t2.length:Nat):Int)).bind fun t4=>
 cond (t3 != t4)
  ((some ((t1.length:Nat):Int)).bind fun t5=>
   (some ((t2.length:Nat):Int)).bind fun t6=>
   cond (decide (t5<t6))
    (some (-1))
    (some 1))
  ((some ((t1.length:Nat):Int)).bind fun t7=>
   ((Ag0 (Ai7 t1 t2) FU (i64.wrap (t7-1)):Option (Unit⊕Int))).bind fun o=>match o with
   | .inl ()=>some 0
   | .inr v=>some v)
def Am6 (t1:List Int) (t2:List Int):(Int×Int×List Int)→Option ((Int×Int×List Int)⊕(List Int)):=fun st=>match st with
| (t4,t5,t6)=>
 (some ((t1.length:Nat):Int)).bind fun t7=>
 cond (decide (t5<t7))
  ((atI t1 t5).bind fun t8=>
   (Av8 t2 t5).bind fun t9=>
   (some [((u64.wrap ((u64.wrap ((u64.wrap (4294967296+t8))-t9))-t4)).tmod 4294967296)]).bind fun t10=>
   (Eg7 t6 t10).bind fun t11=>
   some (.inl ((u64.wrap (1-(u64.wrap ((u64.wrap ((u64.wrap ((u64.wrap (4294967296+t8))-t9))-t4)).tdiv 4294967296)))),(i64.wrap (t5+1)),t11)))
  (some (.inr t6))
def Ai3 (l0:List Int) (l1:List Int):Option (List Int):=
 (Ag4 l0).bind fun t1=>
 (Ag4 l1).bind fun t2=>
 (Ag0 (Am6 t1 t2) FU (0,0,([]:List Int))).bind fun t3=>
 (Ao2 t3).bind fun t12=>
 some t12
def Cd2 (q0_0:Bool) (l0_1:List Int) (q0_2:Int) (q1_0:Bool) (l1_1:List Int) (q1_2:Int):Option (Bool×List Int×Int):=
 none
def Bo4 (q0_0:Bool) (l0_1:List Int) (q0_2:Int) (q1_0:Bool) (l1_1:List Int) (q1_2:Int):Option (Bool×List Int×Int):=
 (Ag6 q0_0 l0_1 q0_2).bind fun t1=>
 cond t1
  (some (q1_0,l1_1,q1_2))
  ((Ag6 q1_0 l1_1 q1_2).bind fun t2=>
   cond t2
    (some (q0_0,l0_1,q0_2))
    (cond (decide (q0_2>q1_2))
      ((Cd2 q1_0 l1_1 q1_2 q0_0 l0_1 q0_2).bind fun o=>match o with
       | (t3,t4,t5)=>
       some (t3,t4,t5))
      ((Ao3 l1_1 (i64.wrap (q1_2-q0_2))).bind fun t6=>
       cond (q0_0==q1_0)
        ((Ae2 l0_1 t6).bind fun t7=>
         some (q0_0,t7,q0_2))
        ((Ar2 l0_1 t6).bind fun t8=>
         cond (decide (t8≥0))
          ((Ai3 l0_1 t6).bind fun t9=>
           some (q0_0,t9,q0_2))
          ((Ai3 t6 l0_1).bind fun t10=>
           some (q1_0,t10,q0_2))))))
def Bk7 (q0_0:Bool) (l0_1:List Int) (q0_2:Int) (q1_0:Bool) (l1_1:List Int) (q1_2:Int):Option (Bool×List Int×Int):=
 (Ag6 q0_0 l0_1 q0_2).bind fun t1=>
 cond t1
  (some (q1_0,l1_1,q1_2))
  ((Ag6 q1_0 l1_1 q1_2).bind fun t2=>
   cond t2
    (some (q0_0,l0_1,q0_2))
    (cond (decide (q0_2>q1_2))
      ((Bo4 q1_0 l1_1 q1_2 q0_0 l0_1 q0_2).bind fun o=>match o with
       | (t3,t4,t5)=>
       some (t3,t4,t5))
      ((Ao3 l1_1 (i64.wrap (q1_2-q0_2))).bind fun t6=>
       cond (q0_0==q1_0)
        ((Ae2 l0_1 t6).bind fun t7=>
         some (q0_0,t7,q0_2))
        ((Ar2 l0_1 t6).bind fun t8=>
         cond (decide (t8≥0))
          ((Ai3 l0_1 t6).bind fun t9=>
           some (q0_0,t9,q0_2))
          ((Ai3 t6 l0_1).bind fun t10=>
           some (q1_0,t10,q0_2))))))
def Ax9 (q0_0:Bool) (l0_1:List Int) (q0_2:Int):Option Int:=
 (Ao4 l0_1).bind fun t1=>
 some (i64.wrap (q0_2+t1))
def Ap2 (l0:List Int) (q1:Int):(Int×Int×List Int)→Option ((Int×Int×List Int)⊕((Int×List Int))):=fun st=>match st with
| (t6,t7,t8)=>
 cond (decide (t7≥0))
  ((atI l0 t7).bind fun t9=>
   (nz q1).bind fun t13=>
   (atI t8 t7).bind fun t10=>
   (some (t8.set (t7).toNat (u64.wrap ((u64.wrap ((u64.wrap (t6*4294967296))+t9)).tdiv q1)))).bind fun t11=>
   (nz q1).bind fun t12=>
   some (.inl (((u64.wrap ((u64.wrap (t6*4294967296))+t9)).tmod q1),(i64.wrap (t7-1)),t11)))
  (some (.inr (t6,t8)))
def Bf8 (l0:List Int) (q1:Int):Option (List Int×Int):=
 (some ((l0.length:Nat):Int)).bind fun t1=>
 (mkL 0 t1 t1).bind fun t2=>
 (some ((l0.length:Nat):Int)).bind fun t3=>
 (Ag0 (Ap2 l0 q1) FU (0,(i64.wrap (t3-1)),t2)).bind fun o=>match o with
 | (t4,t5)=>
 (Bf6 t5).bind fun t14=>
 (Cy1 t5 0 t14).bind fun t15=>
 some (t15,t4)
def Ak0 (q1:Int) (t1:List Int):(Bool×Int)→Option ((Bool×Int)⊕(Bool)):=fun st=>match st with
| (t3,t4)=>
 cond (decide (t4<(i64.wrap (q1.tdiv 32))))
  ((some ((t1.length:Nat):Int)).bind fun t5=>
   cond (decide (t4<t5))
    (cond (!t3)
      ((atI t1 t4).bind fun t6=>
       some (.inl ((t6 != 0),(i64.wrap (t4+1)))))
      (some (.inl (true,(i64.wrap (t4+1))))))
    (some (.inr t3)))
  (some (.inr t3))
def Au9 (q1:Int):(Int×Int)→Option ((Int×Int)⊕(Int)):=fun st=>match st with
| (t9,t10)=>
 cond (decide (t10<(q1.tmod 32)))
  (some (.inl ((u64.wrap (2*t9)),(i64.wrap (t10+1)))))
  (some (.inr t9))
def Al1 (l0:List Int) (q1:Int):Option (List Int×Bool):=
 (Ag4 l0).bind fun t1=>
 (Ag0 (Ak0 q1 t1) FU (false,0)).bind fun t2=>
 (some ((t1.length:Nat):Int)).bind fun t7=>
 cond (decide ((i64.wrap (q1.tdiv 32))≥t7))
  (some (([]:List Int),t2))
  ((Ag0 (Au9 q1) FU (1,0)).bind fun t8=>
   (some ((t1.length:Nat):Int)).bind fun t12=>
   (Cy1 t1 (i64.wrap (q1.tdiv 32)) t12).bind fun t11=>
   (Bf8 t11 t8).bind fun o=>match o with
   | (t13,t14)=>
   (Ao2 t13).bind fun t15=>
   cond (!t2)
    (some (t15,(t14 != 0)))
    (some (t15,true)))
def Ax3 (q0:Int) (q1:Bool) (q2:Int) (q3:Bool):Option Bool:=
 cond (q0==1)
  (some q1)
  (cond (q0==2)
    (some (!q1))
    (cond (q0==3)
      (some false)
      (cond (!(decide (q2>0)))
        (cond (q2==0)
          (some q3)
          (some false))
        (some true))))
def Ah5  : (Int×Int)→Option ((Int×Int)⊕((Int×Int))):=fun st=>match st with
| (t4,t5)=>
 cond (t4 != 0)
  (cond (decide (t4<4503599627370496))
    (cond (decide (t5>(-1074)))
      (some (.inl ((u64.wrap (2*t4)),(i64.wrap (t5-1)))))
      (some (.inr (t4,t5))))
    (some (.inr (t4,t5))))
  (some (.inr (t4,t5)))
def Aw0 (q0_0:Bool) (q0_1:Int) (q0_2:Int):Option (Nat×Bool):=
 (cond (!(decide (q0_1≥9007199254740992)))
   (cond (!(decide (q0_2<(-1074))))
     (cond (!(decide (q0_2>1023)))
       (cond (!(!((q0_1==0)==((q0_1.tmod 2)==0))))
         (cond (q0_1==0)
           (some (q0_2 != 0))
           (some false))
         (some true))
       (some true))
     (some true))
   (some true)).bind fun t1=>
 cond t1
  (some ((nf 0),false))
  ((Ag0 (Ah5) FU (q0_1,q0_2)).bind fun o=>match o with
   | (t2,t3)=>
   cond (decide (t3>971))
    (some ((nf 0),false))
    ((cond (decide (t2≥4503599627370496))
       (some (u64.wrap ((u64.wrap (t2-4503599627370496))+(u64.wrap ((u64.wrap (i64.wrap (t3+1075)))*2^(min (52:Int).toNat u64.bits))))))
       (some t2)).bind fun t6=>
     (cond q0_0
       (some (u64.wrap (t6+9223372036854775808)))
       (some t6)).bind fun t7=>
     (Ab1 t7).bind fun t8=>
     some (t8,true)))
def Bm2 (q0:Int) (q1:Bool):Option Nat:=
 (Aw0 q1 9007199254740991 971).bind fun o=>match o with
 | (t1,t2)=>
 (cond q1
   (some (nf 13830554455654793216))
   (some (nf 4607182418800017408))).bind fun t3=>
 cond (!(q0==3))
  (cond (q0==1)
    (cond (!(!q1))
      (cond (q0==2)
        (cond q1
          (some t1)
          ((some (fdiv t3 (nf 0))).bind fun t4=>
           some t4))
        ((some (fdiv t3 (nf 0))).bind fun t5=>
         some t5))
      (some t1))
    (cond (q0==2)
      (cond q1
        (some t1)
        ((some (fdiv t3 (nf 0))).bind fun t6=>
         some t6))
      ((some (fdiv t3 (nf 0))).bind fun t7=>
       some t7)))
  (some t1)
def Ai5  : (Int×Int)→Option ((Int×Int)⊕((Int×Int))):=fun st=>match st with
| (t4,t5)=>
 cond (decide (t4>0))
  (cond ((t4.tmod 2)==0)
    (some (.inl ((u64.wrap (t4.tdiv 2)),(i64.wrap (t5+1)))))
    (some (.inr (t4,t5))))
  (some (.inr (t4,t5)))
def Bh0 (q0:Bool) (q1:Int) (q2:Int):Option Nat:=
 (cond (q1==0)
   (some 0)
   (some q2)).bind fun t1=>
 (Ag0 (Ai5) FU (q1,t1)).bind fun o=>match o with
 | (t2,t3)=>
 (Aw0 q0 t2 t3).bind fun o=>match o with
 | (t6,t7)=>
 some t6
def At4 (q0_0:Bool) (l0_1:List Int) (q0_2:Int) (q1:Int):Option Nat:=
 (Ag6 q0_0 l0_1 q0_2).bind fun t1=>
 cond t1
  (some (nf 0))
  ((Ax9 q0_0 l0_1 q0_2).bind fun t2=>
   (cond (decide (q0_2≥(if (-1074)>(i64.wrap (t2-53)) then (-1074) else (i64.wrap (t2-53)))))
     ((Ao3 l0_1 (i64.wrap (q0_2-(if (-1074)>(i64.wrap (t2-53)) then (-1074) else (i64.wrap (t2-53)))))).bind fun t4=>
      some t4)
     ((Al1 l0_1 (i64.wrap ((if (-1074)>(i64.wrap (t2-53)) then (-1074) else (i64.wrap (t2-53)))-q0_2))).bind fun o=>match o with
      | (t5,t6)=>
      (cond t6
        ((Al1 l0_1 (i64.wrap ((i64.wrap ((if (-1074)>(i64.wrap (t2-53)) then (-1074) else (i64.wrap (t2-53)))-q0_2))-1))).bind fun o=>match o with
         | (t8,t9)=>
         ((some ((t8.length:Nat):Int)).bind fun t11=>
          cond (decide (t11>0))
           ((atI t8 0).bind fun t12=>
            some ((t12.tmod 2)==1))
           (some false)).bind fun t10=>
         (cond t10
           ((cond t9
              (some 1)
              (some 0)).bind fun t14=>
            some t14)
           (some (-1))).bind fun t13=>
         (some ((t5.length:Nat):Int)).bind fun t15=>
         cond (decide (t15>0))
          ((atI t5 0).bind fun t16=>
           (Ax3 q1 q0_0 t13 ((t16.tmod 2)==1)).bind fun t17=>
           (cond t17
             ((Af7 1).bind fun t19=>
              (Ae2 t5 t19).bind fun t20=>
              some t20)
             (some t5)).bind fun t18=>
           some t18)
          ((Ax3 q1 q0_0 t13 false).bind fun t21=>
           (cond t21
             ((Af7 1).bind fun t23=>
              (Ae2 t5 t23).bind fun t24=>
              some t24)
             (some t5)).bind fun t22=>
           some t22))
        (some t5)).bind fun t7=>
      some t7)).bind fun t3=>
   (Ao4 t3).bind fun t25=>
   cond (decide ((i64.wrap (t25+(if (-1074)>(i64.wrap (t2-53)) then (-1074) else (i64.wrap (t2-53)))))>1024))
    ((Bm2 q1 q0_0).bind fun t26=>
     some t26)
    ((some ((t3.length:Nat):Int)).bind fun t27=>
     (cond (decide (t27>0))
       ((atI t3 0).bind fun t29=>
        some t29)
       (some 0)).bind fun t28=>
     (Bh0 q0_0 t28 (if (-1074)>(i64.wrap (t2-53)) then (-1074) else (i64.wrap (t2-53)))).bind fun t30=>
     some t30))
def Ay1 (q0_1:Int) (l0_2:List Nat) (t7:Int) (l1:List Nat):(Int×Bool×Int×List Int)→Option ((Int×Bool×Int×List Int)⊕((Bool×Int×List Int))):=fun st=>match st with
| (t16,t17,t18,t19)=>
 cond (decide (t16<q0_1))
  (((atI l0_2 (i64.wrap ((i64.wrap (t7*q0_1))+t16))).bind fun t23=>
    (atI l1 t16).bind fun t24=>
    (Av4 t23).bind fun o=>match o with
    | (t25,t26,t27)=>
    (Av4 t24).bind fun o=>match o with
    | (t28,t29,t30)=>
    (Bh1 t25 t26 t27 t28 t29 t30).bind fun o=>match o with
    | (t31,t32,t33)=>
    some (t31,t33,t32)).bind fun o=>match o with
   | (t20,t21,t22)=>
   (Bp3 t20 t22 t21).bind fun o=>match o with
   | (t34,t35,t36)=>
   (Bk7 t17 t19 t18 t34 t22 t36).bind fun o=>match o with
   | (t37,t38,t39)=>
   some (.inl ((i64.wrap (t16+1)),t37,t39,t38)))
  (some (.inr (t17,t18,t19)))
def As9 (q0_0:Int) (l2:List Nat) (q0_1:Int) (l0_2:List Nat) (l1:List Nat):(Int×List Nat)→Option ((Int×List Nat)⊕(List Nat)):=fun st=>match st with
| (t7,t8)=>
 cond (decide (t7<q0_0))
  ((atI l2 t7).bind fun t9=>
   (Av4 t9).bind fun o=>match o with
   | (t10,t11,t12)=>
   (Ag0 (Ay1 q0_1 l0_2 t7 l1) FU (0,t10,t12,t11)).bind fun o=>match o with
   | (t13,t14,t15)=>
   (At4 t13 t15 t14 0).bind fun t40=>
   (some [t40]).bind fun t41=>
   (Eg7 t8 t41).bind fun t42=>
   some (.inl ((i64.wrap (t7+1)),t42)))
  (some (.inr t8))
def Az9 (q0_0:Int) (q0_1:Int) (l0_2:List Nat) (l1:List Nat) (l2:List Nat):Option (List Nat×Int):=
 (Br1 q0_0 q0_1 l0_2 l1 l2).bind fun t1=>
 cond (!t1)
  (some ((List.map nf []),4))
  (((Ag2 l0_2).bind fun t3=>
    cond (!(!t3))
     ((Ag2 l1).bind fun t4=>
      cond (!(!t4))
       ((Ag2 l2).bind fun t5=>
        some (!t5))
       (some true))
     (some true)).bind fun t2=>
   cond t2
    (some ((List.map nf []),5))
    ((Ag0 (As9 q0_0 l2 q0_1 l0_2 l1) FU (0,(List.map nf []))).bind fun t6=>
     (Ag2 t6).bind fun t43=>
     cond (!t43)
      (some ((List.map nf []),6))
      (some (t6,0))))
def Ar9 (p0:Nat):Option Bool:=
 (some (Bn1 p0 p0)).bind fun t1=>
 (some (feq t1 (nf 0))).bind fun t2=>
 some t2
def Bg0 (p0:Nat) (q1:Int):Option Nat:=
 cond (!(q1==3))
  ((some (fgt p0 (nf 0))).bind fun t1=>
   cond t1
    (cond (!(q1==1))
      ((some (flt p0 (nf 0))).bind fun t2=>
       cond t2
        (cond (q1==2)
          ((Ac0 (nf 9218868437227405311) p0).bind fun t3=>
           some t3)
          (some p0))
        (some p0))
      ((Ac0 (nf 9218868437227405311) p0).bind fun t4=>
       some t4))
    ((some (flt p0 (nf 0))).bind fun t5=>
     cond t5
      (cond (q1==2)
        ((Ac0 (nf 9218868437227405311) p0).bind fun t6=>
         some t6)
        (some p0))
      (some p0)))
  ((Ac0 (nf 9218868437227405311) p0).bind fun t7=>
   some t7)
def Bb9 (q0:Bool) (q1:Bool) (p2:Nat) (q3:Int):Option Nat:=
 cond q0
  ((some (feq p2 (nf 0))).bind fun t1=>
   cond t1
    ((Ac9 p2).bind fun t2=>
     cond (q1==t2)
      (some p2)
      (cond (q3==1)
        ((Ac0 (nf 0) (nf 13830554455654793216)).bind fun t3=>
         some t3)
        (some (nf 0))))
    (cond (q3==1)
      ((Ac0 (nf 0) (nf 13830554455654793216)).bind fun t4=>
       some t4)
      (some (nf 0))))
  (cond (q3==1)
    ((Ac0 (nf 0) (nf 13830554455654793216)).bind fun t5=>
     some t5)
    (some (nf 0)))
def Bl8 (p0:Nat):Option Int:=
 (some (flt p0 (nf 0))).bind fun t1=>
 cond t1
  (some (-1))
  ((some (fgt p0 (nf 0))).bind fun t2=>
   cond t2
    (some 1)
    (some 0))
def Be2 (p0:Nat):Option Nat:=
 (Ac4 p0).bind fun t1=>
 (Ab1 (u64.wrap (t1+1))).bind fun t2=>
 some t2
def Bj5 (p0:Nat):Option Nat:=
 (Ac4 p0).bind fun t1=>
 (Ab1 (u64.wrap (t1-1))).bind fun t2=>
 some t2
def Bn4 (p0:Nat):Option Nat:=
 (some (feq p0 (nf 0))).bind fun t1=>
 cond t1
  ((Ab1 1).bind fun t2=>
   some t2)
  ((some (fgt p0 (nf 0))).bind fun t3=>
   cond t3
    ((Be2 p0).bind fun t4=>
     some t4)
    ((Bj5 p0).bind fun t5=>
     some t5))
def Bl7 (p0:Nat):Option Nat:=
 (some (nf (Bn0 p0))).bind fun t1=>
 (Bn4 t1).bind fun t2=>
 (some (nf (Bn0 t2))).bind fun t3=>
 some t3
def Bl9 (p0:Nat) (q1:Int) (q2:Int):Option Nat:=
 (Ac9 p0).bind fun t1=>
 (cond (decide (q1<0))
   (cond (!(q2==1))
     (cond (q2==3)
       (cond (!t1)
         ((some (!feq p0 (nf 0))).bind fun t3=>
          some t3)
         (some false))
       (some false))
     (some true))
   (some false)).bind fun t2=>
 cond t2
  ((Bl7 p0).bind fun t4=>
   some t4)
  (cond (decide (q1>0))
    (cond (!(q2==2))
      (cond (q2==3)
        (cond t1
          ((some (!feq p0 (nf 0))).bind fun t5=>
           cond t5
            ((Bn4 p0).bind fun t6=>
             some t6)
            (some p0))
          (some p0))
        (some p0))
      ((Bn4 p0).bind fun t7=>
       some t7))
    (some p0))
def Bu2 (p0:Nat) (p1:Nat) (q2:Int):Option Nat:=
 (some (As2 p0 p1)).bind fun t1=>
 (Ar9 p0).bind fun t2=>
 cond (!(!t2))
  ((Ar9 p1).bind fun t3=>
   cond (!t3)
    (some t1)
    ((Ar9 t1).bind fun t4=>
     cond (!t4)
      ((Bg0 t1 q2).bind fun t5=>
       some t5)
      ((some (feq t1 (nf 0))).bind fun t6=>
       cond t6
        ((some (feq p0 (nf 0))).bind fun t7=>
         (Ac9 p0).bind fun t8=>
         (Bb9 t7 t8 p1 q2).bind fun t9=>
         some t9)
        ((Af9 p0).bind fun t10=>
         (Af9 p1).bind fun t11=>
         (some (flt t10 t11)).bind fun t12=>
         (cond t12
           (some (p1,p0))
           (some (p0,p1))).bind fun o=>match o with
         | (t13,t14)=>
         (some (Bn1 t1 t13)).bind fun t15=>
         (some (Bn1 t14 t15)).bind fun t16=>
         (Bl8 t16).bind fun t17=>
         (Bl9 t1 t17 q2).bind fun t18=>
         some t18))))
  (some t1)
def As3 (l0:List Nat):(Nat×Int)→Option ((Nat×Int)⊕(Nat)):=fun st=>match st with
| (t2,t3)=>
 (some ((l0.length:Nat):Int)).bind fun t4=>
 cond (decide (t3<t4))
  ((atI l0 t3).bind fun t5=>
   (Af9 t5).bind fun t6=>
   (Bu2 t2 t6 2).bind fun t7=>
   some (.inl (t7,(i64.wrap (t3+1)))))
  (some (.inr t2))
def Aw1 (l0:List Nat):Option Nat:=
 (Ag0 (As3 l0) FU ((nf 0),0)).bind fun t1=>
 some t1
def At0 (l2:List Nat) (t6:List Nat):(Int×List Nat)→Option ((Int×List Nat)⊕(List Nat)):=fun st=>match st with
| (t9,t10)=>
 (some ((l2.length:Nat):Int)).bind fun t11=>
 cond (decide (t9<t11))
  ((atI l2 t9).bind fun t12=>
   (atI t6 t9).bind fun t13=>
   (some (As2 t12 t13)).bind fun t14=>
   (some [t14]).bind fun t15=>
   (Eg7 t10 t15).bind fun t16=>
   some (.inl ((i64.wrap (t9+1)),t16)))
  (some (.inr t10))
def Bl5 (q0_0:Int) (q0_1:Int) (l0_2:List Nat) (q1_0:Int) (l1_1:List Nat) (l1_2:List Nat) (l2:List Nat) (l3:List Nat):Option (List Nat×Int):=
 ((Br1 q0_0 q0_1 l0_2 l2 l3).bind fun t2=>
  cond (!(!t2))
   ((Bl0 q0_0 q0_1 l0_2 q1_0 l1_1 l1_2).bind fun t3=>
    some (!t3))
   (some true)).bind fun t1=>
 cond t1
  (some ((List.map nf []),4))
  ((Az9 q0_0 q0_1 l0_2 l2 l3).bind fun o=>match o with
   | (t4,t5)=>
   cond (t5 != 0)
    (some ((List.map nf []),t5))
    ((Ar7 q1_0 l1_1 l1_2 t4).bind fun o=>match o with
     | (t6,t7)=>
     cond (t7 != 0)
      (some ((List.map nf []),t7))
      ((Ag0 (At0 l2 t6) FU (0,(List.map nf []))).bind fun t8=>
       (Ag2 t8).bind fun t17=>
       cond (!t17)
        (some ((List.map nf []),6))
        (some (t8,0)))))
def Am2 (q3:Int) (q0_0:Int) (q0_1:Int) (l0_2:List Nat) (q1_0:Int) (l1_1:List Nat) (l1_2:List Nat) (l2:List Nat):(Nat×Int×List Nat)→Option ((Nat×Int×List Nat)⊕((Int×List Nat))):=fun st=>match st with
| (t16,t17,t18)=>
 cond (decide (t17<q3))
  ((Bl5 q0_0 q0_1 l0_2 q1_0 l1_1 l1_2 t18 l2).bind fun o=>match o with
   | (t19,t20)=>
   cond (t20 != 0)
    (some (.inr (t17,t18)))
    ((Az9 q0_0 q0_1 l0_2 t19 l2).bind fun o=>match o with
     | (t21,t22)=>
     cond (!(t22 != 0))
      ((Aw1 t21).bind fun t23=>
       (some (flt t23 t16)).bind fun t24=>
       cond (!t24)
        (some (.inr (t17,t18)))
        ((Aw1 t21).bind fun t25=>
         some (.inl (t25,(i64.wrap (t17+1)),t19))))
      (some (.inr (t17,t18)))))
  (some (.inr (t17,t18)))
def Bh3 (q0_0:Int) (q0_1:Int) (l0_2:List Nat) (q1_0:Int) (l1_1:List Nat) (l1_2:List Nat) (l2:List Nat) (q3:Int):Option (List Nat×Int×Int):=
 (cond (!(decide (q3<0)))
   (some (decide (q3>64)))
   (some true)).bind fun t1=>
 cond t1
  (some ((List.map nf []),0,2))
  (((Bl0 q0_0 q0_1 l0_2 q1_0 l1_1 l1_2).bind fun t3=>
    cond (!(!t3))
     ((some ((l2.length:Nat):Int)).bind fun t4=>
      some (t4 != q0_0))
     (some true)).bind fun t2=>
   cond t2
    (some ((List.map nf []),0,4))
    (((Ag2 l0_2).bind fun t6=>
      cond (!(!t6))
       ((Ag2 l2).bind fun t7=>
        some (!t7))
       (some true)).bind fun t5=>
     cond t5
      (some ((List.map nf []),0,5))
      ((Ar7 q1_0 l1_1 l1_2 l2).bind fun o=>match o with
       | (t8,t9)=>
       cond (t9 != 0)
        (some ((List.map nf []),0,t9))
        ((Ag2 t8).bind fun t10=>
         cond (!t10)
          (some ((List.map nf []),0,6))
          ((Az9 q0_0 q0_1 l0_2 t8 l2).bind fun o=>match o with
           | (t11,t12)=>
           cond (t12 != 0)
            (some ((List.map nf []),0,t12))
            ((Aw1 t11).bind fun t13=>
             (Ag0 (Am2 q3 q0_0 q0_1 l0_2 q1_0 l1_1 l1_2 l2) FU (t13,0,t8)).bind fun o=>match o with
             | (t14,t15)=>some (t15,t14,0)))))))
def Ax8 (p0:Nat) (p1:Nat):Option Bool:=
 some (p0==p1)
def Ag3 (l0:List Nat) (l1:List Nat):Int→Option (Int⊕(Unit⊕Bool)):=fun st=>match st with
| t3=>
 (some ((l0.length:Nat):Int)).bind fun t4=>
 cond (decide (t3<t4))
  ((atI l0 t3).bind fun t5=>
   (atI l1 t3).bind fun t6=>
   (Ax8 t5 t6).bind fun t7=>
   cond (!t7)
    (some (.inr (.inr false)))
    (some (.inl (i64.wrap (t3+1)))))
  (some (.inr (.inl ())))
def Ak8 (l0:List Nat) (l1:List Nat):Option Bool:=
 (some ((l0.length:Nat):Int)).bind fun t1=>
 (some ((l1.length:Nat):Int)).bind fun t2=>
 cond (t1 != t2)
  (some false)
  (((Ag0 (Ag3 l0 l1) FU 0:Option (Unit⊕Bool))).bind fun o=>match o with
   | .inl ()=>some true
   | .inr v=>some v)
def Au7 (q0_0:Int) (q0_1:Int) (l0_2:List Nat) (q1_0:Int) (q1_1:Int) (l1_2:List Nat):Option Bool:=
 cond (q0_0==q1_0)
  (cond (q0_1==q1_1)
    ((Ak8 l0_2 l1_2).bind fun t1=>
     some t1)
    (some false))
  (some false)
def Al2 (l0:List Nat) (l1:List Nat):Option Bool:=
 cond (decide (l1.length≤4294967000)) (some true) none
def Au0 (q0_0:Int) (q0_1:Int) (l0_2:List Nat) (q1_0:Int) (q1_1:Int) (l1_2:List Nat):Option Bool:=
 (Au7 q0_0 q0_1 l0_2 q1_0 q1_1 l1_2).bind fun t1=>
 cond t1
  ((Al2 l0_2 l1_2).bind fun t2=>
   some t2)
  (some false)
def Ba8 (q0_0:Int) (l0_1:List Nat) (l0_2:List Nat) (q1_0:Int) (l1_1:List Nat) (l1_2:List Nat):Option Bool:=
 cond (q0_0==q1_0)
  ((Ak8 l0_1 l1_1).bind fun t1=>
   cond t1
    ((Ak8 l0_2 l1_2).bind fun t2=>
     some t2)
    (some false))
  (some false)
def Au1 (q0_0:Int) (l0_1:List Nat) (l0_2:List Nat) (q1_0:Int) (l1_1:List Nat) (l1_2:List Nat):Option Bool:=
 (Ba8 q0_0 l0_1 l0_2 q1_0 l1_1 l1_2).bind fun t1=>
 cond t1
  ((Al2 l0_1 l1_1).bind fun t2=>
   cond t2
    ((Al2 l0_2 l1_2).bind fun t3=>
     some t3)
    (some false))
  (some false)
def As7 (q0_0:Int) (q0_1:Int) (l0_2:List Nat) (q0_3:Int) (l0_4:List Nat) (l0_5:List Nat) (l0_6:List Nat) (l0_7:List Nat) (q1:Int):Option Bool:=
 (Bo2 ).bind fun t1=>
 cond (!t1)
  (some false)
  (((Bg6 q0_0 q0_1 l0_2).bind fun t3=>
    cond (!t3)
     ((some ((l0_7.length:Nat):Int)).bind fun t4=>
      some (decide (t4>100)))
     (some true)).bind fun t2=>
   cond t2
    (some true)
    (((Ba9 q0_0 q0_1 l0_2).bind fun o=>match o with
      | (t12,t13,t14)=>
      (Bb0 q0_3 l0_4 l0_5).bind fun o=>match o with
      | (t15,t16,t17)=>
      (Am0 l0_7).bind fun t18=>
      some (t15,t12,t13,t18,t16,t17,t14)).bind fun o=>match o with
     | (t5,t6,t7,t8,t9,t10,t11)=>
     (Ap9 t6 t7 t11 t5 t9 t10 t8 q1).bind fun o=>match o with
     | (t19,t20,t21)=>
     (Bh3 q0_0 q0_1 l0_2 q0_3 l0_4 l0_5 l0_7 q1).bind fun o=>match o with
     | (t22,t23,t24)=>
     (Au0 t6 t7 t11 q0_0 q0_1 l0_2).bind fun t25=>
     cond t25
      ((Au1 t5 t9 t10 q0_3 l0_4 l0_5).bind fun t26=>
       cond t26
        ((Al2 t8 l0_7).bind fun t27=>
         cond t27
          (cond (t21==t24)
            (cond (t20==t23)
              ((Ak8 t19 t22).bind fun t28=>
               some t28)
              (some false))
            (some false))
          (some false))
        (some false))
      (some false)))
end Go.Eng
