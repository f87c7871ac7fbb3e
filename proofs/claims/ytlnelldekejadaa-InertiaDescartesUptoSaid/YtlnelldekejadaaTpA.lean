/-
 Functions of plain Lean beside functions of the program, printed by a program of the session. No condition.
-/
import Derived.Test.YtlnelldekejadaaBgo
set_option linter.all false
set_option maxRecDepth 100000
namespace Go.Eng
open Go
open Go.IntKind (i64 u64 u32 u8)
def T_bn_trim_b2 (l0:List Int):Int→Option (Int⊕(Int)):=fun st=>match st with
| t3=>
 cond (decide (t3>0))
  ((atI l0 (i64.wrap (t3-1))).bind fun t4=>
   cond (t4==0)
    (some (.inl (i64.wrap (t3-1))))
    (some (.inr t3)))
  (some (.inr t3))
def T_bn_trim (l0:List Int):Option Int:=
 (some ((l0.length:Nat):Int)).bind fun t1=>
 (iter (T_bn_trim_b2 l0) FU t1).bind fun t2=>
 (subL l0 0 t2).bind fun t5=>
 some t2
def T_bn_left_b2 (l0:List Int) (q1:Int):(Int×List Int)→Option ((Int×List Int)⊕(List Int)):=fun st=>match st with
| (t5,t6)=>
 (some ((l0.length:Nat):Int)).bind fun t7=>
 cond (decide (t5<t7))
  ((atI l0 t5).bind fun t8=>
   (nn (q1.tmod 32)).bind fun t15=>
   (atI t6 (i64.wrap (t5+(i64.wrap (u64.wrap (q1.tdiv 32)))))).bind fun t9=>
   (atI t6 (i64.wrap (t5+(i64.wrap (u64.wrap (q1.tdiv 32)))))).bind fun t10=>
   (some (t6.set ((i64.wrap (t5+(i64.wrap (u64.wrap (q1.tdiv 32)))))).toNat (u32.wrap (BitVec.ofInt u32.bits t9 ||| BitVec.ofInt u32.bits (u32.wrap (u64.wrap ((u64.wrap t8)*2^(min (q1.tmod 32).toNat u64.bits))))).toNat))).bind fun t11=>
   (atI t11 (i64.wrap ((i64.wrap (t5+(i64.wrap (u64.wrap (q1.tdiv 32)))))+1))).bind fun t12=>
   (atI t11 (i64.wrap ((i64.wrap (t5+(i64.wrap (u64.wrap (q1.tdiv 32)))))+1))).bind fun t13=>
   (some (t11.set ((i64.wrap ((i64.wrap (t5+(i64.wrap (u64.wrap (q1.tdiv 32)))))+1))).toNat (u32.wrap (BitVec.ofInt u32.bits t12 ||| BitVec.ofInt u32.bits (u32.wrap ((u64.wrap ((u64.wrap t8)*2^(min (q1.tmod 32).toNat u64.bits))).fdiv (2^(min (32:Int).toNat u64.bits))))).toNat))).bind fun t14=>
   some (.inl ((i64.wrap (t5+1)),t14)))
  (some (.inr t6))
def T_bn_left (l0:List Int) (q1:Int):Option (List Int):=
 (some ((l0.length:Nat):Int)).bind fun t1=>
 cond (t1==0)
  (some ([]:List Int))
  ((some ((l0.length:Nat):Int)).bind fun t2=>
   (mkL 0 (i64.wrap ((i64.wrap (t2+(i64.wrap (u64.wrap (q1.tdiv 32)))))+1)) (i64.wrap ((i64.wrap (t2+(i64.wrap (u64.wrap (q1.tdiv 32)))))+1))).bind fun t3=>
   (iter (T_bn_left_b2 l0 q1) FU (0,t3)).bind fun t4=>
   (T_bn_trim t4).bind fun t16=>
   (subL t4 0 t16).bind fun t17=>
   some t17)
def T_bI_Lsh (q1_0:Bool) (l1_1:List Int) (q2:Int):Option (Bool×List Int):=
 (T_bn_left l1_1 q2).bind fun t1=>
 (some (q1_0&&decide (0<t1.length))).bind fun t2=>
 some (t2,t1)
def T_bn_words (q0:Int):Option (List Int):=
 (some [(u32.wrap q0),(u32.wrap (q0.fdiv (2^(min (32:Int).toNat u64.bits))))]).bind fun t1=>
 (T_bn_trim t1).bind fun t2=>
 (subL t1 0 t2).bind fun t3=>
 some t3
def T_bI_SetUint64 (q1:Int):Option (Bool×List Int):=
 (T_bn_words q1).bind fun t1=>
 (some (false&&decide (0<t1.length))).bind fun t2=>
 some (t2,t1)
def T_bI_low_b3 (q1:Int):(Int×Int×List Int)→Option ((Int×Int×List Int)⊕(List Int)):=fun st=>match st with
| (t5,t6,t7)=>
 cond (decide (t6<q1))
  ((atI t7 t6).bind fun t8=>
   (atI t7 t6).bind fun t9=>
   (some (t7.set (t6).toNat (u32.wrap (u64.wrap (t5+(u64.wrap (u32.wrap (BitVec.ofInt u32.bits (u32.max) ^^^ BitVec.ofInt u32.bits t8).toNat))))))).bind fun t10=>
   some (.inl (((u64.wrap (t5+(u64.wrap (u32.wrap (BitVec.ofInt u32.bits (u32.max) ^^^ BitVec.ofInt u32.bits t8).toNat)))).fdiv (2^(min (32:Int).toNat u64.bits))),(i64.wrap (t6+1)),t10)))
  (some (.inr t7))
def T_bI_low (q0_0:Bool) (l0_1:List Int) (q1:Int):Option (List Int):=
 (mkL 0 q1 q1).bind fun t1=>
 (some (copL t1 l0_1)).bind fun t2=>
 (cond q0_0
   ((iter (T_bI_low_b3 q1) FU (1,0,t2)).bind fun t4=>
    some t4)
   (some t2)).bind fun t3=>
 some t3
def T_bI_of_b2  : (Int×Int×List Int)→Option ((Int×Int×List Int)⊕(List Int)):=fun st=>match st with
| (t6,t7,t8)=>
 (some ((t8.length:Nat):Int)).bind fun t9=>
 cond (decide (t7<t9))
  ((atI t8 t7).bind fun t10=>
   (atI t8 t7).bind fun t11=>
   (some (t8.set (t7).toNat (u32.wrap (u64.wrap (t6+(u64.wrap (u32.wrap (BitVec.ofInt u32.bits (u32.max) ^^^ BitVec.ofInt u32.bits t10).toNat))))))).bind fun t12=>
   some (.inl (((u64.wrap (t6+(u64.wrap (u32.wrap (BitVec.ofInt u32.bits (u32.max) ^^^ BitVec.ofInt u32.bits t10).toNat)))).fdiv (2^(min (32:Int).toNat u64.bits))),(i64.wrap (t7+1)),t12)))
  (some (.inr t8))
def T_bI_of (l1:List Int):Option (Bool×List Int):=
 ((some ((l1.length:Nat):Int)).bind fun t2=>
  cond (decide (t2>0))
   ((some ((l1.length:Nat):Int)).bind fun t3=>
    (atI l1 (i64.wrap (t3-1))).bind fun t4=>
    some ((t4.fdiv (2^(min (31:Int).toNat u32.bits)))==1))
   (some false)).bind fun t1=>
 cond t1
  ((iter (T_bI_of_b2) FU (1,0,l1)).bind fun t5=>
   (T_bn_trim t5).bind fun t13=>
   (subL t5 0 t13).bind fun t14=>
   (some (true&&decide (0<t14.length))).bind fun t15=>
   some (t15,t14))
  ((T_bn_trim l1).bind fun t16=>
   (subL l1 0 t16).bind fun t17=>
   (some (false&&decide (0<t17.length))).bind fun t18=>
   some (t18,t17))
def T_bI_Or_b2 (t2:Int) (t1:Int) (t4:List Int):(Int×List Int)→Option ((Int×List Int)⊕(List Int)):=fun st=>match st with
| (t6,t7)=>
 cond (decide (t6<(i64.wrap ((if t2>t1 then t2 else t1)+1))))
  ((atI t7 t6).bind fun t8=>
   (atI t4 t6).bind fun t9=>
   (atI t7 t6).bind fun t10=>
   (some (t7.set (t6).toNat (u32.wrap (BitVec.ofInt u32.bits t8 ||| BitVec.ofInt u32.bits t9).toNat))).bind fun t11=>
   some (.inl ((i64.wrap (t6+1)),t11)))
  (some (.inr t7))
def T_bI_Or (q1_0:Bool) (l1_1:List Int) (q2_0:Bool) (l2_1:List Int):Option (Bool×List Int):=
 (some ((l1_1.length:Nat):Int)).bind fun t1=>
 (some ((l2_1.length:Nat):Int)).bind fun t2=>
 (T_bI_low q1_0 l1_1 (i64.wrap ((if t2>t1 then t2 else t1)+1))).bind fun t3=>
 (T_bI_low q2_0 l2_1 (i64.wrap ((if t2>t1 then t2 else t1)+1))).bind fun t4=>
 (iter (T_bI_Or_b2 t2 t1 t4) FU (0,t3)).bind fun t5=>
 (T_bI_of t5).bind fun o=>match o with
 | (t12,t13)=>
 some (t12,t13)
def T_bn_twin (l0:List Int):Option (List Int):=
 (appL ([]:List Int) l0).bind fun t1=>
 some t1
def T_bI_Neg (q1_0:Bool) (l1_1:List Int):Option (Bool×List Int):=
 (T_bn_twin l1_1).bind fun t1=>
 (some ((!q1_0)&&decide (0<t1.length))).bind fun t2=>
 some (t2,t1)
def T_bn_cmp_b2 (l0:List Int) (l1:List Int):Int→Option (Int⊕(Unit⊕Int)):=fun st=>match st with
| t6=>
 cond (decide (t6≥0))
  ((atI l0 t6).bind fun t7=>
   (atI l1 t6).bind fun t8=>
   cond (t7 != t8)
    ((atI l0 t6).bind fun t9=>
     (atI l1 t6).bind fun t10=>
     cond (decide (t9<t10))
      (some (.inr (.inr (-1))))
      (some (.inr (.inr 1))))
    (some (.inl (i64.wrap (t6-1)))))
  (some (.inr (.inl ())))
def T_bn_cmp (l0:List Int) (l1:List Int):Option Int:=
 (some ((l0.length:Nat):Int)).bind fun t1=>
 (some ((l1.length:Nat):Int)).bind fun t2=>
 cond (t1 != t2)
  ((some ((l0.length:Nat):Int)).bind fun t3=>
   (some ((l1.length:Nat):Int)).bind fun t4=>
   cond (decide (t3<t4))
    (some (-1))
    (some 1))
  ((some ((l0.length:Nat):Int)).bind fun t5=>
   ((iter (T_bn_cmp_b2 l0 l1) FU (i64.wrap (t5-1)):Option (Unit⊕Int))).bind fun o=>match o with
   | .inl ()=>some 0
   | .inr v=>some v)
def T_bI_Cmp (q0_0:Bool) (l0_1:List Int) (q1_0:Bool) (l1_1:List Int):Option Int:=
 cond (!(q0_0==q1_0))
  (cond q0_0
    (some (-1))
    (some 1))
  ((T_bn_cmp l0_1 l1_1).bind fun t1=>
   cond q0_0
    (some (i64.wrap (0-t1)))
    (some t1))
def T_bn_add_b2 (t3:List Int) (t4:List Int):(Int×Int×List Int)→Option ((Int×Int×List Int)⊕((Int×List Int))):=fun st=>match st with
| (t9,t10,t11)=>
 (some ((t3.length:Nat):Int)).bind fun t12=>
 cond (decide (t10<t12))
  ((atI t3 t10).bind fun t13=>
   (some ((t4.length:Nat):Int)).bind fun t14=>
   (cond (decide (t10<t14))
     ((atI t4 t10).bind fun t16=>
      some (u64.wrap ((u64.wrap (t9+(u64.wrap t13)))+(u64.wrap t16))))
     (some (u64.wrap (t9+(u64.wrap t13))))).bind fun t15=>
   (atI t11 t10).bind fun t17=>
   (some (t11.set (t10).toNat (u32.wrap t15))).bind fun t18=>
   some (.inl ((t15.fdiv (2^(min (32:Int).toNat u64.bits))),(i64.wrap (t10+1)),t18)))
  (some (.inr (t9,t11)))
def T_bn_add (l0:List Int) (l1:List Int):Option (List Int):=
 (some ((l0.length:Nat):Int)).bind fun t1=>
 (some ((l1.length:Nat):Int)).bind fun t2=>
 (cond (decide (t1<t2))
   (some (l1,l0))
   (some (l0,l1))).bind fun o=>match o with
 | (t3,t4)=>
 (some ((t3.length:Nat):Int)).bind fun t5=>
 (mkL 0 (i64.wrap (t5+1)) (i64.wrap (t5+1))).bind fun t6=>
 (iter (T_bn_add_b2 t3 t4) FU (0,0,t6)).bind fun o=>match o with
 | (t7,t8)=>
 (some ((t3.length:Nat):Int)).bind fun t19=>
 (atI t8 t19).bind fun t20=>
 (some (t8.set (t19).toNat (u32.wrap t7))).bind fun t21=>
 (T_bn_trim t21).bind fun t22=>
 (subL t21 0 t22).bind fun t23=>
 some t23
def T_bn_sub_b2 (l0:List Int) (l1:List Int):(Int×Int×List Int)→Option ((Int×Int×List Int)⊕(List Int)):=fun st=>match st with
| (t4,t5,t6)=>
 (some ((l0.length:Nat):Int)).bind fun t7=>
 cond (decide (t5<t7))
  ((atI l0 t5).bind fun t8=>
   (some ((l1.length:Nat):Int)).bind fun t9=>
   (cond (decide (t5<t9))
     ((atI l1 t5).bind fun t11=>
      some (u64.wrap ((u64.wrap ((u64.wrap t8)-t4))-(u64.wrap t11))))
     (some (u64.wrap ((u64.wrap t8)-t4)))).bind fun t10=>
   (atI t6 t5).bind fun t12=>
   (some (t6.set (t5).toNat (u32.wrap t10))).bind fun t13=>
   some (.inl ((t10.fdiv (2^(min (63:Int).toNat u64.bits))),(i64.wrap (t5+1)),t13)))
  (some (.inr t6))
def T_bn_sub (l0:List Int) (l1:List Int):Option (List Int):=
 (some ((l0.length:Nat):Int)).bind fun t1=>
 (mkL 0 t1 t1).bind fun t2=>
 (iter (T_bn_sub_b2 l0 l1) FU (0,0,t2)).bind fun t3=>
 (T_bn_trim t3).bind fun t14=>
 (subL t3 0 t14).bind fun t15=>
 some t15
def T_bn_sum (q0:Bool) (l1:List Int) (q2:Bool) (l3:List Int):Option (Bool×List Int):=
 cond (q0==q2)
  ((T_bn_add l1 l3).bind fun t1=>
   some (q0,t1))
  ((T_bn_cmp l1 l3).bind fun t2=>
   cond (decide (t2≥0))
    ((T_bn_sub l1 l3).bind fun t3=>
     some (q0,t3))
    ((T_bn_sub l3 l1).bind fun t4=>
     some (q2,t4)))
def T_bI_Sub (q1_0:Bool) (l1_1:List Int) (q2_0:Bool) (l2_1:List Int):Option (Bool×List Int):=
 (T_bn_sum q1_0 l1_1 (!q2_0) l2_1).bind fun o=>match o with
 | (t1,t2)=>
 (some (t1&&decide (0<t2.length))).bind fun t3=>
 some (t3,t2)
def T_bI_Sign (q0_0:Bool) (l0_1:List Int):Option Int:=
 (some ((l0_1.length:Nat):Int)).bind fun t1=>
 cond (t1==0)
  (some 0)
  (cond q0_0
    (some (-1))
    (some 1))
def T_bn_bit (l0:List Int) (q1:Int):Option Int:=
 cond (!(decide (q1<0)))
  ((some ((l0.length:Nat):Int)).bind fun t1=>
   cond (decide ((i64.wrap (q1.tdiv 32))≥t1))
    (some 0)
    ((atI l0 (i64.wrap (q1.tdiv 32))).bind fun t2=>
     (nn ((u64.wrap q1).tmod 32)).bind fun t3=>
     some (u64.wrap (BitVec.ofInt u64.bits (u64.wrap (t2.fdiv (2^(min ((u64.wrap q1).tmod 32).toNat u32.bits)))) &&& BitVec.ofInt u64.bits 1).toNat)))
  (some 0)
def T_bI_TrailingZeroBits_b2 (l0_1:List Int):Int→Option (Int⊕(Int)):=fun st=>match st with
| t3=>
 (T_bn_bit l0_1 (i64.wrap t3)).bind fun t4=>
 cond (t4==0)
  (some (.inl (u64.wrap (t3+1))))
  (some (.inr t3))
def T_bI_TrailingZeroBits (q0_0:Bool) (l0_1:List Int):Option Int:=
 (some ((l0_1.length:Nat):Int)).bind fun t1=>
 cond (t1==0)
  (some 0)
  ((iter (T_bI_TrailingZeroBits_b2 l0_1) FU 0).bind fun t2=>
   some t2)
def T_bn_length_b2  : (Int×Int)→Option ((Int×Int)⊕(Int)):=fun st=>match st with
| (t5,t6)=>
 cond (t6 != 0)
  (some (.inl ((i64.wrap (t5+1)),(t6.fdiv (2^(min (1:Int).toNat u32.bits))))))
  (some (.inr t5))
def T_bn_length (l0:List Int):Option Int:=
 (some ((l0.length:Nat):Int)).bind fun t1=>
 cond (t1==0)
  (some 0)
  ((some ((l0.length:Nat):Int)).bind fun t2=>
   (atI l0 (i64.wrap (t2-1))).bind fun t3=>
   (iter (T_bn_length_b2) FU (0,t3)).bind fun t4=>
   (some ((l0.length:Nat):Int)).bind fun t7=>
   some (i64.wrap ((i64.wrap ((i64.wrap (t7-1))*32))+t4)))
def T_bI_BitLen (q0_0:Bool) (l0_1:List Int):Option Int:=
 (T_bn_length l0_1).bind fun t1=>
 some t1
def T_bn_right_b2 (l0:List Int) (q1:Int):(Int×List Int)→Option ((Int×List Int)⊕(List Int)):=fun st=>match st with
| (t5,t6)=>
 (some ((t6.length:Nat):Int)).bind fun t7=>
 cond (decide (t5<t7))
  ((atI l0 (i64.wrap (t5+(i64.wrap (u64.wrap (q1.tdiv 32)))))).bind fun t8=>
   (some ((l0.length:Nat):Int)).bind fun t9=>
   (cond (decide ((i64.wrap ((i64.wrap (t5+(i64.wrap (u64.wrap (q1.tdiv 32)))))+1))<t9))
     ((atI l0 (i64.wrap ((i64.wrap (t5+(i64.wrap (u64.wrap (q1.tdiv 32)))))+1))).bind fun t11=>
      some (u64.wrap (BitVec.ofInt u64.bits (u64.wrap t8) ||| BitVec.ofInt u64.bits (u64.wrap ((u64.wrap t11)*2^(min (32:Int).toNat u64.bits)))).toNat))
     (some (u64.wrap t8))).bind fun t10=>
   (nn (q1.tmod 32)).bind fun t14=>
   (atI t6 t5).bind fun t12=>
   (some (t6.set (t5).toNat (u32.wrap (t10.fdiv (2^(min (q1.tmod 32).toNat u64.bits)))))).bind fun t13=>
   some (.inl ((i64.wrap (t5+1)),t13)))
  (some (.inr t6))
def T_bn_right (l0:List Int) (q1:Int):Option (List Int):=
 (some ((l0.length:Nat):Int)).bind fun t1=>
 cond (decide ((i64.wrap (u64.wrap (q1.tdiv 32)))≥t1))
  (some ([]:List Int))
  ((some ((l0.length:Nat):Int)).bind fun t2=>
   (mkL 0 (i64.wrap (t2-(i64.wrap (u64.wrap (q1.tdiv 32))))) (i64.wrap (t2-(i64.wrap (u64.wrap (q1.tdiv 32)))))).bind fun t3=>
   (iter (T_bn_right_b2 l0 q1) FU (0,t3)).bind fun t4=>
   (T_bn_trim t4).bind fun t15=>
   (subL t4 0 t15).bind fun t16=>
   some t16)
def T_bI_Rsh (q1_0:Bool) (l1_1:List Int) (q2:Int):Option (Bool×List Int):=
 cond q1_0
  ((some [1]).bind fun t1=>
   (T_bn_sub l1_1 t1).bind fun t2=>
   (T_bn_right t2 q2).bind fun t3=>
   (some [1]).bind fun t4=>
   (T_bn_add t3 t4).bind fun t5=>
   (some (true&&decide (0<t5.length))).bind fun t6=>
   some (t6,t5))
  ((T_bn_right l1_1 q2).bind fun t7=>
   (some (false&&decide (0<t7.length))).bind fun t8=>
   some (t8,t7))
def T_bI_SetInt64 (q1:Int):Option (Bool×List Int):=
 (cond (decide (q1<0))
   (some (u64.wrap (0-(u64.wrap q1))))
   (some (u64.wrap q1))).bind fun t1=>
 (T_bn_words t1).bind fun t2=>
 (some ((decide (q1<0))&&decide (0<t2.length))).bind fun t3=>
 some (t3,t2)
def T_bI_Add (q1_0:Bool) (l1_1:List Int) (q2_0:Bool) (l2_1:List Int):Option (Bool×List Int):=
 (T_bn_sum q1_0 l1_1 q2_0 l2_1).bind fun o=>match o with
 | (t1,t2)=>
 (some (t1&&decide (0<t2.length))).bind fun t3=>
 some (t3,t2)
def T_bn_mul_b9 (l1:List Int) (l0:List Int) (t8:Int):(Int×Int×List Int)→Option ((Int×Int×List Int)⊕((Int×List Int))):=fun st=>match st with
| (t13,t14,t15)=>
 (some ((l1.length:Nat):Int)).bind fun t16=>
 cond (decide (t14<t16))
  ((atI l0 t8).bind fun t17=>
   (atI l1 t14).bind fun t18=>
   (atI t15 (i64.wrap (t8+t14))).bind fun t19=>
   (atI t15 (i64.wrap (t8+t14))).bind fun t20=>
   (some (t15.set ((i64.wrap (t8+t14))).toNat (u32.wrap (u64.wrap (t13+(u64.wrap ((u64.wrap ((u64.wrap t17)*(u64.wrap t18)))+(u64.wrap t19)))))))).bind fun t21=>
   some (.inl (((u64.wrap (t13+(u64.wrap ((u64.wrap ((u64.wrap t17)*(u64.wrap t18)))+(u64.wrap t19))))).fdiv (2^(min (32:Int).toNat u64.bits))),(i64.wrap (t14+1)),t21)))
  (some (.inr (t13,t15)))
def T_bn_mul_b7 (l0:List Int) (l1:List Int):(Int×List Int)→Option ((Int×List Int)⊕(List Int)):=fun st=>match st with
| (t8,t9)=>
 (some ((l0.length:Nat):Int)).bind fun t10=>
 cond (decide (t8<t10))
  ((iter (T_bn_mul_b9 l1 l0 t8) FU (0,0,t9)).bind fun o=>match o with
   | (t11,t12)=>
   (some ((l1.length:Nat):Int)).bind fun t22=>
   (atI t12 (i64.wrap (t8+t22))).bind fun t23=>
   (some (t12.set ((i64.wrap (t8+t22))).toNat (u32.wrap t11))).bind fun t24=>
   some (.inl ((i64.wrap (t8+1)),t24)))
  (some (.inr t9))
def T_bn_mul (l0:List Int) (l1:List Int):Option (List Int):=
 ((some ((l0.length:Nat):Int)).bind fun t2=>
  cond (!(t2==0))
   ((some ((l1.length:Nat):Int)).bind fun t3=>
    some (t3==0))
   (some true)).bind fun t1=>
 cond t1
  (some ([]:List Int))
  ((some ((l0.length:Nat):Int)).bind fun t4=>
   (some ((l1.length:Nat):Int)).bind fun t5=>
   (mkL 0 (i64.wrap (t4+t5)) (i64.wrap (t4+t5))).bind fun t6=>
   (iter (T_bn_mul_b7 l0 l1) FU (0,t6)).bind fun t7=>
   (T_bn_trim t7).bind fun t25=>
   (subL t7 0 t25).bind fun t26=>
   some t26)
def T_bI_Mul (q1_0:Bool) (l1_1:List Int) (q2_0:Bool) (l2_1:List Int):Option (Bool×List Int):=
 (T_bn_mul l1_1 l2_1).bind fun t1=>
 (some ((!(q1_0==q2_0))&&decide (0<t1.length))).bind fun t2=>
 some (t2,t1)
def T_bn_plain (l0:List Int):Option Int:=
 (some ((l0.length:Nat):Int)).bind fun t1=>
 (cond (decide (t1>0))
   ((atI l0 0).bind fun t3=>
    some (u64.wrap t3))
   (some 0)).bind fun t2=>
 (some ((l0.length:Nat):Int)).bind fun t4=>
 (cond (decide (t4>1))
   ((atI l0 1).bind fun t6=>
    some (u64.wrap (BitVec.ofInt u64.bits t2 ||| BitVec.ofInt u64.bits (u64.wrap ((u64.wrap t6)*2^(min (32:Int).toNat u64.bits)))).toNat))
   (some t2)).bind fun t5=>
 some t5
def T_bn_small_b2 (l0:List Int) (q1:Int):(Int×Int×List Int)→Option ((Int×Int×List Int)⊕((Int×List Int))):=fun st=>match st with
| (t6,t7,t8)=>
 cond (decide (t7≥0))
  ((atI l0 t7).bind fun t9=>
   (nz (u64.wrap q1)).bind fun t13=>
   (atI t8 t7).bind fun t10=>
   (some (t8.set (t7).toNat (u32.wrap (u64.wrap ((u64.wrap (BitVec.ofInt u64.bits (u64.wrap (t6*2^(min (32:Int).toNat u64.bits))) ||| BitVec.ofInt u64.bits (u64.wrap t9)).toNat).tdiv (u64.wrap q1)))))).bind fun t11=>
   (nz (u64.wrap q1)).bind fun t12=>
   some (.inl (((u64.wrap (BitVec.ofInt u64.bits (u64.wrap (t6*2^(min (32:Int).toNat u64.bits))) ||| BitVec.ofInt u64.bits (u64.wrap t9)).toNat).tmod (u64.wrap q1)),(i64.wrap (t7-1)),t11)))
  (some (.inr (t6,t8)))
def T_bn_small (l0:List Int) (q1:Int):Option (List Int×Int):=
 (some ((l0.length:Nat):Int)).bind fun t1=>
 (mkL 0 t1 t1).bind fun t2=>
 (some ((l0.length:Nat):Int)).bind fun t3=>
 (iter (T_bn_small_b2 l0 q1) FU (0,(i64.wrap (t3-1)),t2)).bind fun o=>match o with
 | (t4,t5)=>
 (T_bn_trim t5).bind fun t14=>
 (subL t5 0 t14).bind fun t15=>
 some (t15,(u32.wrap t4))
def T_bn_div_b19 (t33:List Int) (t31:Int) (t24:Int) (t28:Int) (t27:Int):(Int×Int)→Option ((Int×Int)⊕(Int)):=fun st=>match st with
| (t37,t38)=>
 cond (!(decide (t37>4294967295)))
  ((atI t33 (i64.wrap ((i64.wrap (t31+t24))-2))).bind fun t39=>
   cond (decide ((u64.wrap (t37*(u64.wrap t28)))>(u64.wrap (BitVec.ofInt u64.bits (u64.wrap (t38*2^(min (32:Int).toNat u64.bits))) ||| BitVec.ofInt u64.bits (u64.wrap t39)).toNat)))
    (cond (decide ((u64.wrap (t38+(u64.wrap t27)))>4294967295))
      (some (.inr (u64.wrap (t37-1))))
      (some (.inl ((u64.wrap (t37-1)),(u64.wrap (t38+(u64.wrap t27)))))))
    (some (.inr t37)))
  (cond (decide ((u64.wrap (t38+(u64.wrap t27)))>4294967295))
    (some (.inr (u64.wrap (t37-1))))
    (some (.inl ((u64.wrap (t37-1)),(u64.wrap (t38+(u64.wrap t27)))))))
def T_bn_div_b21 (t24:Int) (t19:List Int) (t31:Int) (t36:Int):(Int×Int×Int×List Int)→Option ((Int×Int×Int×List Int)⊕((Int×Int×List Int))):=fun st=>match st with
| (t43,t44,t45,t46)=>
 cond (decide (t45<t24))
  ((atI t19 t45).bind fun t47=>
   (atI t46 (i64.wrap (t45+t31))).bind fun t48=>
   (atI t46 (i64.wrap (t45+t31))).bind fun t49=>
   (some (t46.set ((i64.wrap (t45+t31))).toNat (u32.wrap (u64.wrap ((u64.wrap ((u64.wrap t48)-(u64.wrap (u32.wrap (u64.wrap (t43+(u64.wrap (t36*(u64.wrap t47)))))))))-t44))))).bind fun t50=>
   some (.inl (((u64.wrap (t43+(u64.wrap (t36*(u64.wrap t47))))).fdiv (2^(min (32:Int).toNat u64.bits))),((u64.wrap ((u64.wrap ((u64.wrap t48)-(u64.wrap (u32.wrap (u64.wrap (t43+(u64.wrap (t36*(u64.wrap t47)))))))))-t44)).fdiv (2^(min (63:Int).toNat u64.bits))),(i64.wrap (t45+1)),t50)))
  (some (.inr (t43,t44,t46)))
def T_bn_div_b24 (t24:Int) (t31:Int) (t19:List Int):(Int×Int×List Int)→Option ((Int×Int×List Int)⊕((Int×List Int))):=fun st=>match st with
| (t58,t59,t60)=>
 cond (decide (t59<t24))
  ((atI t60 (i64.wrap (t59+t31))).bind fun t61=>
   (atI t19 t59).bind fun t62=>
   (atI t60 (i64.wrap (t59+t31))).bind fun t63=>
   (some (t60.set ((i64.wrap (t59+t31))).toNat (u32.wrap (u64.wrap (t58+(u64.wrap ((u64.wrap t61)+(u64.wrap t62)))))))).bind fun t64=>
   some (.inl (((u64.wrap (t58+(u64.wrap ((u64.wrap t61)+(u64.wrap t62))))).fdiv (2^(min (32:Int).toNat u64.bits))),(i64.wrap (t59+1)),t64)))
  (some (.inr (t58,t60)))
def T_bn_div_b17 (t24:Int) (t27:Int) (t28:Int) (t19:List Int):(Int×List Int×List Int)→Option ((Int×List Int×List Int)⊕((List Int×List Int))):=fun st=>match st with
| (t31,t32,t33)=>
 cond (decide (t31≥0))
  ((atI t33 (i64.wrap (t31+t24))).bind fun t34=>
   (atI t33 (i64.wrap ((i64.wrap (t31+t24))-1))).bind fun t35=>
   (nz (u64.wrap t27)).bind fun t71=>
   (nz (u64.wrap t27)).bind fun t70=>
   (iter (T_bn_div_b19 t33 t31 t24 t28 t27) FU ((u64.wrap ((u64.wrap (BitVec.ofInt u64.bits (u64.wrap ((u64.wrap t34)*2^(min (32:Int).toNat u64.bits))) ||| BitVec.ofInt u64.bits (u64.wrap t35)).toNat).tdiv (u64.wrap t27))),((u64.wrap (BitVec.ofInt u64.bits (u64.wrap ((u64.wrap t34)*2^(min (32:Int).toNat u64.bits))) ||| BitVec.ofInt u64.bits (u64.wrap t35)).toNat).tmod (u64.wrap t27)))).bind fun t36=>
   (iter (T_bn_div_b21 t24 t19 t31 t36) FU (0,0,0,t33)).bind fun o=>match o with
   | (t40,t41,t42)=>
   (atI t42 (i64.wrap (t31+t24))).bind fun t51=>
   (atI t42 (i64.wrap (t31+t24))).bind fun t52=>
   (some (t42.set ((i64.wrap (t31+t24))).toNat (u32.wrap (u64.wrap ((u64.wrap ((u64.wrap t51)-t40))-t41))))).bind fun t53=>
   (cond (((u64.wrap ((u64.wrap ((u64.wrap t51)-t40))-t41)).fdiv (2^(min (63:Int).toNat u64.bits))) != 0)
     ((iter (T_bn_div_b24 t24 t31 t19) FU (0,0,t53)).bind fun o=>match o with
      | (t56,t57)=>
      (atI t57 (i64.wrap (t31+t24))).bind fun t65=>
      (atI t57 (i64.wrap (t31+t24))).bind fun t66=>
      (some (t57.set ((i64.wrap (t31+t24))).toNat (u32.wrap (t65+(u32.wrap t56))))).bind fun t67=>
      some ((u64.wrap (t36-1)),t67))
     (some (t36,t53))).bind fun o=>match o with
   | (t54,t55)=>
   (atI t32 t31).bind fun t68=>
   (some (t32.set (t31).toNat (u32.wrap t54))).bind fun t69=>
   some (.inl ((i64.wrap (t31-1)),t69,t55)))
  (some (.inr (t32,t33)))
def T_bn_div (l0:List Int) (l1:List Int):Option (List Int×List Int):=
 (some ((l1.length:Nat):Int)).bind fun t1=>
 cond (t1==0)
  (some (([]:List Int),([]:List Int)))
  ((T_bn_cmp l0 l1).bind fun t2=>
   cond (decide (t2<0))
    ((T_bn_twin l0).bind fun t3=>
     some (([]:List Int),t3))
    ((some ((l0.length:Nat):Int)).bind fun t4=>
     cond (decide (t4≤2))
      ((T_bn_plain l0).bind fun t5=>
       (T_bn_plain l1).bind fun t6=>
       (nz t6).bind fun t10=>
       (nz t6).bind fun t9=>
       (T_bn_words (u64.wrap (t5.tdiv t6))).bind fun t7=>
       (T_bn_words (t5.tmod t6)).bind fun t8=>
       some (t7,t8))
      ((some ((l1.length:Nat):Int)).bind fun t11=>
       cond (t11==1)
        ((atI l1 0).bind fun t12=>
         (T_bn_small l0 t12).bind fun o=>match o with
         | (t13,t14)=>
         (some [t14]).bind fun t15=>
         (T_bn_trim t15).bind fun t16=>
         (subL t15 0 t16).bind fun t17=>
         some (t13,t17))
        ((T_bn_length l1).bind fun t18=>
         (T_bn_left l1 (u64.wrap (i64.wrap ((i64.wrap (32-((i64.wrap (t18-1)).tmod 32)))-1)))).bind fun t19=>
         (some ((l0.length:Nat):Int)).bind fun t20=>
         (mkL 0 (i64.wrap (t20+2)) (i64.wrap (t20+2))).bind fun t21=>
         (T_bn_left l0 (u64.wrap (i64.wrap ((i64.wrap (32-((i64.wrap (t18-1)).tmod 32)))-1)))).bind fun t22=>
         (some (copL t21 t22)).bind fun t23=>
         (some ((t19.length:Nat):Int)).bind fun t24=>
         (some ((t23.length:Nat):Int)).bind fun t25=>
         (mkL 0 (i64.wrap ((i64.wrap ((i64.wrap (t25-t24))-1))+1)) (i64.wrap ((i64.wrap ((i64.wrap (t25-t24))-1))+1))).bind fun t26=>
         (atI t19 (i64.wrap (t24-1))).bind fun t27=>
         (atI t19 (i64.wrap (t24-2))).bind fun t28=>
         (iter (T_bn_div_b17 t24 t27 t28 t19) FU ((i64.wrap ((i64.wrap (t25-t24))-1)),t26,t23)).bind fun o=>match o with
         | (t29,t30)=>
         (T_bn_trim t29).bind fun t72=>
         (subL t29 0 t72).bind fun t73=>
         (T_bn_trim t30).bind fun t74=>
         (subL t30 0 t74).bind fun t75=>
         (T_bn_right t75 (u64.wrap (i64.wrap ((i64.wrap (32-((i64.wrap (t18-1)).tmod 32)))-1)))).bind fun t76=>
         some (t73,t76)))))
def T_bI_Abs (q1_0:Bool) (l1_1:List Int):Option (Bool×List Int):=
 (T_bn_twin l1_1).bind fun t1=>
 (some (false&&decide (0<t1.length))).bind fun t2=>
 some (t2,t1)
def T_bI_Uint64 (q0_0:Bool) (l0_1:List Int):Option Int:=
 (some ((l0_1.length:Nat):Int)).bind fun t1=>
 (cond (decide (t1>0))
   ((atI l0_1 0).bind fun t3=>
    some (u64.wrap t3))
   (some 0)).bind fun t2=>
 (some ((l0_1.length:Nat):Int)).bind fun t4=>
 (cond (decide (t4>1))
   ((atI l0_1 1).bind fun t6=>
    some (u64.wrap (BitVec.ofInt u64.bits t2 ||| BitVec.ofInt u64.bits (u64.wrap ((u64.wrap t6)*2^(min (32:Int).toNat u64.bits)))).toNat))
   (some t2)).bind fun t5=>
 some t5
def T_bI_And_b2 (t2:Int) (t1:Int) (t4:List Int):(Int×List Int)→Option ((Int×List Int)⊕(List Int)):=fun st=>match st with
| (t6,t7)=>
 cond (decide (t6<(i64.wrap ((if t2>t1 then t2 else t1)+1))))
  ((atI t7 t6).bind fun t8=>
   (atI t4 t6).bind fun t9=>
   (atI t7 t6).bind fun t10=>
   (some (t7.set (t6).toNat (u32.wrap (BitVec.ofInt u32.bits t8 &&& BitVec.ofInt u32.bits t9).toNat))).bind fun t11=>
   some (.inl ((i64.wrap (t6+1)),t11)))
  (some (.inr t7))
def T_bI_And (q1_0:Bool) (l1_1:List Int) (q2_0:Bool) (l2_1:List Int):Option (Bool×List Int):=
 (some ((l1_1.length:Nat):Int)).bind fun t1=>
 (some ((l2_1.length:Nat):Int)).bind fun t2=>
 (T_bI_low q1_0 l1_1 (i64.wrap ((if t2>t1 then t2 else t1)+1))).bind fun t3=>
 (T_bI_low q2_0 l2_1 (i64.wrap ((if t2>t1 then t2 else t1)+1))).bind fun t4=>
 (iter (T_bI_And_b2 t2 t1 t4) FU (0,t3)).bind fun t5=>
 (T_bI_of t5).bind fun o=>match o with
 | (t12,t13)=>
 some (t12,t13)
end Go.Eng
