/-
 Functions of plain Lean beside functions of the program, printed by a program of the session. No condition.
-/
import Derived.Test.YtlnelldekejadaaGreatTpA
import Derived.Test.YtlnelldekejadaaGreatBgo
import Derived.Test.YtlnelldekejadaaGreatTw5
set_option linter.all false
set_option maxRecDepth 100000
namespace Go.Eng
open Go
open Go.IntKind (i64 u64 u32 u8)
def Ay5 (c:List Dy):(Int×Int)→Option ((Int×Int)⊕(Int)):=fun st=>match st with
| (a,b)=>
 (some ((c.length:Nat):Int)).bind fun d=>
 cond (decide (b<d))
  (cond (decide (a≤400))
    ((atI c b).bind fun e=>
     (some ((e.2.1.length:Nat):Int)).bind fun f=>
     some (.inl ((i64.wrap (a+f)),(i64.wrap (b+1)))))
    (some (.inr a)))
  (some (.inr a))
def Bd6 (a:Int) (b:Int) (c:List Dy):Option Bool:=
 (Af5 (Ay5 c) FU (0,0)).bind fun d=>
 cond (!(decide (a>8)))
  (cond (!(decide (b>8)))
    (some (decide (d>400)))
    (some true))
  (some true)
def Ah8 (l0:List Int):Int→Option (Int⊕(Int)):=fun st=>match st with
| a=>
 cond (decide (a>0))
  ((atI l0 (i64.wrap (a-1))).bind fun b=>
   cond (b==0)
    (some (.inl (i64.wrap (a-1))))
    (some (.inr a)))
  (some (.inr a))
def Ag3 (l0:List Int):Option (List Int):=
 (some ((l0.length:Nat):Int)).bind fun a=>
 (Af5 (Ah8 l0) FU a).bind fun b=>
 (Cd8 l0 0 b).bind fun c=>
 (Dp2 ([]:List Int) c).bind fun d=>
 some d
def Bw6 (a:Int):Option (List Int):=
 (some [a]).bind fun b=>
 (Ag3 b).bind fun c=>
 some c
def Ah9 (a:Int):Option (Bool×List Int×Int):=
 (cond (decide (a<0))
   (some (u64.wrap (0-(u64.wrap a))))
   (some (u64.wrap a))).bind fun b=>
 (Bw6 b).bind fun c=>
 some ((decide (a<0)),c,0)
def Bp8 (l0:List Int):Int→Option (Int⊕(Int)):=fun st=>match st with
| a=>
 cond (decide (a>0))
  ((atI l0 (i64.wrap (a-1))).bind fun b=>
   cond (b==0)
    (some (.inl (i64.wrap (a-1))))
    (some (.inr a)))
  (some (.inr a))
def Be2 (l0:List Int):Option Int:=
 (some ((l0.length:Nat):Int)).bind fun b=>
 (Af5 (Bp8 l0) FU b).bind fun a=>
 (Cd8 l0 0 a).bind fun c=>
 some a
def Al4 (l0:List Int):(Int×List Int)→Option ((Int×List Int)⊕(List Int)):=fun st=>match st with
| (a,b)=>
 (some ((l0.length:Nat):Int)).bind fun c=>
 cond (decide (a<c))
  ((atI l0 a).bind fun d=>
   (atI l0 a).bind fun e=>
   (some [(d.tmod 4294967296),(u64.wrap (e.tdiv 4294967296))]).bind fun f=>
   (Dp2 b f).bind fun g=>
   some (.inl ((i64.wrap (a+1)),g)))
  (some (.inr b))
def Ag8 (l0:List Int):Option (List Int):=
 (Af5 (Al4 l0) FU (0,([]:List Int))).bind fun a=>
 (Be2 a).bind fun b=>
 (Cd8 a 0 b).bind fun c=>
 some c
def Ao3 (l0:List Int) (b:Int):(Int×Int×List Int)→Option ((Int×Int×List Int)⊕((Int×List Int))):=fun st=>match st with
| (c,a,d)=>
 cond (decide (a≥0))
  ((atI l0 a).bind fun e=>
   (nz b).bind fun g=>
   (atI d a).bind fun h=>
   (some (d.set (a).toNat (u64.wrap ((u64.wrap ((u64.wrap (c*4294967296))+e)).tdiv b)))).bind fun f=>
   (nz b).bind fun i=>
   some (.inl (((u64.wrap ((u64.wrap (c*4294967296))+e)).tmod b),(i64.wrap (a-1)),f)))
  (some (.inr (c,d)))
def Bc8 (l0:List Int) (c:Int):Option (List Int×Int):=
 (some ((l0.length:Nat):Int)).bind fun a=>
 (mkL 0 a a).bind fun d=>
 (some ((l0.length:Nat):Int)).bind fun e=>
 (Af5 (Ao3 l0 c) FU (0,(i64.wrap (e-1)),d)).bind fun o=>match o with
 | (f,b)=>
 (Be2 b).bind fun g=>
 (Cd8 b 0 g).bind fun h=>
 some (h,f)
def Ao4 (l0:List Int):(Int×List Int)→Option ((Int×List Int)⊕(List Int)):=fun st=>match st with
| (a,b)=>
 (some ((l0.length:Nat):Int)).bind fun d=>
 cond (decide (a<d))
  ((atI l0 a).bind fun c=>
   (some ((l0.length:Nat):Int)).bind fun e=>
   (cond (decide ((i64.wrap (a+1))<e))
     ((atI l0 (i64.wrap (a+1))).bind fun f=>
      some (u64.wrap (c+(u64.wrap (4294967296*f)))))
     (some c)).bind fun g=>
   (some [g]).bind fun h=>
   (Dp2 b h).bind fun i=>
   some (.inl ((i64.wrap (a+2)),i)))
  (some (.inr b))
def An2 (l0:List Int):Option (List Int):=
 (Af5 (Ao4 l0) FU (0,([]:List Int))).bind fun a=>
 (Ag3 a).bind fun b=>
 some b
def Aj6 (d:Int) (c:List Int):(Bool×Int)→Option ((Bool×Int)⊕(Bool)):=fun st=>match st with
| (b,a)=>
 cond (decide (a<(i64.wrap (d.tdiv 32))))
  ((some ((c.length:Nat):Int)).bind fun e=>
   cond (decide (a<e))
    (cond (!b)
      ((atI c a).bind fun f=>
       some (.inl ((f != 0),(i64.wrap (a+1)))))
      (some (.inl (true,(i64.wrap (a+1))))))
    (some (.inr b)))
  (some (.inr b))
def As7 (c:Int):(Int×Int)→Option ((Int×Int)⊕(Int)):=fun st=>match st with
| (a,b)=>
 cond (decide (b<(c.tmod 32)))
  (some (.inl ((u64.wrap (2*a)),(i64.wrap (b+1)))))
  (some (.inr a))
def Av2 (l0:List Int) (a:Int):Option (List Int×Bool):=
 (Ag8 l0).bind fun b=>
 (Af5 (Aj6 a b) FU (false,0)).bind fun c=>
 (some ((b.length:Nat):Int)).bind fun e=>
 cond (decide ((i64.wrap (a.tdiv 32))≥e))
  (some (([]:List Int),c))
  ((Af5 (As7 a) FU (1,0)).bind fun f=>
   (some ((b.length:Nat):Int)).bind fun g=>
   (Cd8 b (i64.wrap (a.tdiv 32)) g).bind fun h=>
   (Bc8 h f).bind fun o=>match o with
   | (i,j)=>
   (An2 i).bind fun d=>
   cond (!c)
    (some (d,(j != 0)))
    (some (d,true)))
def Ar9 (b:List Int):Int→Option (Int⊕(Int)):=fun st=>match st with
| a=>
 (atI b (i64.wrap (a.tdiv 64))).bind fun c=>
 (nn (u64.wrap (a.tmod 64))).bind fun d=>
 cond (((c.fdiv (2^(min (u64.wrap (a.tmod 64)).toNat u64.bits))).tmod 2)==0)
  (some (.inl (i64.wrap (a+1))))
  (some (.inr a))
def Bh5 (e:Bool) (l0_1:List Int) (a:Int):Option (Bool×List Int×Int×Int):=
 (Ag3 l0_1).bind fun c=>
 (some ((c.length:Nat):Int)).bind fun f=>
 cond (f==0)
  (some (false,([]:List Int),0,0))
  ((Af5 (Ar9 c) FU 0).bind fun b=>
   (Av2 c b).bind fun o=>match o with
   | (d,i)=>
   ((some ((d.length:Nat):Int)).bind fun g=>
    cond (!(decide (g>256)))
     (cond (!(decide (a>65536)))
       (cond (!(decide (a<(i64.wrap ((-65536)-b)))))
         (some (decide ((i64.wrap (a+b))>65536)))
         (some true))
       (some true))
     (some true)).bind fun h=>
   cond h
    (some (false,([]:List Int),0,3))
    (some (e,d,(i64.wrap (a+b)),0)))
def Au3 (a:Bool) (l0_1:List Int) (b:Int):Option (Bool×List Int×Int×Int):=
 (Bh5 a l0_1 b).bind fun o=>match o with
 | (c,d,e,f)=>
 some (c,d,e,f)
def Bz9 (a:Int):Option (Bool×List Int×Int):=
 (Ah9 a).bind fun o=>match o with
 | (b,c,d)=>
 (Au3 b c d).bind fun o=>match o with
 | (e,f,g,h)=>
 some (e,f,g)
def Cp2 (b:List Int):(Int×List Dy)→Option ((Int×List Dy)⊕(List Dy)):=fun st=>match st with
| (a,c)=>
 (some ((b.length:Nat):Int)).bind fun d=>
 cond (decide (a<d))
  ((atI b a).bind fun e=>
   (Bz9 e).bind fun o=>match o with
   | (f,g,h)=>
   (some ([(f,g,h)]:List Dy)).bind fun i=>
   (Dp2 c i).bind fun j=>
   some (.inl ((i64.wrap (a+1)),j)))
  (some (.inr c))
def Br6 (a:Int) (b:List Int):Option (Int×Int×List Dy):=
 (Af5 (Cp2 b) FU (0,([]:List Dy))).bind fun c=>
 some (a,a,c)
def Ao9 (a:Int):Option Bool:=
 cond (decide (a≥0))
  (some (decide (a≤48)))
  (some false)
def Aa6 (c:Int) (l0:List Dy) (d:Dy→Option Bool):Int→Option (Int⊕(Unit⊕Int)):=fun st=>match st with
| a=>
 cond (decide (a<c))
  ((atI l0 a).bind fun b=>
   (d (b.1,b.2.1,b.2.2)).bind fun e=>
   cond e
    (some (.inr (.inr a)))
    (some (.inl (i64.wrap (a+1)))))
  (some (.inr (.inl ())))
def Ac9 (l0:List Dy) (a:Dy→Option Bool):Option Int:=
 (some ((l0.length:Nat):Int)).bind fun b=>
 ((Af5 (Aa6 b l0 a) FU 0:Option (Unit⊕Int))).bind fun o=>match o with
 | .inl ()=>some (-1)
 | .inr v=>some v
def Ac2 (l0:List Dy) (a:Dy→Option Bool):Option Bool:=
 (Ac9 l0 a).bind fun b=>
 some (decide (b≥0))
def Ag6 (c:Bool) (l0_1:List Int) (a:Int):Option Bool:=
 (some ((l0_1.length:Nat):Int)).bind fun b=>
 cond (b==0)
  (cond (!c)
    (some (a==0))
    (some false))
  (cond (decide (b≤256))
    ((atI l0_1 (i64.wrap (b-1))).bind fun d=>
     cond (d != 0)
      ((atI l0_1 0).bind fun e=>
       cond ((u64.wrap (BitVec.ofInt u64.bits e &&& BitVec.ofInt u64.bits 1).toNat)==1)
        (cond (decide (((-65536):Int)≤a))
          (some (decide (a≤65536)))
          (some false))
        (some false))
      (some false))
    (some false))
def Al3 (a:Bool) (l0_1:List Int) (b:Int):Option Bool:=
 (Ag6 a l0_1 b).bind fun c=>
 some (!c)
def Al8 (a:Int) (b:Int) (c:List Dy):Option Bool:=
 (Ao9 a).bind fun d=>
 cond d
  ((Ao9 b).bind fun e=>
   cond e
    ((some ((c.length:Nat):Int)).bind fun f=>
     cond (f==(i64.wrap (a*b)))
      ((Ac2 c (fun v=>Al3 v.1 v.2.1 v.2.2)).bind fun g=>
       some (!g))
      (some false))
    (some false))
  (some false)
def Ay2 (a:Bool) (l0_1:List Int) (b:Int):Option (Int×Int):=
 (Ag6 a l0_1 b).bind fun c=>
 cond (!c)
  (some (0,2))
  ((some ((l0_1.length:Nat):Int)).bind fun d=>
   cond (d==0)
    (some (0,0))
    (cond a
      (some ((-1),0))
      (some (1,0))))
def Ar6 (a:Int):Option Int:=
 cond (decide (0≤a∧a≤18446744073709551615)) (some ((blN a.toNat:Nat):Int)) none
def Au5 (e:Bool) (l0_1:List Int) (b:Int):Option Int:=
 (some ((l0_1.length:Nat):Int)).bind fun a=>
 (atI l0_1 (i64.wrap (a-1))).bind fun c=>
 (Ar6 c).bind fun d=>
 some (i64.wrap ((i64.wrap (b+(i64.wrap (64*(i64.wrap (a-1))))))+d))
def Am5 (c:Int) (l0_1:List Int):(Int×Int)→Option ((Int×Int)⊕(Int)):=fun st=>match st with
| (a,b)=>
 cond (decide (a<c))
  ((Bf5 b 64).bind fun d=>
   (some ((l0_1.length:Nat):Int)).bind fun e=>
   (atI l0_1 (i64.wrap ((i64.wrap (e-1))-a))).bind fun f=>
   (Ak6 f).bind fun g=>
   (Ef0 d g).bind fun h=>
   some (.inl ((i64.wrap (a+1)),h)))
  (some (.inr b))
def Ai4 (b:Bool) (l0_1:List Int) (f:Int):Option Int:=
 (some ((l0_1.length:Nat):Int)).bind fun c=>
 (Af5 (Am5 c l0_1) FU (0,0)).bind fun a=>
 (cond b
   ((Cr3 a).bind fun d=>
    some d)
   (some a)).bind fun e=>
 some e
def Bi6 (d:Bool) (l0_1:List Int) (a:Int) (e:Bool) (l1_1:List Int) (b:Int):Option (Int×Int):=
 (Ay2 d l0_1 a).bind fun o=>match o with
 | (c,i)=>
 (Ay2 e l1_1 b).bind fun o=>match o with
 | (f,j)=>
 (cond (!(i != 0))
   (some (j != 0))
   (some true)).bind fun k=>
 cond k
  (some (0,2))
  (cond (c != f)
    (cond (decide (c<f))
      (some ((-1),0))
      (some (1,0)))
    (cond (c==0)
      (some (0,0))
      ((Au5 d l0_1 a).bind fun l=>
       (Au5 e l1_1 b).bind fun m=>
       cond (l != m)
        ((Au5 d l0_1 a).bind fun n=>
         (Au5 e l1_1 b).bind fun p=>
         cond (decide (n<p))
          (some ((i64.wrap (0-c)),0))
          (some (c,0)))
        ((Ai4 d l0_1 a).bind fun g=>
         (Ai4 e l1_1 b).bind fun h=>
         (cond (decide (a>b))
           ((Bf5 g (u64.wrap (i64.wrap (a-b)))).bind fun q=>
            some (q,h))
           ((Bf5 h (u64.wrap (i64.wrap (b-a)))).bind fun r=>
            some (g,r))).bind fun o=>match o with
         | (s,t)=>
         (Dy7 s t).bind fun u=>
         some (u,0)))))
def Ah0 (b:Int) (e:List Dy) (f:Int):Int→Option (Int⊕(Unit⊕Bool)):=fun st=>match st with
| a=>
 cond (decide (a<b))
  ((atI e (i64.wrap ((i64.wrap (b*f))+a))).bind fun c=>
   (atI e (i64.wrap ((i64.wrap (a*f))+b))).bind fun d=>
   (Bi6 c.1 c.2.1 c.2.2 d.1 d.2.1 d.2.2).bind fun o=>match o with
   | (g,h)=>
   cond (g != 0)
    (some (.inr (.inr false)))
    (some (.inl (i64.wrap (a+1)))))
  (some (.inr (.inl ())))
def Ap0 (b:Int) (c:List Dy) (d:Int):Int→Option (Int⊕(Unit⊕Bool)):=fun st=>match st with
| a=>
 cond (decide (a<b))
  (((Af5 (Ah0 a c d) FU 0:Option (Unit⊕Bool))).bind fun o=>match o with
   | .inl ()=>some (.inl (i64.wrap (a+1)))
   | .inr v=>some (.inr (.inr v)))
  (some (.inr (.inl ())))
def Ac4 (a:Int) (b:Int) (c:List Dy):Option Bool:=
 ((Al8 a b c).bind fun d=>
  cond (!(!d))
   (some (a != b))
   (some true)).bind fun e=>
 cond e
  (some false)
  (((Af5 (Ap0 a c b) FU 0:Option (Unit⊕Bool))).bind fun o=>match o with
   | .inl ()=>some true
   | .inr v=>some v)
def Bf3 (c:Int) (l0_1:List Int):(Int×Int)→Option ((Int×Int)⊕(Int)):=fun st=>match st with
| (a,b)=>
 cond (decide (a<c))
  ((Bf5 b 64).bind fun d=>
   (some ((l0_1.length:Nat):Int)).bind fun e=>
   (atI l0_1 (i64.wrap ((i64.wrap (e-1))-a))).bind fun f=>
   (Ak6 f).bind fun g=>
   (Ef0 d g).bind fun h=>
   some (.inl ((i64.wrap (a+1)),h)))
  (some (.inr b))
def Ah4 (b:Bool) (l0_1:List Int) (c:Int) (d:Int):Option Int:=
 (some ((l0_1.length:Nat):Int)).bind fun e=>
 cond (e==0)
  (some 0)
  ((some ((l0_1.length:Nat):Int)).bind fun f=>
   (Af5 (Bf3 f l0_1) FU (0,0)).bind fun a=>
   (cond b
     ((Cr3 a).bind fun g=>
      some g)
     (some a)).bind fun h=>
   (Bf5 h (u64.wrap (i64.wrap (c-d)))).bind fun i=>
   some i)
def Bv2 (a:Int):Option Int:=
 (At5 a).bind fun b=>
 some b
def Ap6 (d:Int):(Int×Int×List Int)→Option ((Int×Int×List Int)⊕(List Int)):=fun st=>match st with
| (j,a,b)=>
 (An3 a).bind fun e=>
 cond (decide (e>0))
  ((Di3 a d).bind fun c=>
   (Aw0 c).bind fun f=>
   (some [f]).bind fun g=>
   (Dp2 b g).bind fun h=>
   (Bi2 a 64).bind fun i=>
   some (.inl (c,i,h)))
  (some (.inr b))
def Av0 (a:Int):Option (List Int):=
 (Bo3 a).bind fun b=>
 (Ak6 18446744073709551615).bind fun c=>
 (Af5 (Ap6 c) FU (0,b,([]:List Int))).bind fun d=>
 some d
def Be3 (a:Int) (c:Int):Option (Bool×List Int×Int×Int):=
 (An3 a).bind fun d=>
 cond (d==0)
  (some (false,([]:List Int),0,0))
  ((Af2 a).bind fun b=>
   cond (decide (c>65536))
    (some (false,([]:List Int),0,3))
    (cond (decide (c<(i64.wrap ((-65536)-(i64.wrap b)))))
      (some (false,([]:List Int),0,3))
      (cond (decide ((i64.wrap (c+(i64.wrap b)))>65536))
        (some (false,([]:List Int),0,3))
        ((Be1 a).bind fun e=>
         cond (decide ((i64.wrap (e-(i64.wrap b)))>16384))
          (some (false,([]:List Int),0,3))
          ((An3 a).bind fun f=>
           (Bo3 a).bind fun g=>
           (Bi2 g (u64.wrap (i64.wrap b))).bind fun h=>
           (Av0 h).bind fun i=>
           some ((decide (f<0)),i,(i64.wrap (c+(i64.wrap b))),0))))))
def Bc2 (b:Bool) (l0_1:List Int) (a:Int):Option (Bool×List Int×Int×Int):=
 (Ai4 b l0_1 a).bind fun c=>
 (Be3 c a).bind fun o=>match o with
 | (d,e,f,g)=>
 some (d,e,f,g)
def Ai8  : (Int×List Int)→Option ((Int×List Int)⊕(List Int)):=fun st=>match st with
| (a,b)=>
 (An3 a).bind fun c=>
 cond (decide (c>0))
  ((Aw0 a).bind fun d=>
   (some [d]).bind fun e=>
   (Dp2 b e).bind fun f=>
   (Bi2 a 64).bind fun g=>
   some (.inl (g,f)))
  (some (.inr b))
def Ao2 (a:Int) (b:Int):Option (Bool×List Int×Int×Int):=
 (An3 a).bind fun c=>
 (Bo3 a).bind fun d=>
 (Af5 (Ai8) FU (d,([]:List Int))).bind fun e=>
 (Bc2 (decide (c<0)) e b).bind fun o=>match o with
 | (f,g,h,i)=>
 some (f,g,h,i)
def Ag9 (l0:List Int) (b:List Int):Int→Option (Int⊕(Unit⊕Bool)):=fun st=>match st with
| a=>
 (some ((l0.length:Nat):Int)).bind fun c=>
 cond (decide (a<c))
  ((atI l0 a).bind fun d=>
   (atI b a).bind fun e=>
   cond (d != e)
    (some (.inr (.inr false)))
    (some (.inl (i64.wrap (a+1)))))
  (some (.inr (.inl ())))
def Av7 (l0:List Int) (a:List Int):Option Bool:=
 (some ((l0.length:Nat):Int)).bind fun b=>
 (some ((a.length:Nat):Int)).bind fun c=>
 cond (b != c)
  (some false)
  (((Af5 (Ag9 l0 a) FU 0:Option (Unit⊕Bool))).bind fun o=>match o with
   | .inl ()=>some true
   | .inr v=>some v)
def Am8 (a:Bool) (l0_1:List Int) (b:Int) (c:Bool) (l1_1:List Int) (d:Int):Option Bool:=
 cond (a==c)
  ((Av7 l0_1 l1_1).bind fun e=>
   cond e
    (some (b==d))
    (some false))
  (some false)
def Aj4 (l0:List Dy) (d:List Dy):Int→Option (Int⊕(Unit⊕Bool)):=fun st=>match st with
| a=>
 (some ((l0.length:Nat):Int)).bind fun e=>
 cond (decide (a<e))
  ((atI l0 a).bind fun b=>
   (atI d a).bind fun c=>
   (Am8 b.1 b.2.1 b.2.2 c.1 c.2.1 c.2.2).bind fun f=>
   cond (!f)
    (some (.inr (.inr false)))
    (some (.inl (i64.wrap (a+1)))))
  (some (.inr (.inl ())))
def Ak7 (l0:List Dy) (a:List Dy):Option Bool:=
 (some ((l0.length:Nat):Int)).bind fun b=>
 (some ((a.length:Nat):Int)).bind fun c=>
 cond (b != c)
  (some false)
  (((Af5 (Aj4 l0 a) FU 0:Option (Unit⊕Bool))).bind fun o=>match o with
   | .inl ()=>some true
   | .inr v=>some v)
def Av6 (l0:List Int):Option (List Int):=
 cond (decide (l0.length≤4294967000)) (some l0) none
def Ba2 (a:Bool) (l0_1:List Int) (b:Int):Option (Bool×List Int×Int):=
 (Av6 l0_1).bind fun c=>
 some (a,c,b)
def Aq9 (b:Bool) (l0_1:List Int) (a:Int):Option Bool:=
 (some ((l0_1.length:Nat):Int)).bind fun c=>
 cond (c==0)
  (cond (!b)
    (some (a==0))
    (some false))
  ((some ((l0_1.length:Nat):Int)).bind fun d=>
   cond (decide (d≤256))
    ((some ((l0_1.length:Nat):Int)).bind fun e=>
     (atI l0_1 (i64.wrap (e-1))).bind fun f=>
     cond (f != 0)
      ((atI l0_1 0).bind fun g=>
       cond ((g.tmod 2)==1)
        (cond (decide (a≥(-65536)))
          (some (decide (a≤65536)))
          (some false))
        (some false))
      (some false))
    (some false))
def Ah2 (c:List Dy):Int→Option (Int⊕(Unit⊕Bool)):=fun st=>match st with
| a=>
 (some ((c.length:Nat):Int)).bind fun d=>
 cond (decide (a<d))
  ((atI c a).bind fun b=>
   (Aq9 b.1 b.2.1 b.2.2).bind fun e=>
   cond (!e)
    (some (.inr (.inr false)))
    (some (.inl (i64.wrap (a+1)))))
  (some (.inr (.inl ())))
def Ay3 (a:Int) (b:Int) (c:List Dy):Option Bool:=
 (cond (!(decide (a<0)))
   (cond (!(decide (a>48)))
     (cond (!(decide (b<0)))
       (cond (!(decide (b>48)))
         ((some ((c.length:Nat):Int)).bind fun d=>
          some (d != (i64.wrap (a*b))))
         (some true))
       (some true))
     (some true))
   (some true)).bind fun e=>
 cond e
  (some false)
  (((Af5 (Ah2 c) FU 0:Option (Unit⊕Bool))).bind fun o=>match o with
   | .inl ()=>some true
   | .inr v=>some v)
def Ar8 (a:Bool) (l0_1:List Int) (b:Int):Option (Bool×List Int×Int):=
 (Ag3 l0_1).bind fun c=>
 some (a,c,b)
def Ak0  : (Int×Int)→Option ((Int×Int)⊕(Int)):=fun st=>match st with
| (a,b)=>
 cond (decide (b>0))
  (some (.inl ((i64.wrap (a+1)),(u64.wrap (b.tdiv 2)))))
  (some (.inr a))
def An6 (l0:List Int):Option Int:=
 (Ag3 l0).bind fun a=>
 (some ((a.length:Nat):Int)).bind fun b=>
 cond (b==0)
  (some 0)
  ((some ((a.length:Nat):Int)).bind fun c=>
   (some ((a.length:Nat):Int)).bind fun d=>
   (atI a (i64.wrap (d-1))).bind fun e=>
   (Af5 (Ak0) FU ((i64.wrap (64*(i64.wrap (c-1)))),e)).bind fun f=>
   some f)
def Af9 (b:Bool) (l0_1:List Int) (c:Int):Option Bool:=
 (An6 l0_1).bind fun a=>
 some (a==0)
def Af7 (a:Bool) (l0_1:List Int) (b:Int):Option Int:=
 (Af9 a l0_1 b).bind fun c=>
 cond c
  (some 0)
  (cond a
    (some (-1))
    (some 1))
def Ak2 (c:Bool) (l0_1:List Int) (a:Int):Option Int:=
 (An6 l0_1).bind fun b=>
 some (i64.wrap (a+b))
def Ap8 (a:Bool) (l0_1:List Int) (b:Int):Option (Bool×List Int×Int):=
 some ((!a),l0_1,b)
def Ay8 (c:Int):(Int×Int)→Option ((Int×Int)⊕(Int)):=fun st=>match st with
| (a,b)=>
 cond (decide (b<(c.tmod 32)))
  (some (.inl ((u64.wrap (2*a)),(i64.wrap (b+1)))))
  (some (.inr a))
def Ao7 (c:List Int) (d:Int):(Int×Int×List Int)→Option ((Int×Int×List Int)⊕((Int×List Int))):=fun st=>match st with
| (a,b,e)=>
 (some ((c.length:Nat):Int)).bind fun g=>
 cond (decide (b<g))
  ((atI c b).bind fun f=>
   (some [((u64.wrap ((u64.wrap (f*d))+a)).tmod 4294967296)]).bind fun h=>
   (Dp2 e h).bind fun i=>
   some (.inl ((u64.wrap ((u64.wrap ((u64.wrap (f*d))+a)).tdiv 4294967296)),(i64.wrap (b+1)),i)))
  (some (.inr (a,e)))
def At9 (l0:List Int) (a:Int):Option (List Int):=
 (Ag8 l0).bind fun b=>
 (some ((b.length:Nat):Int)).bind fun c=>
 cond (c==0)
  (some ([]:List Int))
  ((mkL 0 (i64.wrap (a.tdiv 32)) (i64.wrap (a.tdiv 32))).bind fun d=>
   (Af5 (Ay8 a) FU (1,0)).bind fun e=>
   (Af5 (Ao7 b e) FU (0,0,d)).bind fun o=>match o with
   | (f,g)=>
   (some [f]).bind fun h=>
   (Dp2 g h).bind fun i=>
   (An2 i).bind fun j=>
   some j)
def At6 (l0:List Int) (a:Int):Option Int:=
 (some ((l0.length:Nat):Int)).bind fun b=>
 cond (decide (a<b))
  ((atI l0 a).bind fun c=>
   some c)
  (some 0)
def Aj1 (c:List Int) (d:List Int):(Int×Int×List Int)→Option ((Int×Int×List Int)⊕(List Int)):=fun st=>match st with
| (b,a,e)=>
 ((some ((c.length:Nat):Int)).bind fun h=>
  cond (!(decide (a<h)))
   ((some ((d.length:Nat):Int)).bind fun i=>
    cond (!(decide (a<i)))
     (some (decide (b>0)))
     (some true))
   (some true)).bind fun j=>
 cond j
  ((At6 c a).bind fun f=>
   (At6 d a).bind fun g=>
   (some [((u64.wrap ((u64.wrap (f+g))+b)).tmod 4294967296)]).bind fun k=>
   (Dp2 e k).bind fun l=>
   some (.inl ((u64.wrap ((u64.wrap ((u64.wrap (f+g))+b)).tdiv 4294967296)),(i64.wrap (a+1)),l)))
  (some (.inr e))
def Aq1 (l0:List Int) (a:List Int):Option (List Int):=
 (Ag8 l0).bind fun b=>
 (Ag8 a).bind fun c=>
 (Af5 (Aj1 b c) FU (0,0,([]:List Int))).bind fun d=>
 (An2 d).bind fun e=>
 some e
def Ai9 (b:List Int) (c:List Int):Int→Option (Int⊕(Unit⊕Int)):=fun st=>match st with
| a=>
 cond (decide (a≥0))
  ((atI b a).bind fun d=>
   (atI c a).bind fun e=>
   cond (decide (d<e))
    (some (.inr (.inr (-1))))
    ((atI b a).bind fun f=>
     (atI c a).bind fun g=>
     cond (decide (f>g))
      (some (.inr (.inr 1)))
      (some (.inl (i64.wrap (a-1))))))
  (some (.inr (.inl ())))
def Ap9 (l0:List Int) (c:List Int):Option Int:=
 (Ag3 l0).bind fun a=>
 (Ag3 c).bind fun b=>
 (some ((a.length:Nat):Int)).bind fun d=>
 (some ((b.length:Nat):Int)).bind fun e=>
 cond (d != e)
  ((some ((a.length:Nat):Int)).bind fun f=>
   (some ((b.length:Nat):Int)).bind fun g=>
   cond (decide (f<g))
    (some (-1))
    (some 1))
  ((some ((a.length:Nat):Int)).bind fun h=>
   ((Af5 (Ai9 a b) FU (i64.wrap (h-1)):Option (Unit⊕Int))).bind fun o=>match o with
   | .inl ()=>some 0
   | .inr v=>some v)
def Al9 (b:List Int) (g:List Int):(Int×Int×List Int)→Option ((Int×Int×List Int)⊕(List Int)):=fun st=>match st with
| (c,a,d)=>
 (some ((b.length:Nat):Int)).bind fun h=>
 cond (decide (a<h))
  ((atI b a).bind fun e=>
   (At6 g a).bind fun f=>
   (some [((u64.wrap ((u64.wrap ((u64.wrap (4294967296+e))-f))-c)).tmod 4294967296)]).bind fun i=>
   (Dp2 d i).bind fun j=>
   some (.inl ((u64.wrap (1-(u64.wrap ((u64.wrap ((u64.wrap ((u64.wrap (4294967296+e))-f))-c)).tdiv 4294967296)))),(i64.wrap (a+1)),j)))
  (some (.inr d))
def Ai3 (l0:List Int) (a:List Int):Option (List Int):=
 (Ag8 l0).bind fun b=>
 (Ag8 a).bind fun c=>
 (Af5 (Al9 b c) FU (0,0,([]:List Int))).bind fun d=>
 (An2 d).bind fun e=>
 some e
def Bv6 (a:Bool) (l0_1:List Int) (b:Int) (c:Bool) (l1_1:List Int) (d:Int):Option (Bool×List Int×Int):=
 none
def Bk0 (b:Bool) (l0_1:List Int) (a:Int) (c:Bool) (l1_1:List Int) (d:Int):Option (Bool×List Int×Int):=
 (Af9 b l0_1 a).bind fun f=>
 cond f
  (some (c,l1_1,d))
  ((Af9 c l1_1 d).bind fun g=>
   cond g
    (some (b,l0_1,a))
    (cond (decide (a>d))
      ((Bv6 c l1_1 d b l0_1 a).bind fun o=>match o with
       | (h,i,j)=>
       some (h,i,j))
      ((At9 l1_1 (i64.wrap (d-a))).bind fun e=>
       cond (b==c)
        ((Aq1 l0_1 e).bind fun k=>
         some (b,k,a))
        ((Ap9 l0_1 e).bind fun l=>
         cond (decide (l≥0))
          ((Ai3 l0_1 e).bind fun m=>
           some (b,m,a))
          ((Ai3 e l0_1).bind fun n=>
           some (c,n,a))))))
def Ao8 (b:Bool) (l0_1:List Int) (a:Int) (c:Bool) (l1_1:List Int) (d:Int):Option (Bool×List Int×Int):=
 (Af9 b l0_1 a).bind fun f=>
 cond f
  (some (c,l1_1,d))
  ((Af9 c l1_1 d).bind fun g=>
   cond g
    (some (b,l0_1,a))
    (cond (decide (a>d))
      ((Bk0 c l1_1 d b l0_1 a).bind fun o=>match o with
       | (h,i,j)=>
       some (h,i,j))
      ((At9 l1_1 (i64.wrap (d-a))).bind fun e=>
       cond (b==c)
        ((Aq1 l0_1 e).bind fun k=>
         some (b,k,a))
        ((Ap9 l0_1 e).bind fun l=>
         cond (decide (l≥0))
          ((Ai3 l0_1 e).bind fun m=>
           some (b,m,a))
          ((Ai3 e l0_1).bind fun n=>
           some (c,n,a))))))
def Av9 (b:Bool) (l0_1:List Int) (c:Int) (d:Bool) (l1_1:List Int) (e:Int):Option Int:=
 (Af7 b l0_1 c).bind fun a=>
 (Af7 d l1_1 e).bind fun f=>
 (cond (!(a != f))
   (some (a==0))
   (some true)).bind fun g=>
 cond g
  (cond (decide (a<f))
    (some (-1))
    (cond (decide (a>f))
      (some 1)
      (some 0)))
  ((Ak2 b l0_1 c).bind fun h=>
   (Ak2 d l1_1 e).bind fun i=>
   cond (h != i)
    ((Ak2 b l0_1 c).bind fun j=>
     (Ak2 d l1_1 e).bind fun k=>
     cond (decide (j<k))
      (some (i64.wrap (0-a)))
      (some a))
    ((Ap8 d l1_1 e).bind fun o=>match o with
     | (l,m,n)=>
     (Ao8 b l0_1 c l m n).bind fun o=>match o with
     | (p,q,r)=>
     (Af7 p q r).bind fun s=>
     some s))
def Ak9 (b:Int) (e:List Dy) (f:Int):Int→Option (Int⊕(Unit⊕Bool)):=fun st=>match st with
| a=>
 cond (decide (a<b))
  ((atI e (i64.wrap ((i64.wrap (b*f))+a))).bind fun c=>
   (atI e (i64.wrap ((i64.wrap (a*f))+b))).bind fun d=>
   (Ar8 c.1 c.2.1 c.2.2).bind fun o=>match o with
   | (g,h,i)=>
   (Ar8 d.1 d.2.1 d.2.2).bind fun o=>match o with
   | (j,k,l)=>
   (Av9 g h i j k l).bind fun m=>
   cond (m != 0)
    (some (.inr (.inr false)))
    (some (.inl (i64.wrap (a+1)))))
  (some (.inr (.inl ())))
def Aw1 (b:Int) (c:List Dy) (d:Int):Int→Option (Int⊕(Unit⊕Bool)):=fun st=>match st with
| a=>
 cond (decide (a<b))
  (((Af5 (Ak9 a c d) FU 0:Option (Unit⊕Bool))).bind fun o=>match o with
   | .inl ()=>some (.inl (i64.wrap (a+1)))
   | .inr v=>some (.inr (.inr v)))
  (some (.inr (.inl ())))
def Ah6 (a:Int) (b:Int) (c:List Dy):Option Bool:=
 ((Ay3 a b c).bind fun d=>
  cond (!(!d))
   (some (a != b))
   (some true)).bind fun e=>
 cond e
  (some false)
  (((Af5 (Aw1 a c b) FU 0:Option (Unit⊕Bool))).bind fun o=>match o with
   | .inl ()=>some true
   | .inr v=>some v)
def Aj8 (d:List Dy) (b:Int) (i:Bool) (l1_1:List Int) (j:Int):(Int×List Dy)→Option ((Int×List Dy)⊕(List Dy)):=fun st=>match st with
| (a,e)=>
 (some ((d.length:Nat):Int)).bind fun k=>
 cond (decide (a<k))
  ((atI d a).bind fun c=>
   (Ar8 c.1 c.2.1 c.2.2).bind fun o=>match o with
   | (f,g,h)=>
   (nz b).bind fun y=>
   (nz b).bind fun z=>
   (cond ((i64.wrap (a.tdiv b))==(a.tmod b))
     ((Ap8 i l1_1 j).bind fun o=>match o with
      | (l,m,n)=>
      (Ao8 f g h l m n).bind fun o=>match o with
      | (p,q,r)=>
      some (p,r,q))
     (some (f,h,g))).bind fun o=>match o with
   | (s,t,u)=>
   (some ([(s,u,t)]:List Dy)).bind fun v=>
   (Dp2 e v).bind fun x=>
   some (.inl ((i64.wrap (a+1)),x)))
  (some (.inr e))
def Ak4 (f:Int) (a:Int) (b:List Dy) (c:Bool) (l1_1:List Int) (d:Int):Option (List Dy):=
 (Af5 (Aj8 b a c l1_1 d) FU (0,([]:List Dy))).bind fun e=>
 some e
def Bg3 (l0:List Int):Int→Option (Int⊕(Int)):=fun st=>match st with
| a=>
 (atI l0 (i64.wrap (a.tdiv 64))).bind fun b=>
 (nn (u64.wrap (a.tmod 64))).bind fun c=>
 cond (((b.fdiv (2^(min (u64.wrap (a.tmod 64)).toNat u64.bits))).tmod 2)==0)
  (some (.inl (i64.wrap (a+1))))
  (some (.inr a))
def Bd7 (l0:List Int):Option Int:=
 (Af5 (Bg3 l0) FU 0).bind fun a=>
 some a
def Ar2 (l0:List Dy):(Int×Int×Int)→Option ((Int×Int×Int)⊕((Int×Int))):=fun st=>match st with
| (b,c,a)=>
 (some ((l0.length:Nat):Int)).bind fun i=>
 cond (decide (a<i))
  (((atI l0 a).bind fun d=>
    (Af9 d.1 d.2.1 d.2.2).bind fun j=>
    cond j
     (some (b,c))
     ((atI l0 a).bind fun e=>
      (atI l0 a).bind fun k=>
      (Bd7 k.2.1).bind fun f=>
      (atI l0 a).bind fun g=>
      (atI l0 a).bind fun l=>
      (An6 l.2.1).bind fun h=>
      some ((if (i64.wrap (e.2.2+f))<b then (i64.wrap (e.2.2+f)) else b),(if (i64.wrap (g.2.2+h))>c then (i64.wrap (g.2.2+h)) else c)))).bind fun o=>match o with
   | (m,n)=>some (.inl (m,n,(i64.wrap (a+1)))))
  (some (.inr (b,c)))
def Au9 (l0:List Dy) (c:Int):Option Bool:=
 (Af5 (Ar2 l0) FU (1099511627776,(-1099511627776),0)).bind fun o=>match o with
 | (a,b)=>
 cond (decide (b>a))
  (some (decide ((i64.wrap ((i64.wrap (b-a))*c))>8192)))
  (some false)
def Aj9 (e:List Int) (l0:List Int) (b:Int):(Int×Int×List Int)→Option ((Int×Int×List Int)⊕((Int×List Int))):=fun st=>match st with
| (d,a,c)=>
 (some ((e.length:Nat):Int)).bind fun i=>
 cond (decide (a<i))
  ((atI l0 b).bind fun f=>
   (atI e a).bind fun g=>
   (atI c (i64.wrap (b+a))).bind fun h=>
   (atI c (i64.wrap (b+a))).bind fun k=>
   (some (c.set ((i64.wrap (b+a))).toNat ((u64.wrap ((u64.wrap ((u64.wrap (f*g))+h))+d)).tmod 4294967296))).bind fun j=>
   some (.inl ((u64.wrap ((u64.wrap ((u64.wrap ((u64.wrap (f*g))+h))+d)).tdiv 4294967296)),(i64.wrap (a+1)),j)))
  (some (.inr (d,c)))
def Aj5 (l0:List Int) (b:List Int):(Int×List Int)→Option ((Int×List Int)⊕(List Int)):=fun st=>match st with
| (a,c)=>
 (some ((l0.length:Nat):Int)).bind fun f=>
 cond (decide (a<f))
  ((Af5 (Aj9 b l0 a) FU (0,0,c)).bind fun o=>match o with
   | (g,d)=>
   (some ((b.length:Nat):Int)).bind fun e=>
   (atI d (i64.wrap (a+e))).bind fun i=>
   (some (d.set ((i64.wrap (a+e))).toNat g)).bind fun h=>
   some (.inl ((i64.wrap (a+1)),h)))
  (some (.inr c))
def Av4 (l0:List Int) (a:List Int):Option (List Int):=
 (some ((l0.length:Nat):Int)).bind fun b=>
 (some ((a.length:Nat):Int)).bind fun c=>
 (mkL 0 (i64.wrap (b+c)) (i64.wrap (b+c))).bind fun e=>
 (Af5 (Aj5 l0 a) FU (0,e)).bind fun d=>
 (Be2 d).bind fun f=>
 (Cd8 d 0 f).bind fun g=>
 some g
def Az8 (l0:List Int) (a:List Int):Option (List Int):=
 (Ag8 l0).bind fun b=>
 (Ag8 a).bind fun c=>
 (Av4 b c).bind fun d=>
 (An2 d).bind fun e=>
 some e
def Aq6 (a:Bool) (l0_1:List Int) (b:Int) (c:Bool) (l1_1:List Int) (d:Int):Option (Bool×List Int×Int):=
 (Az8 l0_1 l1_1).bind fun e=>
 some ((!(a==c)),e,(i64.wrap (b+d)))
def Ae5 (d:Int) (l0:List Dy) (e:Int):(Int×List Dy)→Option ((Int×List Dy)⊕(List Dy)):=fun st=>match st with
| (a,b)=>
 cond (decide (a<d))
  ((atI l0 (i64.wrap ((i64.wrap (a*e))+d))).bind fun c=>
   (atI b a).bind fun g=>
   (some (b.set (a).toNat (c.1,c.2.1,c.2.2))).bind fun f=>
   some (.inl ((i64.wrap (a+1)),f)))
  (some (.inr b))
def Ae3 (d:Int) (l0:List Dy) (h:Int) (i:List Dy):(Int×Bool×Int×List Int)→Option ((Int×Bool×Int×List Int)⊕((Bool×Int×List Int))):=fun st=>match st with
| (a,e,f,g)=>
 cond (decide (a<d))
  ((atI l0 (i64.wrap ((i64.wrap (d*h))+a))).bind fun b=>
   (atI i a).bind fun c=>
   (Aq6 b.1 b.2.1 b.2.2 c.1 c.2.1 c.2.2).bind fun o=>match o with
   | (j,k,l)=>
   (Ao8 e g f j k l).bind fun o=>match o with
   | (m,n,p)=>
   some (.inl ((i64.wrap (a+1)),m,p,n)))
  (some (.inr (e,f,g)))
def Ae4 (g:Int) (a:Int) (l0:List Dy) (h:Int) (i:List Dy):(Int×List Dy)→Option ((Int×List Dy)⊕(List Dy)):=fun st=>match st with
| (b,c)=>
 cond (decide (b<g))
  ((atI c a).bind fun d=>
   (atI l0 (i64.wrap ((i64.wrap (a*h))+b))).bind fun e=>
   (atI i b).bind fun f=>
   (Aq6 e.1 e.2.1 e.2.2 f.1 f.2.1 f.2.2).bind fun o=>match o with
   | (j,k,l)=>
   (Ao8 d.1 d.2.1 d.2.2 j k l).bind fun o=>match o with
   | (m,n,p)=>
   (atI c a).bind fun r=>
   (some (c.set (a).toNat (m,n,p))).bind fun q=>
   some (.inl ((i64.wrap (b+1)),q)))
  (some (.inr c))
def Ae6 (c:Int) (l0:List Dy) (d:Int) (e:List Dy):(Int×List Dy)→Option ((Int×List Dy)⊕(List Dy)):=fun st=>match st with
| (a,b)=>
 cond (decide (a<c))
  ((Ah9 0).bind fun o=>match o with
   | (f,g,h)=>
   (atI b a).bind fun k=>
   (some (b.set (a).toNat (f,g,h))).bind fun i=>
   (Af5 (Ae4 c a l0 d e) FU (0,i)).bind fun j=>
   some (.inl ((i64.wrap (a+1)),j)))
  (some (.inr b))
def Ad9 (a:Int) (l0:List Dy) (b:Int):(Int×List Dy×List Dy)→Option ((Int×List Dy×List Dy)⊕(List Dy)):=fun st=>match st with
| (c,d,e)=>
 cond (decide (c<a))
  ((Ah9 0).bind fun o=>match o with
   | (f,g,h)=>
   (Af5 (Ae3 a l0 b e) FU (0,f,h,g)).bind fun o=>match o with
   | (i,j,k)=>
   (Ap8 i k j).bind fun o=>match o with
   | (l,m,n)=>
   (some ([(l,m,n)]:List Dy)).bind fun p=>
   (Dp2 d p).bind fun q=>
   (mkL ((false,[],0):Dy) a a).bind fun r=>
   (Af5 (Ae6 a l0 b e) FU (0,r)).bind fun s=>
   some (.inl ((i64.wrap (c+1)),q,s)))
  (some (.inr d))
def Ae2 (a:Int) (g:List Dy) (h:List Dy):(Int×List Dy)→Option ((Int×List Dy)⊕(List Dy)):=fun st=>match st with
| (b,c)=>
 (cond (decide (b≤a))
   ((some ((g.length:Nat):Int)).bind fun i=>
    some (decide (b<i)))
   (some false)).bind fun j=>
 cond j
  ((atI c a).bind fun d=>
   (atI h (i64.wrap (a-b))).bind fun e=>
   (atI g b).bind fun f=>
   (Aq6 e.1 e.2.1 e.2.2 f.1 f.2.1 f.2.2).bind fun o=>match o with
   | (k,l,m)=>
   (Ao8 d.1 d.2.1 d.2.2 k l m).bind fun o=>match o with
   | (n,p,q)=>
   (atI c a).bind fun s=>
   (some (c.set (a).toNat (n,p,q))).bind fun r=>
   some (.inl ((i64.wrap (b+1)),r)))
  (some (.inr c))
def Ad8 (c:Int) (d:List Dy) (e:List Dy):(Int×List Dy)→Option ((Int×List Dy)⊕(List Dy)):=fun st=>match st with
| (a,b)=>
 cond (decide (a<(i64.wrap (c+2))))
  ((Ah9 0).bind fun o=>match o with
   | (f,g,h)=>
   (atI b a).bind fun k=>
   (some (b.set (a).toNat (f,g,h))).bind fun i=>
   (Af5 (Ae2 a d e) FU (0,i)).bind fun j=>
   some (.inl ((i64.wrap (a+1)),j)))
  (some (.inr b))
def Ae0 (b:Int) (l0:List Dy):(Int×List Dy)→Option ((Int×List Dy)⊕(List Dy)):=fun st=>match st with
| (a,d)=>
 cond (decide (a<b))
  ((atI l0 (i64.wrap ((i64.wrap (a*b))+a))).bind fun c=>
   (Ah9 1).bind fun o=>match o with
   | (e,f,g)=>
   (Ap8 c.1 c.2.1 c.2.2).bind fun o=>match o with
   | (h,i,j)=>
   (some ([(e,f,g),(h,i,j)]:List Dy)).bind fun k=>
   (mkL ((false,[],0):Dy) a a).bind fun l=>
   (Af5 (Ae5 a l0 b) FU (0,l)).bind fun m=>
   (Af5 (Ad9 a l0 b) FU (0,k,m)).bind fun n=>
   (mkL ((false,[],0):Dy) (i64.wrap (a+2)) (i64.wrap (a+2))).bind fun p=>
   (Af5 (Ad8 a d n) FU (0,p)).bind fun q=>
   some (.inl ((i64.wrap (a+1)),q)))
  (some (.inr d))
def Ae8 (l0:List Dy) (a:Int):Option (List Dy):=
 (Ah9 1).bind fun o=>match o with
 | (b,c,d)=>
 (some ([(b,c,d)]:List Dy)).bind fun e=>
 (Af5 (Ae0 a l0) FU (0,e)).bind fun f=>
 some f
def As5 (e:Int) (l0:List Dy):(Int×Int×Int×Int)→Option ((Int×Int×Int×Int)⊕((Int×Int))):=fun st=>match st with
| (f,a,g,b)=>
 cond (decide (a≤(i64.wrap (e-1))))
  (((atI l0 a).bind fun c=>
    (Af7 c.1 c.2.1 c.2.2).bind fun d=>
    cond (d==0)
     (some (f,g,b))
     ((cond (d != f)
        (some (i64.wrap (b+1)))
        (some b)).bind fun h=>
      some (d,(i64.wrap ((i64.wrap (e-1))-a)),h))).bind fun o=>match o with
   | (i,j,k)=>some (.inl (i,(i64.wrap (a+1)),j,k)))
  (some (.inr (g,b)))
def Aq0 (l0:List Dy):Option (Int×Int×Int):=
 (some ((l0.length:Nat):Int)).bind fun a=>
 (Af5 (As5 a l0) FU (1,0,0,0)).bind fun o=>match o with
 | (b,c)=>some ((i64.wrap ((i64.wrap ((i64.wrap (a-1))-b))-c)),b,c)
def At0 (a:Int) (b:Int) (c:List Dy):Option (Int×Int×Int×Int):=
 (Ah6 a b c).bind fun e=>
 cond (!e)
  (some (0,0,0,4))
  ((Ah9 0).bind fun o=>match o with
   | (f,g,h)=>
   (Ak4 a b c f g h).bind fun d=>
   (Au9 d a).bind fun i=>
   cond i
    (some (0,0,0,3))
    ((Ae8 d a).bind fun j=>
     (Aq0 j).bind fun o=>match o with
     | (k,l,m)=>
     some (k,l,m,0)))
def Aq2 (a:Int) (b:Int) (c:List Dy) (d:Bool) (l1_1:List Int) (e:Int):Option (Int×Int):=
 (Ah6 a b c).bind fun g=>
 cond (!g)
  (some (0,4))
  ((Aq9 d l1_1 e).bind fun h=>
   cond (!h)
    (some (0,2))
    ((Ar8 d l1_1 e).bind fun o=>match o with
     | (i,j,k)=>
     (Ak4 a b c i j k).bind fun f=>
     (Au9 f a).bind fun l=>
     cond l
      (some (0,3))
      ((Ae8 f a).bind fun m=>
       (Aq0 m).bind fun o=>match o with
       | (n,p,q)=>
       some (n,0))))
def Ak3 (d:List Dy):(Int×List Dy)→Option ((Int×List Dy)⊕(List Dy⊕(List Dy×Int))):=fun st=>match st with
| (a,c)=>
 cond (decide (a≥0))
  ((atI d a).bind fun b=>
   (Au3 b.1 b.2.1 b.2.2).bind fun o=>match o with
   | (e,f,g,h)=>
   cond (h != 0)
    (some (.inr (.inr (([]:List Dy),3))))
    ((some ([(e,f,g)]:List Dy)).bind fun i=>
     (Dp2 c i).bind fun j=>
     some (.inl ((i64.wrap (a-1)),j))))
  (some (.inr (.inl c)))
def Ax8 (a:Int) (b:Int) (c:List Dy):Option (List Dy×Int):=
 (Ah6 a b c).bind fun f=>
 cond (!f)
  (some (([]:List Dy),4))
  ((Ah9 0).bind fun o=>match o with
   | (g,h,i)=>
   (Ak4 a b c g h i).bind fun d=>
   (Au9 d a).bind fun j=>
   cond j
    (some (([]:List Dy),3))
    ((Ae8 d a).bind fun e=>
     (some ((e.length:Nat):Int)).bind fun k=>
     ((Af5 (Ak3 e) FU ((i64.wrap (k-1)),([]:List Dy)):Option (List Dy⊕(List Dy×Int)))).bind fun o=>match o with
     | .inl l=>some (l,0)
     | .inr v=>some v))
def Ba6 (a:Int) (b:Int) (c:List Dy) (d:Int) (e:Int) (f:List Dy):Option Bool:=
 cond (a==d)
  (cond (b==e)
    ((Ak7 c f).bind fun g=>
     some g)
    (some false))
  (some false)
def Bb6 (l0:List Int) (a:List Int):Option Bool:=
 cond (decide (a.length≤4294967000)) (some true) none
def Au4 (a:Bool) (l0_1:List Int) (b:Int) (c:Bool) (l1_1:List Int) (d:Int):Option Bool:=
 (Am8 a l0_1 b c l1_1 d).bind fun e=>
 cond e
  ((Bb6 l0_1 l1_1).bind fun f=>
   some f)
  (some false)
end Go.Eng
