/-
  Functions of plain Lean beside functions of the program, printed by a program of the session. No condition.
-/
import Derived.Test.YtlnelldekejadaaGreatTp
import Derived.Test.YtlnelldekejadaaGreatMx24
set_option linter.all false
set_option maxRecDepth 100000
namespace Go.Eng
open Go
def Ag1 (a:Int) (b:Int) (c:List Dy):Option (Int×Int×Int×Int):=
  Dj6 a b c
def Af8 (a:Int) (b:Int) (c:List Dy):Option (List Dy×Int):=
  Ep7 a b c
def Af0 (a:Int) (b:Int) (c:List Dy) (d:Bool) (l1_1:List Int) (e:Int):Option (Int×Int):=
  Cv6 a b c d l1_1 e
def Bv9  : Option Bool:=
  (some [1,2,2,1]).bind fun a=>
  (Br6 2 a).bind fun o=>match o with
  | (b,c,d)=>
  (Ag1 b c d).bind fun o=>match o with
  | (e,f,g,h)=>
  (some [1,2,2,1]).bind fun i=>
  (Br6 2 i).bind fun o=>match o with
  | (j,k,l)=>
  (Af8 j k l).bind fun o=>match o with
  | (m,n)=>
  (some [1,2,2,1]).bind fun p=>
  (Br6 2 p).bind fun o=>match o with
  | (q,r,s)=>
  (Bz9 4).bind fun o=>match o with
  | (t,u,v)=>
  (Af0 q r s t u v).bind fun o=>match o with
  | (x,y)=>
  cond (h==0)
    (cond (n==0)
        (cond (y==0)
            (cond (x==2)
                (cond (e==1&&(f==0&&g==1))
                    ((some [(-3),(-2),1]).bind fun z=>
                      (Br6 3 z).bind fun o=>match o with
                      | (ac,ad,aa)=>
                      (Ak7 m aa).bind fun ab=>
                      some ab)
                    (some false))
                (some false))
            (some false))
        (some false))
    (some false)
end Go.Eng
