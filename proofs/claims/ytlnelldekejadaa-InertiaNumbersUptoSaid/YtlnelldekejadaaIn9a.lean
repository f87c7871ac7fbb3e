/-
  The law InertiaNumbers: what is closed. No condition.
-/
import Derived.Test.YtlnelldekejadaaIn8
import Derived.Test.YtlnelldekejadaaRow
set_option linter.all false
set_option maxRecDepth 100000
set_option maxHeartbeats 4000000
namespace Go.Eng
open Go Go.Ine
abbrev sgO (o:Int×Int×List Dy):Option (Int×Int×Int×Int):=T_inertia_Signs o.1 o.2.1 o.2.2
theorem nu1:(T_w16_of 2 [0,1,1,0]).bind sgO=some (1,0,1,0):=by decide +kernel
theorem nu2:(T_w16_of 2 [0,0,0,0]).bind sgO=some (0,2,0,0):=by decide +kernel
theorem nu3:(T_w16_of 2 [1,1,1,1]).bind sgO=some (0,1,1,0):=by decide +kernel
theorem nu4:T_inertia_Signs 0 0 []=some (0,0,0,0):=by decide +kernel
theorem nu5:(T_inertia_Poly 0 0 []).bind (fun o=>(T_w16_of 1 [1]).bind fun q=>(T_k_SameDyads o.1 q.2.2).bind fun b=>some (o.2,b))=some (0,true):=by decide +kernel
theorem nu6:(T_w16_of 2 [1,2,3,4]).bind sgO=some (0,0,0,4):=by decide +kernel
theorem nu7:(T_w16_of 1 [1,2]).bind (fun o=>T_inertia_Poly 1 2 o.2.2)=some ([],4):=by decide +kernel
theorem nu10:(T_w16_power 60000 0).bind sgO=some (0,0,1,0):=by decide +kernel
abbrev lowL:List Dy:=[(false,[1],(-60000)),(false,([]:List Int),0),(false,([]:List Int),0),(false,[1],(-60000))]
theorem nu11:T_inertia_Signs 2 2 lowL=some (0,0,2,0):=by decide +kernel
theorem nu12:T_inertia_Poly 2 2 lowL=some ([],3):=by decide +kernel
theorem nu14:(T_w16_of 1 [1]).bind (fun o=>T_inertia_Below o.1 o.2.1 o.2.2 false [2] 0)=some (0,2):=by decide +kernel
theorem nu16:(T_w16_of 1 [1]).bind (fun o=>T_inertia_Below o.1 o.2.1 o.2.2 false [1] 9000)=some (0,3):=by decide +kernel
theorem nu17:(T_w16_of 3 [1,0,1,0,1,0,2,0,1]).bind sgO=some (0,0,0,4):=by decide +kernel
theorem nuI:T_r02_Int 1=some (false,[1],0):=by decide +kernel
def chkA (k:Nat):Bool:=match T_r02_Add false [1] (k:Int) false [1] 0 with
  | some (s,l,e,c) => !s&&e==0&&c==0&&T_dyad_Right false l 0==some true&&lv l==2^k+1&&l.all (fun x=>decide (0≤x∧x<18446744073709551616))&&decide (l.length≤300)
  | none=>false
theorem chk5000:chkA 5000=true:=by decide +kernel
theorem chk8191:chkA 8191=true:=by decide +kernel
theorem chk8192:chkA 8192=true:=by decide +kernel
end Go.Eng
