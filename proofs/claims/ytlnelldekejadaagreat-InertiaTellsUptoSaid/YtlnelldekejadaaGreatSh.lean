/-
  All that is asked of the propositions of the functions. No condition.
-/
import Derived.Test.YtlnelldekejadaaGreatSh1
import Derived.Test.YtlnelldekejadaaGreatSh2
import Derived.Lib.BitFns
set_option linter.all false
set_option maxRecDepth 100000
namespace Go.Eng
open Go
open Go.IntKind (i64 u64 u32 u8)
def Be0 (N:Nums) (P:Program):Prop:=∀ qd qb qf qk qm qt qs qo qp qw w K,Be4 N P qd qb qf qk qm qt qs qo qp qw w K→Aa1 P N.Hg8 #[.agg #[.int .i64 qd,.int .i64 qb,.slice qf qk qm],.agg #[.bool qt,.slice qs qo qp,.int .i64 qw]] w K
def Ch2 (N:Nums) (P:Program):Prop:=∀ qd qb qf qk qm w K,Cv2 N P qd qb qf qk qm w K→Aa1 P N.Hm3 #[.agg #[.int .i64 qd,.int .i64 qb,.slice qf qk qm]] w K
def Cg8 (N:Nums) (P:Program):Prop:=∀ w K,Cw4 N P  w K→Aa1 P N.Hn5 #[] w K
def Bh3 (N:Nums) (P:Program):Prop:=∀ qd qb qf qk qm w K,Bm5 N P qd qb qf qk qm w K→Aa1 P N.Hh1 #[.agg #[.int .i64 qd,.int .i64 qb,.slice qf qk qm]] w K
def Bw9 (N:Nums) (P:Program):Prop:=∀ qd qb qe qg qf w K,Ck0 N P qd qb qe qg qf w K→Aa1 P N.Hk5 #[.agg #[.bool qd,.slice qb qe qg,.int .i64 qf]] w K
def Bl7 (N:Nums) (P:Program):Prop:=∀ qd qb qf qk qm w K,Bp5 N P qd qb qf qk qm w K→Aa1 P N.Hh5 #[.agg #[.int .i64 qd,.int .i64 qb,.slice qf qk qm]] w K
def Cj5 (N:Nums) (P:Program):Prop:=∀ qd qb qf qk qm w K,Cq1 N P qd qb qf qk qm w K→Aa1 P N.Hl6 #[.agg #[.int .i64 qd,.int .i64 qb,.slice qf qk qm]] w K
def Bm1 (N:Nums) (P:Program):Prop:=∀ qd qb qf qk qm qt qs qo qp qw w K,Bo2 N P qd qb qf qk qm qt qs qo qp qw w K→Aa1 P N.Hh7 #[.agg #[.int .i64 qd,.int .i64 qb,.slice qf qk qm],.agg #[.bool qt,.slice qs qo qp,.int .i64 qw]] w K
def Cl3 (N:Nums) (P:Program):Prop:=∀ qd qb qf qk qm qt qs qo qp qw w K,Cq8 N P qd qb qf qk qm qt qs qo qp qw w K→Aa1 P N.Hn7 #[.agg #[.int .i64 qd,.int .i64 qb,.slice qf qk qm],.agg #[.bool qt,.slice qs qo qp,.int .i64 qw]] w K
def Bq4 (N:Nums) (P:Program):Prop:=∀ qd qb qf qk qm w K,Bu1 N P qd qb qf qk qm w K→Aa1 P N.Hi2 #[.agg #[.int .i64 qd,.int .i64 qb,.slice qf qk qm]] w K
def Cv5 (N:Nums) (P:Program):Prop:=∀ qd qb qf qk qm w K,Di4 N P qd qb qf qk qm w K→Aa1 P N.Ho4 #[.agg #[.int .i64 qd,.int .i64 qb,.slice qf qk qm]] w K
def Bt1 (N:Nums) (P:Program):Prop:=∀ a qj qq b qu vf w K,Ca8 N P a qj qq b qu vf w K→Aa1 P N.Hi8 #[.slice a qj qq,.slice b qu vf] w K
def Bn3 (N:Nums) (P:Program):Prop:=∀ qd qb qf qk qm w K,Bp9 N P qd qb qf qk qm w K→Aa1 P N.Hh9 #[.agg #[.int .i64 qd,.int .i64 qb,.slice qf qk qm]] w K
def Cg2 (N:Nums) (P:Program):Prop:=∀ qd qb qf qk qm w K,Cz0 N P qd qb qf qk qm w K→Aa1 P N.Hn4 #[.agg #[.int .i64 qd,.int .i64 qb,.slice qf qk qm]] w K
def Bb2 (N:Nums) (P:Program):Prop:=∀ qd qb qf qk qm w K,Bc3 N P qd qb qf qk qm w K→Aa1 P N.Hg6 #[.agg #[.int .i64 qd,.int .i64 qb,.slice qf qk qm]] w K
def Bm0 (N:Nums) (P:Program):Prop:=∀ qd qb qf qk qm w K,Bo7 N P qd qb qf qk qm w K→Aa1 P N.Hh6 #[.agg #[.int .i64 qd,.int .i64 qb,.slice qf qk qm]] w K
def Bi3 (N:Nums) (P:Program):Prop:=∀ qd qb qf qk qm qt qs qw vm vn w K,Bn0 N P qd qb qf qk qm qt qs qw vm vn w K→Aa1 P N.Hh4 #[.agg #[.int .i64 qd,.int .i64 qb,.slice qf qk qm],.agg #[.int .i64 qt,.int .i64 qs,.slice qw vm vn]] w K
def Bx0 (N:Nums) (P:Program):Prop:=∀ qd qb qe qg qf qt qs qo qp qw w K,Cj8 N P qd qb qe qg qf qt qs qo qp qw w K→Aa1 P N.Hk1 #[.agg #[.bool qd,.slice qb qe qg,.int .i64 qf],.agg #[.bool qt,.slice qs qo qp,.int .i64 qw]] w K
def Dp3 (N:Nums) (P:Program):Prop:=∀ a b qu vf w K,Er3 N P a b qu vf w K→Aa1 P N.Hr9 #[.int .i64 a,.slice b qu vf] w K
def De3 (N:Nums) (P:Program):Prop:=∀ a w K,Dr2 N P a w K→Aa1 P N.Hp4 #[.int .i64 a] w K
def Bu5 (N:Nums) (P:Program):Prop:=∀ a qj qq w K,Bz6 N P a qj qq w K→Aa1 P N.Hj1 #[.slice a qj qq] w K
def Bs4 (N:Nums) (P:Program):Prop:=∀ a qj qq w K,Ca5 N P a qj qq w K→Aa1 P N.Hj3 #[.slice a qj qq] w K
def Bh4 (N:Nums) (P:Program):Prop:=∀ qd qb qf qk qm qt qs qo qp qw w K,Bl6 N P qd qb qf qk qm qt qs qo qp qw w K→Aa1 P N.Hh3 #[.agg #[.int .i64 qd,.int .i64 qb,.slice qf qk qm],.agg #[.bool qt,.slice qs qo qp,.int .i64 qw]] w K
def Aw3 (N:Nums) (P:Program):Prop:=∀ a w K,Aw9 N P a w K→Aa1 P N.Hg3 #[.pointer a] w K
def Bs5 (N:Nums) (P:Program):Prop:=∀ qd qb qf qk qm qt qs qo qp qw w K,By4 N P qd qb qf qk qm qt qs qo qp qw w K→Aa1 P N.Hj8 #[.agg #[.int .i64 qd,.int .i64 qb,.slice qf qk qm],.agg #[.bool qt,.slice qs qo qp,.int .i64 qw]] w K
def Ci2 (N:Nums) (P:Program):Prop:=∀ a w K,Cv9 N P a w K→Aa1 P N.Hl8 #[.int .i64 a] w K
def Cs3 (N:Nums) (P:Program):Prop:=∀ a qj qq b w K,Df7 N P a qj qq b w K→Aa1 P N.Hp0 #[.slice a qj qq,.int .i64 b] w K
def Ch1 (N:Nums) (P:Program):Prop:=∀ a qj qq w K,Cw0 N P a qj qq w K→Aa1 P N.Hm6 #[.slice a qj qq] w K
def Bd1 (N:Nums) (P:Program):Prop:=∀ a qj qq b w K,Bf6 N P a qj qq b w K→Aa1 P N.Hg7 #[.slice a qj qq,.int .i64 b] w K
def Cc0 (N:Nums) (P:Program):Prop:=∀ qd qb qe qg qf w K,Cj1 N P qd qb qe qg qf w K→Aa1 P N.Hk6 #[.agg #[.bool qd,.slice qb qe qg,.int .i64 qf]] w K
def Ci5 (N:Nums) (P:Program):Prop:=∀ qd qb qe qg qf w K,Cw2 N P qd qb qe qg qf w K→Aa1 P N.Hm8 #[.agg #[.bool qd,.slice qb qe qg,.int .i64 qf]] w K
def Cy8 (N:Nums) (P:Program):Prop:=∀ qd qb qe qg qf w K,Dh2 N P qd qb qe qg qf w K→Aa1 P N.Ho2 #[.agg #[.bool qd,.slice qb qe qg,.int .i64 qf]] w K
def Am9 (N:Nums) (P:Program):Prop:=∀ a w K,Ao1 N P a w K→Aa1 P N.Hg1 #[.pointer a] w K
def Bp4 (N:Nums) (P:Program):Prop:=∀ a b w K,Bu7 N P a b w K→Aa1 P N.Hi1 #[.pointer a,.int .i64 b] w K
def Ai0 (N:Nums) (P:Program):Prop:=∀ a qj qq w K,Ai6 N P a qj qq w K→Aa1 P N.Hf9 #[.slice a qj qq] w K
def Cx5 (N:Nums) (P:Program):Prop:=∀ qd qb qe qg qf w K,Dd9 N P qd qb qe qg qf w K→Aa1 P N.Ho1 #[.agg #[.bool qd,.slice qb qe qg,.int .i64 qf]] w K
def Bx3 (N:Nums) (P:Program):Prop:=∀ qd qb qe qg qf qt qs qo qp qw w K,Ci0 N P qd qb qe qg qf qt qs qo qp qw w K→Aa1 P N.Hk7 #[.agg #[.bool qd,.slice qb qe qg,.int .i64 qf],.agg #[.bool qt,.slice qs qo qp,.int .i64 qw]] w K
def Bp6 (N:Nums) (P:Program):Prop:=∀ a w K,Bs6 N P a w K→Aa1 P N.Hi6 #[.int .i64 a] w K
def Ag7 (N:Nums) (P:Program):Prop:=∀ a qj qq b w K,Ah1 N P a qj qq b w K→Aa1 P N.Hf7 #[.slice a qj qq,b] w K
def Be5 (N:Nums) (P:Program):Prop:=∀ qd qb qe qg qf w K,Bi0 N P qd qb qe qg qf w K→Aa1 P N.Hg9 #[.agg #[.bool qd,.slice qb qe qg,.int .i64 qf]] w K
def Cv1 (N:Nums) (P:Program):Prop:=∀ qd qb qe qg qf qt qs qo qp qw w K,Dh6 N P qd qb qe qg qf qt qs qo qp qw w K→Aa1 P N.Hn9 #[.agg #[.bool qd,.slice qb qe qg,.int .i64 qf],.agg #[.bool qt,.slice qs qo qp,.int .i64 qw]] w K
def Bt2 (N:Nums) (P:Program):Prop:=∀ qd qb qe qg qf qt qs qo qp qw w K,Cc2 N P qd qb qe qg qf qt qs qo qp qw w K→Aa1 P N.Hj7 #[.agg #[.bool qd,.slice qb qe qg,.int .i64 qf],.agg #[.bool qt,.slice qs qo qp,.int .i64 qw]] w K
def Bi7 (N:Nums) (P:Program):Prop:=∀ qd qb qf qk qm qt qs qw vm vn w K,Bl9 N P qd qb qf qk qm qt qs qw vm vn w K→Aa1 P N.Hh2 #[.agg #[.int .i64 qd,.int .i64 qb,.slice qf qk qm],.agg #[.int .i64 qt,.int .i64 qs,.slice qw vm vn]] w K
def Bu2 (N:Nums) (P:Program):Prop:=∀ a qj qq b qu vf w K,Bx2 N P a qj qq b qu vf w K→Aa1 P N.Hj5 #[.slice a qj qq,.slice b qu vf] w K
def Bt5 (N:Nums) (P:Program):Prop:=∀ a qj qq b qu vf w K,Ca6 N P a qj qq b qu vf w K→Aa1 P N.Hj9 #[.slice a qj qq,.slice b qu vf] w K
def Bx5 (N:Nums) (P:Program):Prop:=∀ a b w K,Cj7 N P a b w K→Aa1 P N.Hk3 #[.int .i64 a,.int .i64 b] w K
def Dx1 (N:Nums) (P:Program):Prop:=∀ a b w K,Em3 N P a b w K→Aa1 P N.Hs1 #[.int .i64 a,.int .i64 b] w K
def Aj0 (N:Nums) (P:Program):Prop:=∀ a qj qq w K,Aj3 N P a qj qq w K→Aa1 P N.Hg0 #[.slice a qj qq] w K
def Bm2 (N:Nums) (P:Program):Prop:=∀ qd qb qe qg qf a w K,Bo5 N P qd qb qe qg qf a w K→Aa1 P N.Hh8 #[.agg #[.bool qd,.slice qb qe qg,.int .i64 qf],.int .i64 a] w K
def Dp5 (N:Nums) (P:Program):Prop:=∀ a b c w K,Ep3 N P a b c w K→Aa1 P N.Hq6 #[.pointer a,.pointer b,.pointer c] w K
def Dg3 (N:Nums) (P:Program):Prop:=∀ a w K,Dx9 N P a w K→Aa1 P N.Hp5 #[.pointer a] w K
def Ax4 (N:Nums) (P:Program):Prop:=∀ a w K,Az5 N P a w K→Aa1 P N.Hg4 #[.pointer a] w K
def Cl2 (N:Nums) (P:Program):Prop:=∀ a w K,Cr1 N P a w K→Aa1 P N.Hm4 #[.pointer a] w K
def Eb7 (N:Nums) (P:Program):Prop:=∀ a b c w K,Dk0 N P a b c w K→Aa1 P N.Hr1 #[.pointer a,.pointer b,.int .u64 c] w K
def Ck2 (N:Nums) (P:Program):Prop:=∀ a w K,Cv7 N P a w K→Aa1 P N.Hm0 #[.int .i64 a] w K
def Av5 (N:Nums) (P:Program):Prop:=∀ a b w K,Ax0 N P a b w K→Aa1 P N.Hg2 #[.pointer a,.int .i64 b] w K
def Dq6 (N:Nums) (P:Program):Prop:=∀ a b c w K,Ek2 N P a b c w K→Aa1 P N.Hq7 #[.pointer a,.pointer b,.pointer c] w K
def Ea1 (N:Nums) (P:Program):Prop:=∀ a b c w K,El5 N P a b c w K→Aa1 P N.Hs0 #[.pointer a,.pointer b,.pointer c] w K
def Cw7 (N:Nums) (P:Program):Prop:=∀ qd qb qe qg qf qt qs qo qp qw w K,Cd7 N P qd qb qe qg qf qt qs qo qp qw w K→Aa1 P N.Ho5 #[.agg #[.bool qd,.slice qb qe qg,.int .i64 qf],.agg #[.bool qt,.slice qs qo qp,.int .i64 qw]] w K
def Ck5 (N:Nums) (P:Program):Prop:=∀ qd qb qe qg qf w K,Ct5 N P qd qb qe qg qf w K→Aa1 P N.Hn6 #[.agg #[.bool qd,.slice qb qe qg,.int .i64 qf]] w K
def Ci3 (N:Nums) (P:Program):Prop:=∀ a w K,Cy0 N P a w K→Aa1 P N.Hm5 #[.int .u64 a] w K
def Bp0 (N:Nums) (P:Program):Prop:=∀ qd qb qe qg qf w K,Bt6 N P qd qb qe qg qf w K→Aa1 P N.Hi0 #[.agg #[.bool qd,.slice qb qe qg,.int .i64 qf]] w K
def Cl1 (N:Nums) (P:Program):Prop:=∀ a qj qq w K,Cy5 N P a qj qq w K→Aa1 P N.Hm2 #[.slice a qj qq] w K
def Bu0 (N:Nums) (P:Program):Prop:=∀ a qj qq w K,Cc5 N P a qj qq w K→Aa1 P N.Hj6 #[.slice a qj qq] w K
def Bq1 (N:Nums) (P:Program):Prop:=∀ qd qb qe qg qf w K,Bu6 N P qd qb qe qg qf w K→Aa1 P N.Hi3 #[.agg #[.bool qd,.slice qb qe qg,.int .i64 qf]] w K
def Ch4 (N:Nums) (P:Program):Prop:=∀ qd qb qe qg qf qt qs qo qp qw w K,Ct7 N P qd qb qe qg qf qt qs qo qp qw w K→Aa1 P N.Hl7 #[.agg #[.bool qd,.slice qb qe qg,.int .i64 qf],.agg #[.bool qt,.slice qs qo qp,.int .i64 qw]] w K
def Bt9 (N:Nums) (P:Program):Prop:=∀ a qj qq w K,Bx4 N P a qj qq w K→Aa1 P N.Hj4 #[.slice a qj qq] w K
def Dx4 (N:Nums) (P:Program):Prop:=∀ a b c w K,Ek7 N P a b c w K→Aa1 P N.Hq0 #[.pointer a,.pointer b,.pointer c] w K
def Ds4 (N:Nums) (P:Program):Prop:=∀ a b w K,En5 N P a b w K→Aa1 P N.Hq8 #[.pointer a,.pointer b] w K
def Dz2 (N:Nums) (P:Program):Prop:=∀ a b w K,El8 N P a b w K→Aa1 P N.Hq3 #[.pointer a,.pointer b] w K
def Ch6 (N:Nums) (P:Program):Prop:=∀ a w K,Cq0 N P a w K→Aa1 P N.Hn1 #[.pointer a] w K
def Ck1 (N:Nums) (P:Program):Prop:=∀ qd qb qe qg qf w K,Cq4 N P qd qb qe qg qf w K→Aa1 P N.Hn2 #[.agg #[.bool qd,.slice qb qe qg,.int .i64 qf]] w K
def Cy7 (N:Nums) (P:Program):Prop:=∀ qd qb qe qg qf w K,Dh7 N P qd qb qe qg qf w K→Aa1 P N.Ho8 #[.agg #[.bool qd,.slice qb qe qg,.int .i64 qf]] w K
def Bu4 (N:Nums) (P:Program):Prop:=∀ a qj qq b qu vf w K,Cb4 N P a qj qq b qu vf w K→Aa1 P N.Hj2 #[.slice a qj qq,.slice b qu vf] w K
def Ah5 (N:Nums) (P:Program):Prop:=∀ a qj qq b w K,Ah7 N P a qj qq b w K→Aa1 P N.Hf8 #[.slice a qj qq,b] w K
def Ck7 (N:Nums) (P:Program):Prop:=∀ qd qb qe qg qf w K,Cy9 N P qd qb qe qg qf w K→Aa1 P N.Hl5 #[.agg #[.bool qd,.slice qb qe qg,.int .i64 qf]] w K
def Cy6 (N:Nums) (P:Program):Prop:=∀ qd qb qe qg qf w K,Dg1 N P qd qb qe qg qf w K→Aa1 P N.Ho9 #[.agg #[.bool qd,.slice qb qe qg,.int .i64 qf]] w K
def Ca9 (N:Nums) (P:Program):Prop:=∀ qd qb qe qg qf w K,Ch0 N P qd qb qe qg qf w K→Aa1 P N.Hk2 #[.agg #[.bool qd,.slice qb qe qg,.int .i64 qf]] w K
def Dv3 (N:Nums) (P:Program):Prop:=∀ a b c w K,Ek6 N P a b c w K→Aa1 P N.Hq5 #[.pointer a,.pointer b,.int .u64 c] w K
def Dy0 (N:Nums) (P:Program):Prop:=∀ a b w K,En7 N P a b w K→Aa1 P N.Hr4 #[.pointer a,.pointer b] w K
def Bs8 (N:Nums) (P:Program):Prop:=∀ qd qb qe qg qf w K,By5 N P qd qb qe qg qf w K→Aa1 P N.Hk0 #[.agg #[.bool qd,.slice qb qe qg,.int .i64 qf]] w K
def Eo8 (N:Nums) (P:Program):Prop:=∀ a b c w K,Fg6 N P a b c w K→Aa1 P N.Hs6 #[.pointer a,.pointer b,.pointer c] w K
def Bo0 (N:Nums) (P:Program):Prop:=∀ a b w K,Bs9 N P a b w K→Aa1 P N.Hi5 #[.pointer a,.int .u64 b] w K
def Dh1 (N:Nums) (P:Program):Prop:=∀ a b c vo jn w K,Eb6 N P a b c vo jn w K→Aa1 P N.Hp8 #[.pointer a,.bool b,.slice c vo jn] w K
def Dz9 (N:Nums) (P:Program):Prop:=∀ a b qu vf c d vu yc w K,Ek0 N P a b qu vf c d vu yc w K→Aa1 P N.Hr5 #[.bool a,.slice b qu vf,.bool c,.slice d vu yc] w K
def Dt4 (N:Nums) (P:Program):Prop:=∀ a qj qq b w K,Er0 N P a qj qq b w K→Aa1 P N.Hr7 #[.slice a qj qq,.int .i64 b] w K
def Cg3 (N:Nums) (P:Program):Prop:=∀ a qj qq w K,Co4 N P a qj qq w K→Aa1 P N.Hl9 #[.slice a qj qq] w K
def Dz7 (N:Nums) (P:Program):Prop:=∀ a qj qq b qu vf w K,En9 N P a qj qq b qu vf w K→Aa1 P N.Hq1 #[.slice a qj qq,.slice b qu vf] w K
def Cs1 (N:Nums) (P:Program):Prop:=∀ a qj qq b w K,Dd6 N P a qj qq b w K→Aa1 P N.Ho3 #[.slice a qj qq,.int .u64 b] w K
def Dq7 (N:Nums) (P:Program):Prop:=∀ a qj qq b qu vf w K,Eq5 N P a qj qq b qu vf w K→Aa1 P N.Hq4 #[.slice a qj qq,.slice b qu vf] w K
def Bt3 (N:Nums) (P:Program):Prop:=∀ a b w K,Cb6 N P a b w K→Aa1 P N.Hi7 #[.pointer a,.int .i64 b] w K
def Ax3 (N:Nums) (P:Program):Prop:=∀ a b w K,Az4 N P a b w K→Aa1 P N.Hg5 #[.pointer a,.int .i64 b] w K
def Ds8 (N:Nums) (P:Program):Prop:=∀ a qj qq b qu vf w K,Ep4 N P a qj qq b qu vf w K→Aa1 P N.Hq2 #[.slice a qj qq,.slice b qu vf] w K
def Cl0 (N:Nums) (P:Program):Prop:=∀ a b c d w K,Cq3 N P a b c d w K→Aa1 P N.Hl4 #[.pointer a,.pointer b,.pointer c,.pointer d] w K
def Ch3 (N:Nums) (P:Program):Prop:=∀ a qj qq b w K,Cu0 N P a qj qq b w K→Aa1 P N.Hn0 #[.slice a qj qq,.int .i64 b] w K
def Bx9 (N:Nums) (P:Program):Prop:=∀ a qj qq b qu vf w K,Ci4 N P a qj qq b qu vf w K→Aa1 P N.Hk8 #[.slice a qj qq,.slice b qu vf] w K
def Bz5 (N:Nums) (P:Program):Prop:=∀ a qj qq b qu vf w K,Cg5 N P a qj qq b qu vf w K→Aa1 P N.Hl2 #[.slice a qj qq,.slice b qu vf] w K
def Bx8 (N:Nums) (P:Program):Prop:=∀ a qj qq b qu vf w K,Ch5 N P a qj qq b qu vf w K→Aa1 P N.Hk4 #[.slice a qj qq,.slice b qu vf] w K
def Ca4 (N:Nums) (P:Program):Prop:=∀ a qj qq b qu vf w K,Cj4 N P a qj qq b qu vf w K→Aa1 P N.Hl1 #[.slice a qj qq,.slice b qu vf] w K
def Dh4 (N:Nums) (P:Program):Prop:=∀ a qj qq w K,Dr9 N P a qj qq w K→Aa1 P N.Hp1 #[.slice a qj qq] w K
def Ci9 (N:Nums) (P:Program):Prop:=∀ a b w K,Cq5 N P a b w K→Aa1 P N.Hm1 #[.pointer a,.int .i64 b] w K
def Bt4 (N:Nums) (P:Program):Prop:=∀ a qj qq b w K,Bz0 N P a qj qq b w K→Aa1 P N.Hi9 #[.slice a qj qq,.int .i64 b] w K
def Dg4 (N:Nums) (P:Program):Prop:=∀ a qj qq b w K,Dq5 N P a qj qq b w K→Aa1 P N.Hp7 #[.slice a qj qq,.int .u64 b] w K
def Dp7 (N:Nums) (P:Program):Prop:=∀ a qj qq b qu vf w K,Eo7 N P a qj qq b qu vf w K→Aa1 P N.Hr8 #[.slice a qj qq,.slice b qu vf] w K
def Dy4 (N:Nums) (P:Program):Prop:=∀ a b w K,Eq8 N P a b w K→Aa1 P N.Hr3 #[.pointer a,.int .i64 b] w K
def Eq0 (N:Nums) (P:Program):Prop:=∀ a b qu vf w K,Fl7 N P a b qu vf w K→Aa1 P N.Hs5 #[.pointer a,.slice b qu vf] w K
def Cr9 (N:Nums) (P:Program):Prop:=∀ a w K,Dg8 N P a w K→Aa1 P N.Ho6 #[.int .u64 a] w K
def Dh5 (N:Nums) (P:Program):Prop:=∀ a qj qq w K,Dr7 N P a qj qq w K→Aa1 P N.Hp6 #[.slice a qj qq] w K
def Dv8 (N:Nums) (P:Program):Prop:=∀ a qj qq b qu vf w K,Eo0 N P a qj qq b qu vf w K→Aa1 P N.Hp9 #[.slice a qj qq,.slice b qu vf] w K
def Cb9 (N:Nums) (P:Program):Prop:=∀ a qj qq w K,Ck8 N P a qj qq w K→Aa1 P N.Hk9 #[.slice a qj qq] w K
def Cg0 (N:Nums) (P:Program):Prop:=∀ a qj qq w K,Cp5 N P a qj qq w K→Aa1 P N.Hm9 #[.slice a qj qq] w K
def Ck3 (N:Nums) (P:Program):Prop:=∀ a qj qq b w K,Cs6 N P a qj qq b w K→Aa1 P N.Hn3 #[.slice a qj qq,.int .i64 b] w K
def Bt8 (N:Nums) (P:Program):Prop:=∀ a qj qq b qu vf w K,Cb1 N P a qj qq b qu vf w K→Aa1 P N.Hj0 #[.slice a qj qq,.slice b qu vf] w K
def Ca3 (N:Nums) (P:Program):Prop:=∀ a w K,Ci7 N P a w K→Aa1 P N.Hl0 #[.pointer a] w K
def Cg1 (N:Nums) (P:Program):Prop:=∀ a qj qq b w K,Cr4 N P a qj qq b w K→Aa1 P N.Hm7 #[.slice a qj qq,.int .u64 b] w K
def Cu4 (N:Nums) (P:Program):Prop:=∀ a qj qq w K,De6 N P a qj qq w K→Aa1 P N.Hn8 #[.slice a qj qq] w K
def Cx7 (N:Nums) (P:Program):Prop:=∀ a qj qq b w K,Di2 N P a qj qq b w K→Aa1 P N.Ho0 #[.slice a qj qq,.int .u32 b] w K
def Df8 (N:Nums) (P:Program):Prop:=∀ a qj qq w K,Dt1 N P a qj qq w K→Aa1 P N.Hp3 #[.slice a qj qq] w K
def Dr8 (N:Nums) (P:Program):Prop:=∀ a b c w K,Ej9 N P a b c w K→Aa1 P N.Hr6 #[.pointer a,.pointer b,.pointer c] w K
def Be8 (N:Nums) (P:Program):Prop:=∀ (x:Int) (_:0≤x) (_:x≤18446744073709551615) (w:World) (K:KV),K (.int .i64 (Lib.bitLen x.toNat)) w→Aa1 P N.Hh0 #[.int .u64 x] w K
structure AllOk (N:Nums) (P:Program):Prop where
 w16_InertiaTells:Be0 N P
 w16_great:Ch2 N P
 w16_awake:Cg8 N P
 k_LentDyadGrid:Bh3 N P
 k_LentDyad:Bw9 N P
 inertia_Signs:Bl7 N P
 r16_Signs:Cj5 N P
 inertia_Below:Bm1 N P
 r16_Below:Cl3 N P
 inertia_Poly:Bq4 N P
 r16_Poly:Cv5 N P
 k_SameDyads:Bt1 N P
 inertia_Right:Bn3 N P
 r16_Right:Cg2 N P
 inertia_Symmetric:Bb2 N P
 r16_Symmetric:Bm0 N P
 k_KeptDyadGrid:Bi3 N P
 k_KeptDyad:Bx0 N P
 w16_of:Dp3 N P
 r02_Int:De3 N P
 k_LentDyads:Bu5 N P
 k_LentLimbs:Bs4 N P
 inertia_scaled:Bh4 N P
 p_inertia_rows_signs:Aw3 N P
 r16_Numbers:Bs5 N P
 r02_Whole:Ci2 N P
 r16_Wide:Cs3 N P
 r16_signs:Ch1 N P
 r16_Coefficients:Bd1 N P
 dyad_Right:Cc0 N P
 r02_Right:Ci5 N P
 r02_Dyad:Cy8 N P
 p_inertia_rows_coefficients:Am9 N P
 inertia_told:Bp4 N P
 slices_Reverse___api_Dyad_api_Dyad:Ai0 N P
 r02_Told:Cx5 N P
 k_SameDyad:Bx3 N P
 inertia_fits:Bp6 N P
 slices_ContainsFunc___api_Dyad_api_Dyad:Ag7 N P
 inertia_Right_1:Be5 N P
 dyad_Cmp:Cv1 N P
 r02_Compare:Bt2 N P
 k_SameDyadGrid:Bi7 N P
 k_KeptDyads:Bu2 N P
 k_KeptLimbs:Bt5 N P
 k_markDyad:Bx5 N P
 k_mark:Dx1 N P
 slices_Clone___api_Dyad_api_Dyad:Aj0 N P
 inertia_whole:Bm2 N P
 bI_Sub:Dp5 N P
 bI_Sign:Dg3 N P
 bI_TrailingZeroBits:Ax4 N P
 bI_BitLen:Cl2 N P
 bI_Rsh:Eb7 N P
 bn_NewInt:Ck2 N P
 p_inertia_rows_pivot:Av5 N P
 bI_Mul:Dq6 N P
 bI_Quo:Ea1 N P
 r02_Plus:Cw7 N P
 r02_Minus:Ck5 N P
 r02_NatOf:Ci3 N P
 r02_Num_Zero:Bp0 N P
 r16_zeros:Cl1 N P
 r02_NatBits:Bu0 N P
 r02_Num_Sign:Bq1 N P
 r02_Times:Ch4 N P
 r02_NatTrim:Bt9 N P
 bI_Add:Dx4 N P
 bI_Neg:Ds4 N P
 bI_Abs:Dz2 N P
 bI_Uint64:Ch6 N P
 dyad_Norm:Ck1 N P
 r02_Norm:Cy7 N P
 k_SameLimbs:Bu4 N P
 slices_IndexFunc___api_Dyad_api_Dyad:Ah5 N P
 dyad_Sign:Ck7 N P
 dyad_top:Cy6 N P
 dyad_whole:Ca9 N P
 bI_Lsh:Dv3 N P
 bI_Cmp:Dy0 N P
 r02_Num_top:Bs8 N P
 bI_Or:Eo8 N P
 bI_SetUint64:Bo0 N P
 bI_give:Dh1 N P
 bn_sum:Dz9 N P
 bn_bit:Dt4 N P
 bn_length:Cg3 N P
 bn_add:Dz7 N P
 bn_right:Cs1 N P
 bn_sub:Dq7 N P
 bI_SetInt64:Bt3 N P
 p_inertia_rows_find:Ax3 N P
 bn_mul:Ds8 N P
 bI_QuoRem:Cl0 N P
 r02_NatUp:Ch3 N P
 r02_NatAdd:Bx9 N P
 r02_NatCmp:Bz5 N P
 r02_NatSub:Bx8 N P
 r02_NatMul:Ca4 N P
 bn_twin:Dh4 N P
 dyad_made:Ci9 N P
 r02_NatDown:Bt4 N P
 bn_left:Dg4 N P
 bn_cmp:Dp7 N P
 bI_low:Dy4 N P
 bI_of:Eq0 N P
 bn_words:Cr9 N P
 bn_trim:Dh5 N P
 bn_div:Dv8 N P
 r02_halves:Cb9 N P
 r02_limbs:Cg0 N P
 r02_digit:Ck3 N P
 r02_product:Bt8 N P
 dyad_limbs:Ca3 N P
 r02_short:Cg1 N P
 bn_plain:Cu4 N P
 bn_small:Cx7 N P
 r02_low:Df8 N P
 bI_And:Dr8 N P
 math_bits_Len64:Be8 N P
end Go.Eng
