/-
  All that is asked of the propositions of the functions. No condition.
-/
import Derived.Test.YtgbilchfljlbeaaGreatDoorSh1
import Derived.Test.YtgbilchfljlbeaaGreatDoorSh2
import Derived.Lib.BitFns
set_option linter.all false
set_option maxRecDepth 100000
namespace Go.Eng
open Go
open Go.IntKind (i64 u64 u32 u8)
def Bi7 (N:Nums) (P:Program):Prop:=∀ qb qc qd qa qf yl ym vo vz yn vp ya yo yb yc yp vq yd q1 w K,Bm7 N P qb qc qd qa qf yl ym vo vz yn vp ya yo yb yc yp vq yd q1 w K→Aa1 P N.Hv0 #[.agg #[.int .i64 qb,.int .i64 qc,.slice qd qa qf,.int .i64 yl,.slice ym vo vz,.slice yn vp ya,.slice yo yb yc,.slice yp vq yd],.int .i64 q1] w K
def Cu0 (N:Nums) (P:Program):Prop:=∀ w K,Cz4 N P  w K→Aa1 P N.Ie4 #[] w K
def Cp4 (N:Nums) (P:Program):Prop:=∀ qb qc qd qa qf w K,Db6 N P qb qc qd qa qf w K→Aa1 P N.Id6 #[.agg #[.int .i64 qb,.int .i64 qc,.slice qd qa qf]] w K
def Bt5 (N:Nums) (P:Program):Prop:=∀ qb qc qd qa qf w K,By4 N P qb qc qd qa qf w K→Aa1 P N.Hw1 #[.agg #[.int .i64 qb,.int .i64 qc,.slice qd qa qf]] w K
def Bz2 (N:Nums) (P:Program):Prop:=∀ q0 qj qm w K,Ce9 N P q0 qj qm w K→Aa1 P N.Hy1 #[.slice q0 qj qm] w K
def Bz3 (N:Nums) (P:Program):Prop:=∀ qb qc qd qa qf q1 qo qu q2 qy vf w K,Ci3 N P qb qc qd qa qf q1 qo qu q2 qy vf w K→Aa1 P N.Hz3 #[.agg #[.int .i64 qb,.int .i64 qc,.slice qd qa qf],.slice q1 qo qu,.slice q2 qy vf] w K
def Dd6 (N:Nums) (P:Program):Prop:=∀ qb qc qd qa qf q1 qo qu q2 qy vf w K,Du6 N P qb qc qd qa qf q1 qo qu q2 qy vf w K→Aa1 P N.Ig1 #[.agg #[.int .i64 qb,.int .i64 qc,.slice qd qa qf],.slice q1 qo qu,.slice q2 qy vf] w K
def Cc0 (N:Nums) (P:Program):Prop:=∀ q0 qj qm q1 qo qu w K,Ci4 N P q0 qj qm q1 qo qu w K→Aa1 P N.Hy7 #[.slice q0 qj qm,.slice q1 qo qu] w K
def Bv0 (N:Nums) (P:Program):Prop:=∀ qb qc qd qa qf ql qk qq qs qt w K,Cc4 N P qb qc qd qa qf ql qk qq qs qt w K→Aa1 P N.Hv8 #[.agg #[.int .i64 qb,.int .i64 qc,.slice qd qa qf],.agg #[.int .i64 ql,.int .i64 qk,.slice qq qs qt]] w K
def Ca0 (N:Nums) (P:Program):Prop:=∀ q0 qj qm q1 qo qu w K,Ch5 N P q0 qj qm q1 qo qu w K→Aa1 P N.Hy2 #[.slice q0 qj qm,.slice q1 qo qu] w K
def Br2 (N:Nums) (P:Program):Prop:=∀ qb qc qe qg qd qa qf w K,Ca5 N P qb qc qe qg qd qa qf w K→Aa1 P N.Hv7 #[.agg #[.int .i64 qb,.slice qc qe qg,.slice qd qa qf]] w K
def Cc7 (N:Nums) (P:Program):Prop:=∀ qb qc qd qa qf ql qk qh qi qq qs qt q2 qy vf q3 vm ye w K,Ce1 N P qb qc qd qa qf ql qk qh qi qq qs qt q2 qy vf q3 vm ye w K→Aa1 P N.Hy0 #[.agg #[.int .i64 qb,.int .i64 qc,.slice qd qa qf],.agg #[.int .i64 ql,.slice qk qh qi,.slice qq qs qt],.slice q2 qy vf,.slice q3 vm ye] w K
def Cz8 (N:Nums) (P:Program):Prop:=∀ qb qc qd qa qf ql qk qh qi qq qs qt q2 qy vf q3 vm ye w K,Dx3 N P qb qc qd qa qf ql qk qh qi qq qs qt q2 qy vf q3 vm ye w K→Aa1 P N.Ig6 #[.agg #[.int .i64 qb,.int .i64 qc,.slice qd qa qf],.agg #[.int .i64 ql,.slice qk qh qi,.slice qq qs qt],.slice q2 qy vf,.slice q3 vm ye] w K
def Bv1 (N:Nums) (P:Program):Prop:=∀ qb qc qe qg qd qa qf ql qk qh qi qq qs qt w K,Bz8 N P qb qc qe qg qd qa qf ql qk qh qi qq qs qt w K→Aa1 P N.Hw9 #[.agg #[.int .i64 qb,.slice qc qe qg,.slice qd qa qf],.agg #[.int .i64 ql,.slice qk qh qi,.slice qq qs qt]] w K
def Bt9 (N:Nums) (P:Program):Prop:=∀ qb qc qd qa qf ql qk qh qi qq qs qt q2 qy vf q3 w K,By7 N P qb qc qd qa qf ql qk qh qi qq qs qt q2 qy vf q3 w K→Aa1 P N.Hw0 #[.agg #[.int .i64 qb,.int .i64 qc,.slice qd qa qf],.agg #[.int .i64 ql,.slice qk qh qi,.slice qq qs qt],.slice q2 qy vf,.int .i64 q3] w K
def Cs4 (N:Nums) (P:Program):Prop:=∀ qb qc qd qa qf ql qk qh qi qq qs qt q2 qy vf q3 w K,Db4 N P qb qc qd qa qf ql qk qh qi qq qs qt q2 qy vf q3 w K→Aa1 P N.Ie3 #[.agg #[.int .i64 qb,.int .i64 qc,.slice qd qa qf],.agg #[.int .i64 ql,.slice qk qh qi,.slice qq qs qt],.slice q2 qy vf,.int .i64 q3] w K
def By5 (N:Nums) (P:Program):Prop:=∀ qb qc qe qg qd qa qf q1 qo qu w K,Ck4 N P qb qc qe qg qd qa qf q1 qo qu w K→Aa1 P N.Hx0 #[.agg #[.int .i64 qb,.slice qc qe qg,.slice qd qa qf],.slice q1 qo qu] w K
def Cb9 (N:Nums) (P:Program):Prop:=∀ q0 qj qm q1 qo qu w K,Ce4 N P q0 qj qm q1 qo qu w K→Aa1 P N.Hx5 #[.slice q0 qj qm,.slice q1 qo qu] w K
def Du8 (N:Nums) (P:Program):Prop:=∀ w K,Er6 N P  w K→Aa1 P N.Ij0 #[] w K
def En5 (N:Nums) (P:Program):Prop:=∀ q0 q1 w K,Fk9 N P q0 q1 w K→Aa1 P N.Il3 #[.int .i64 q0,.int .i64 q1] w K
def Cf0 (N:Nums) (P:Program):Prop:=∀ qb qc qd qa qf q1 qo qu q2 qy vf w K,Cq4 N P qb qc qd qa qf q1 qo qu q2 qy vf w K→Aa1 P N.Ic2 #[.agg #[.int .i64 qb,.int .i64 qc,.slice qd qa qf],.slice q1 qo qu,.slice q2 qy vf] w K
def Bp8 (N:Nums) (P:Program):Prop:=∀ q0 qj qm w K,Bt6 N P q0 qj qm w K→Aa1 P N.Hv3 #[.slice q0 qj qm] w K
def Bq2 (N:Nums) (P:Program):Prop:=∀ q0 qj qm q1 qo qu q2 w K,Bt3 N P q0 qj qm q1 qo qu q2 w K→Aa1 P N.Hv5 #[.slice q0 qj qm,.slice q1 qo qu,.int .i8 q2] w K
def Dv9 (N:Nums) (P:Program):Prop:=∀ qb qc qd qa qf q1 qo qu q2 qy vf w K,En6 N P qb qc qd qa qf q1 qo qu q2 qy vf w K→Aa1 P N.Ii7 #[.agg #[.int .i64 qb,.int .i64 qc,.slice qd qa qf],.slice q1 qo qu,.slice q2 qy vf] w K
def Ch6 (N:Nums) (P:Program):Prop:=∀ q0 qj qm w K,Ct8 N P q0 qj qm w K→Aa1 P N.Ib9 #[.slice q0 qj qm] w K
def Cu7 (N:Nums) (P:Program):Prop:=∀ q0 w K,Dj1 N P q0 w K→Aa1 P N.Ic7 #[.float .f64 q0] w K
def Cs1 (N:Nums) (P:Program):Prop:=∀ qb qc qe qg qd ql qk qh qi qq w K,Dh5 N P qb qc qe qg qd ql qk qh qi qq w K→Aa1 P N.Id4 #[.agg #[.bool qb,.slice qc qe qg,.int .i64 qd],.agg #[.bool ql,.slice qk qh qi,.int .i64 qq]] w K
def Cz2 (N:Nums) (P:Program):Prop:=∀ qb qc qe qg qd ql qk qh qi qq w K,Co0 N P qb qc qe qg qd ql qk qh qi qq w K→Aa1 P N.Ih9 #[.agg #[.bool qb,.slice qc qe qg,.int .i64 qd],.agg #[.bool ql,.slice qk qh qi,.int .i64 qq]] w K
def Cr7 (N:Nums) (P:Program):Prop:=∀ qb qc qe qg qd w K,Dh8 N P qb qc qe qg qd w K→Aa1 P N.Ie9 #[.agg #[.bool qb,.slice qc qe qg,.int .i64 qd]] w K
def By0 (N:Nums) (P:Program):Prop:=∀ qb qc qe qg qd q1 w K,Cf7 N P qb qc qe qg qd q1 w K→Aa1 P N.Hx9 #[.agg #[.bool qb,.slice qc qe qg,.int .i64 qd],.int .i8 q1] w K
def Cc2 (N:Nums) (P:Program):Prop:=∀ q0 q1 w K,Ch2 N P q0 q1 w K→Aa1 P N.Hx1 #[.float .f64 q0,.float .f64 q1] w K
def Bu6 (N:Nums) (P:Program):Prop:=∀ qb qc qd qa qf ql qk qq qs qt w K,Cb2 N P qb qc qd qa qf ql qk qq qs qt w K→Aa1 P N.Hw8 #[.agg #[.int .i64 qb,.int .i64 qc,.slice qd qa qf],.agg #[.int .i64 ql,.int .i64 qk,.slice qq qs qt]] w K
def Bz0 (N:Nums) (P:Program):Prop:=∀ qb qc qd qa qf ql qk qh qi qq qs qt w K,Cl5 N P qb qc qd qa qf ql qk qh qi qq qs qt w K→Aa1 P N.Hz1 #[.agg #[.int .i64 qb,.int .i64 qc,.slice qd qa qf],.agg #[.int .i64 ql,.slice qk qh qi,.slice qq qs qt]] w K
def Cf5 (N:Nums) (P:Program):Prop:=∀ q0 qj qm q1 qo qu w K,Cs5 N P q0 qj qm q1 qo qu w K→Aa1 P N.Hz5 #[.slice q0 qj qm,.slice q1 qo qu] w K
def Cz7 (N:Nums) (P:Program):Prop:=∀ qb qc qd qa qf ql qk qh qi qq qs qt w K,Ds3 N P qb qc qd qa qf ql qk qh qi qq qs qt w K→Aa1 P N.If8 #[.agg #[.int .i64 qb,.int .i64 qc,.slice qd qa qf],.agg #[.int .i64 ql,.slice qk qh qi,.slice qq qs qt]] w K
def Cu5 (N:Nums) (P:Program):Prop:=∀ qb qc qe qg qd qa qf q1 qo qu w K,De5 N P qb qc qe qg qd qa qf q1 qo qu w K→Aa1 P N.Ic9 #[.agg #[.int .i64 qb,.slice qc qe qg,.slice qd qa qf],.slice q1 qo qu] w K
def Bs3 (N:Nums) (P:Program):Prop:=∀ qb qc qe qg qd qa qf ql qk qh qi qq qs qt w K,Cb8 N P qb qc qe qg qd qa qf ql qk qh qi qq qs qt w K→Aa1 P N.Hv6 #[.agg #[.int .i64 qb,.slice qc qe qg,.slice qd qa qf],.agg #[.int .i64 ql,.slice qk qh qi,.slice qq qs qt]] w K
def By3 (N:Nums) (P:Program):Prop:=∀ q0 qj qm w K,Ck8 N P q0 qj qm w K→Aa1 P N.Hy4 #[.slice q0 qj qm] w K
def Dd3 (N:Nums) (P:Program):Prop:=∀ q0 qj qm w K,Du5 N P q0 qj qm w K→Aa1 P N.Ig9 #[.slice q0 qj qm] w K
def Bp6 (N:Nums) (P:Program):Prop:=∀ qb qc qe qg qd qa qf q1 qo qu w K,Bv3 N P qb qc qe qg qd qa qf q1 qo qu w K→Aa1 P N.Hv2 #[.agg #[.int .i64 qb,.slice qc qe qg,.slice qd qa qf],.slice q1 qo qu] w K
def Cl4 (N:Nums) (P:Program):Prop:=∀ qb qc qe qg qd qa qf q1 qo qu w K,Ct3 N P qb qc qe qg qd qa qf q1 qo qu w K→Aa1 P N.Ic6 #[.agg #[.int .i64 qb,.slice qc qe qg,.slice qd qa qf],.slice q1 qo qu] w K
def Eq3 (N:Nums) (P:Program):Prop:=∀ q0 q1 w K,Fh3 N P q0 q1 w K→Aa1 P N.Ik2 #[.float .f64 q0,.float .f64 q1] w K
def Bu8 (N:Nums) (P:Program):Prop:=∀ qb qc qd qa qf w K,By2 N P qb qc qd qa qf w K→Aa1 P N.Hv9 #[.agg #[.int .i64 qb,.int .i64 qc,.slice qd qa qf]] w K
def Ca6 (N:Nums) (P:Program):Prop:=∀ q0 qj qm w K,Ch0 N P q0 qj qm w K→Aa1 P N.Hx7 #[.slice q0 qj qm] w K
def Cj9 (N:Nums) (P:Program):Prop:=∀ q0 q1 w K,Cr1 N P q0 q1 w K→Aa1 P N.Ia3 #[.int .i64 q0,q1] w K
def Bi0 (N:Nums) (P:Program):Prop:=∀ q0 q1 q2 w K,Bk9 N P q0 q1 q2 w K→Aa1 P N.Hu8 #[.int .i64 q0,.pointer q1,.pointer q2] w K
def Dw6 (N:Nums) (P:Program):Prop:=∀ q0 w K,Ev6 N P q0 w K→Aa1 P N.Ii3 #[.float .f64 q0] w K
def Di3 (N:Nums) (P:Program):Prop:=∀ qb qc qe qg qd ql qk qh qi qq w K,Dr6 N P qb qc qe qg qd ql qk qh qi qq w K→Aa1 P N.Ih4 #[.agg #[.bool qb,.slice qc qe qg,.int .i64 qd],.agg #[.bool ql,.slice qk qh qi,.int .i64 qq]] w K
def Ch1 (N:Nums) (P:Program):Prop:=∀ qb qc qe qg qd q1 w K,Cv6 N P qb qc qe qg qd q1 w K→Aa1 P N.Ic4 #[.agg #[.bool qb,.slice qc qe qg,.int .i64 qd],.int .i8 q1] w K
def Cs3 (N:Nums) (P:Program):Prop:=∀ qb qc qd qa qf w K,Df7 N P qb qc qd qa qf w K→Aa1 P N.Ic8 #[.agg #[.int .i64 qb,.int .i64 qc,.slice qd qa qf]] w K
def Cu1 (N:Nums) (P:Program):Prop:=∀ q0 w K,Dc7 N P q0 w K→Aa1 P N.Id7 #[.float .f64 q0] w K
def Cr5 (N:Nums) (P:Program):Prop:=∀ q0 w K,Dd5 N P q0 w K→Aa1 P N.Id5 #[.int .u64 q0] w K
def Ce5 (N:Nums) (P:Program):Prop:=∀ q0 qj qm q1 qo qu w K,Cq7 N P q0 qj qm q1 qo qu w K→Aa1 P N.Ic5 #[.slice q0 qj qm,.slice q1 qo qu] w K
def Bu5 (N:Nums) (P:Program):Prop:=∀ qb qc qe qg qd w K,Cc6 N P qb qc qe qg qd w K→Aa1 P N.Hw4 #[.agg #[.bool qb,.slice qc qe qg,.int .i64 qd]] w K
def Co7 (N:Nums) (P:Program):Prop:=∀ q0 qj qm q1 w K,Dk1 N P q0 qj qm q1 w K→Aa1 P N.If1 #[.slice q0 qj qm,.int .i64 q1] w K
def Cf9 (N:Nums) (P:Program):Prop:=∀ q0 qj qm q1 qo qu w K,Co5 N P q0 qj qm q1 qo qu w K→Aa1 P N.Ia1 #[.slice q0 qj qm,.slice q1 qo qu] w K
def Ck9 (N:Nums) (P:Program):Prop:=∀ q0 qj qm q1 qo qu w K,Ct5 N P q0 qj qm q1 qo qu w K→Aa1 P N.Hz6 #[.slice q0 qj qm,.slice q1 qo qu] w K
def Cf8 (N:Nums) (P:Program):Prop:=∀ q0 qj qm q1 qo qu w K,Cu4 N P q0 qj qm q1 qo qu w K→Aa1 P N.Ia7 #[.slice q0 qj qm,.slice q1 qo qu] w K
def Ca8 (N:Nums) (P:Program):Prop:=∀ qb qc qe qg qd w K,Cg3 N P qb qc qe qg qd w K→Aa1 P N.Hx4 #[.agg #[.bool qb,.slice qc qe qg,.int .i64 qd]] w K
def Cb0 (N:Nums) (P:Program):Prop:=∀ q0 qj qm q1 w K,Cl7 N P q0 qj qm q1 w K→Aa1 P N.Hy5 #[.slice q0 qj qm,.int .i64 q1] w K
def Er1 (N:Nums) (P:Program):Prop:=∀ q0 q1 q2 q3 w K,Fe6 N P q0 q1 q2 q3 w K→Aa1 P N.Il5 #[.int .i8 q0,.bool q1,.int .i64 q2,.bool q3] w K
def Cb1 (N:Nums) (P:Program):Prop:=∀ q0 qj qm w K,Ce8 N P q0 qj qm w K→Aa1 P N.Hy9 #[.slice q0 qj qm] w K
def Db1 (N:Nums) (P:Program):Prop:=∀ q0 q1 w K,Dq8 N P q0 q1 w K→Aa1 P N.If9 #[.int .i8 q0,.bool q1] w K
def Co6 (N:Nums) (P:Program):Prop:=∀ q0 q1 q2 w K,Da9 N P q0 q1 q2 w K→Aa1 P N.If0 #[.bool q0,.int .u64 q1,.int .i64 q2] w K
def By1 (N:Nums) (P:Program):Prop:=∀ qb qc qe qg qd qa qf w K,Cg0 N P qb qc qe qg qd qa qf w K→Aa1 P N.Hx6 #[.agg #[.int .i64 qb,.slice qc qe qg,.slice qd qa qf]] w K
def Ca4 (N:Nums) (P:Program):Prop:=∀ q0 qj qm q1 qo qu q2 w K,Ch7 N P q0 qj qm q1 qo qu q2 w K→Aa1 P N.Hx8 #[.slice q0 qj qm,.slice q1 qo qu,q2] w K
def Br3 (N:Nums) (P:Program):Prop:=∀ q0 q1 w K,Bz5 N P q0 q1 w K→Aa1 P N.Hw3 #[.float .f64 q0,.float .f64 q1] w K
def Cr4 (N:Nums) (P:Program):Prop:=∀ qb qc qe qg qd qa qf w K,Dh4 N P qb qc qe qg qd qa qf w K→Aa1 P N.Id8 #[.agg #[.int .i64 qb,.slice qc qe qg,.slice qd qa qf]] w K
def Cc5 (N:Nums) (P:Program):Prop:=∀ qb qc qe qg qd qa qf q1 qo qu w K,Cj5 N P qb qc qe qg qd qa qf q1 qo qu w K→Aa1 P N.Hx2 #[.agg #[.int .i64 qb,.slice qc qe qg,.slice qd qa qf],.slice q1 qo qu] w K
def De2 (N:Nums) (P:Program):Prop:=∀ qb qc qe qg qd qa qf q1 qo qu w K,Dt1 N P qb qc qe qg qd qa qf q1 qo qu w K→Aa1 P N.Ig7 #[.agg #[.int .i64 qb,.slice qc qe qg,.slice qd qa qf],.slice q1 qo qu] w K
def Cw0 (N:Nums) (P:Program):Prop:=∀ q0 q1 q2 w K,De6 N P q0 q1 q2 w K→Aa1 P N.If5 #[.float .f64 q0,.float .f64 q1,.int .i8 q2] w K
def Da4 (N:Nums) (P:Program):Prop:=∀ q0 w K,Dq5 N P q0 w K→Aa1 P N.Ig0 #[.float .f64 q0] w K
def Dv4 (N:Nums) (P:Program):Prop:=∀ q0 q1 q2 w K,Es9 N P q0 q1 q2 w K→Aa1 P N.Ii4 #[.float .f64 q0,.float .f64 q1,.int .i8 q2] w K
def Cg4 (N:Nums) (P:Program):Prop:=∀ qb qc qe qg qd qa qf q1 w K,Cs0 N P qb qc qe qg qd qa qf q1 w K→Aa1 P N.Ib3 #[.agg #[.int .i64 qb,.slice qc qe qg,.slice qd qa qf],.int .i64 q1] w K
def Al8 (N:Nums) (P:Program):Prop:=∀ q0 qj qm w K,Am4 N P q0 qj qm w K→Aa1 P N.Hu2 #[.slice q0 qj qm] w K
def Bz9 (N:Nums) (P:Program):Prop:=∀ qb qc qe qg qd qa qf q1 q2 w K,Cf6 N P qb qc qe qg qd qa qf q1 q2 w K→Aa1 P N.Hz2 #[.agg #[.int .i64 qb,.slice qc qe qg,.slice qd qa qf],.int .i64 q1,.int .i64 q2] w K
def Ai1 (N:Nums) (P:Program):Prop:=∀ q0 qj qm q1 w K,Ai9 N P q0 qj qm q1 w K→Aa1 P N.Hu1 #[.slice q0 qj qm,.float .f64 q1] w K
def Bz1 (N:Nums) (P:Program):Prop:=∀ q0 w K,Cg7 N P q0 w K→Aa1 P N.Hz0 #[.int .i64 q0] w K
def Ck1 (N:Nums) (P:Program):Prop:=∀ q0 w K,Cr3 N P q0 w K→Aa1 P N.Hz8 #[.float .f64 q0] w K
def Ci0 (N:Nums) (P:Program):Prop:=∀ q0 q1 w K,Ct4 N P q0 q1 w K→Aa1 P N.Ia2 #[.float .f64 q0,.int .i64 q1] w K
def Dh9 (N:Nums) (P:Program):Prop:=∀ q0 w K,Dv7 N P q0 w K→Aa1 P N.Ig5 #[.int .i64 q0] w K
def Dc9 (N:Nums) (P:Program):Prop:=∀ qb qc qe qg qd ql qk qh qi qq w K,Dv1 N P qb qc qe qg qd ql qk qh qi qq w K→Aa1 P N.Ih1 #[.agg #[.bool qb,.slice qc qe qg,.int .i64 qd],.agg #[.bool ql,.slice qk qh qi,.int .i64 qq]] w K
def Cl0 (N:Nums) (P:Program):Prop:=∀ q0 w K,Cp6 N P q0 w K→Aa1 P N.Ib0 #[.float .f64 q0] w K
def Cv8 (N:Nums) (P:Program):Prop:=∀ qb qc qe qg qd ql qk qh qi qq w K,Dg0 N P qb qc qe qg qd ql qk qh qi qq w K→Aa1 P N.Id9 #[.agg #[.bool qb,.slice qc qe qg,.int .i64 qd],.agg #[.bool ql,.slice qk qh qi,.int .i64 qq]] w K
def Cj1 (N:Nums) (P:Program):Prop:=∀ qb qc qe qg qd w K,Cu8 N P qb qc qe qg qd w K→Aa1 P N.Ib5 #[.agg #[.bool qb,.slice qc qe qg,.int .i64 qd]] w K
def Ct9 (N:Nums) (P:Program):Prop:=∀ q0 q1 w K,Di8 N P q0 q1 w K→Aa1 P N.Id1 #[.pointer q0,.int .i64 q1] w K
def En8 (N:Nums) (P:Program):Prop:=∀ q0 q1 q2 w K,Fk0 N P q0 q1 q2 w K→Aa1 P N.Il7 #[.pointer q0,.pointer q1,.pointer q2] w K
def Ck6 (N:Nums) (P:Program):Prop:=∀ qb qc qe qg qd w K,Cs2 N P qb qc qe qg qd w K→Aa1 P N.Ic1 #[.agg #[.bool qb,.slice qc qe qg,.int .i64 qd]] w K
def Et8 (N:Nums) (P:Program):Prop:=∀ q0 q1 w K,Dx9 N P q0 q1 w K→Aa1 P N.Il2 #[.pointer q0,.pointer q1] w K
def Da2 (N:Nums) (P:Program):Prop:=∀ qb qc qe qg qd w K,Dr7 N P qb qc qe qg qd w K→Aa1 P N.Ig8 #[.agg #[.bool qb,.slice qc qe qg,.int .i64 qd]] w K
def Ek4 (N:Nums) (P:Program):Prop:=∀ q0 q1 q2 w K,Eb3 N P q0 q1 q2 w K→Aa1 P N.Ik0 #[.pointer q0,.pointer q1,.int .u64 q2] w K
def Cr6 (N:Nums) (P:Program):Prop:=∀ q0 w K,Df4 N P q0 w K→Aa1 P N.Ie2 #[.pointer q0] w K
def Eo1 (N:Nums) (P:Program):Prop:=∀ q0 q1 q2 w K,Ef6 N P q0 q1 q2 w K→Aa1 P N.Il6 #[.pointer q0,.pointer q1,.int .u64 q2] w K
def Ek2 (N:Nums) (P:Program):Prop:=∀ q0 q1 q2 w K,Fk4 N P q0 q1 q2 w K→Aa1 P N.Il4 #[.pointer q0,.pointer q1,.pointer q2] w K
def Er8 (N:Nums) (P:Program):Prop:=∀ q0 q1 w K,Fh1 N P q0 q1 w K→Aa1 P N.Ij8 #[.pointer q0,.pointer q1] w K
def Cq5 (N:Nums) (P:Program):Prop:=∀ q0 w K,Dd4 N P q0 w K→Aa1 P N.If2 #[.int .i64 q0] w K
def Dv5 (N:Nums) (P:Program):Prop:=∀ q0 w K,Ek6 N P q0 w K→Aa1 P N.Ii8 #[.pointer q0] w K
def Ct0 (N:Nums) (P:Program):Prop:=∀ q0 q1 q2 q3 w K,Dc1 N P q0 q1 q2 q3 w K→Aa1 P N.If7 #[.int .i8 q0,.bool q1,.int .i64 q2,.bool q3] w K
def Ce2 (N:Nums) (P:Program):Prop:=∀ q0 q1 q2 q3 w K,Cq2 N P q0 q1 q2 q3 w K→Aa1 P N.Ib6 #[.bool q0,.int .u64 q1,.int .i64 q2,.int .i8 q3] w K
def Dq7 (N:Nums) (P:Program):Prop:=∀ q0 w K,Ei8 N P q0 w K→Aa1 P N.Ij3 #[.int .i64 q0] w K
def Ci2 (N:Nums) (P:Program):Prop:=∀ q0 w K,Cr8 N P q0 w K→Aa1 P N.Ia5 #[.float .f64 q0] w K
def Cl8 (N:Nums) (P:Program):Prop:=∀ q0 w K,Br9 N P q0 w K→Aa1 P N.Ia0 #[.float .f64 q0] w K
def Bx9 (N:Nums) (P:Program):Prop:=∀ q0 qj qm w K,Cg9 N P q0 qj qm w K→Aa1 P N.Hy3 #[.slice q0 qj qm] w K
def Cv5 (N:Nums) (P:Program):Prop:=∀ q0 qj qm w K,Dh6 N P q0 qj qm w K→Aa1 P N.Id2 #[.slice q0 qj qm] w K
def Bz6 (N:Nums) (P:Program):Prop:=∀ q0 qj qm q1 qo qu w K,Cg1 N P q0 qj qm q1 qo qu w K→Aa1 P N.Hx3 #[.slice q0 qj qm,.slice q1 qo qu] w K
def Cl1 (N:Nums) (P:Program):Prop:=∀ q0 qj qm w K,Cp0 N P q0 qj qm w K→Aa1 P N.Hz4 #[.slice q0 qj qm] w K
def Cu6 (N:Nums) (P:Program):Prop:=∀ q0 qj qm q1 w K,Di9 N P q0 qj qm q1 w K→Aa1 P N.Ie6 #[.slice q0 qj qm,.int .i64 q1] w K
def Cv4 (N:Nums) (P:Program):Prop:=∀ q0 qj qm q1 w K,Db5 N P q0 qj qm q1 w K→Aa1 P N.Id0 #[.slice q0 qj qm,.int .u64 q1] w K
def Di4 (N:Nums) (P:Program):Prop:=∀ qb qc qd w K,Dw7 N P qb qc qd w K→Aa1 P N.Ih5 #[.agg #[.bool qb,.int .u64 qc,.int .i64 qd]] w K
def Ck3 (N:Nums) (P:Program):Prop:=∀ q0 qj qm q1 qo qu w K,Cp1 N P q0 qj qm q1 qo qu w K→Aa1 P N.Ib8 #[.slice q0 qj qm,.slice q1 qo qu] w K
def Cp2 (N:Nums) (P:Program):Prop:=∀ qb qc qe qg qd qa qf w K,Dj7 N P qb qc qe qg qd qa qf w K→Aa1 P N.Id3 #[.agg #[.int .i64 qb,.slice qc qe qg,.slice qd qa qf]] w K
def Ei5 (N:Nums) (P:Program):Prop:=∀ qb qc qe qg qd qa qf q1 q2 w K,Fh8 N P qb qc qe qg qd qa qf q1 q2 w K→Aa1 P N.Ij5 #[.agg #[.int .i64 qb,.slice qc qe qg,.slice qd qa qf],.int .i64 q1,.int .i64 q2] w K
def Dd1 (N:Nums) (P:Program):Prop:=∀ qb qc qe qg qd qa qf w K,Dr4 N P qb qc qe qg qd qa qf w K→Aa1 P N.Ig2 #[.agg #[.int .i64 qb,.slice qc qe qg,.slice qd qa qf]] w K
def Cp3 (N:Nums) (P:Program):Prop:=∀ q0 w K,Dh7 N P q0 w K→Aa1 P N.Ie0 #[.int .i8 q0] w K
def Bv2 (N:Nums) (P:Program):Prop:=∀ q0 qj qm w K,Cb4 N P q0 qj qm w K→Aa1 P N.Hw7 #[.slice q0 qj qm] w K
def Bs8 (N:Nums) (P:Program):Prop:=∀ q0 w K,Ca7 N P q0 w K→Aa1 P N.Hw6 #[.float .f64 q0] w K
def Ci7 (N:Nums) (P:Program):Prop:=∀ q0 w K,Cr2 N P q0 w K→Aa1 P N.Hz9 #[.int .i8 q0] w K
def Bs4 (N:Nums) (P:Program):Prop:=∀ q0 q1 q2 w K,By8 N P q0 q1 q2 w K→Aa1 P N.Hw2 #[.float .f64 q0,.int .i64 q1,.int .i8 q2] w K
def Cf1 (N:Nums) (P:Program):Prop:=∀ q0 w K,Ct2 N P q0 w K→Aa1 P N.Ia9 #[.float .f64 q0] w K
def Cg5 (N:Nums) (P:Program):Prop:=∀ q0 w K,Cv0 N P q0 w K→Aa1 P N.Ia6 #[.float .f64 q0] w K
def Cs8 (N:Nums) (P:Program):Prop:=∀ q0 q1 w K,Dd7 N P q0 q1 w K→Aa1 P N.If3 #[.float .f64 q0,.int .i8 q1] w K
def Cg8 (N:Nums) (P:Program):Prop:=∀ q0 q1 q2 q3 w K,Cp7 N P q0 q1 q2 q3 w K→Aa1 P N.Ib1 #[.bool q0,.bool q1,.float .f64 q2,.int .i8 q3] w K
def Db2 (N:Nums) (P:Program):Prop:=∀ q0 q1 q2 w K,Ds7 N P q0 q1 q2 w K→Aa1 P N.Ih7 #[.float .f64 q0,.int .i64 q1,.int .i8 q2] w K
def Dg8 (N:Nums) (P:Program):Prop:=∀ q0 w K,Du1 N P q0 w K→Aa1 P N.Ih2 #[.float .f64 q0] w K
def Al4 (N:Nums) (P:Program):Prop:=∀ q0 qj qm q1 w K,Am5 N P q0 qj qm q1 w K→Aa1 P N.Hu3 #[.slice q0 qj qm,.float .f64 q1] w K
def Ek5 (N:Nums) (P:Program):Prop:=∀ q0 q1 q2 w K,Fg9 N P q0 q1 q2 w K→Aa1 P N.Ik1 #[.pointer q0,.pointer q1,.pointer q2] w K
def Cs7 (N:Nums) (P:Program):Prop:=∀ q0 w K,Dk6 N P q0 w K→Aa1 P N.If6 #[.float .f64 q0] w K
def Cj6 (N:Nums) (P:Program):Prop:=∀ q0 w K,Cp9 N P q0 w K→Aa1 P N.Ia8 #[.float .f64 q0] w K
def Ck7 (N:Nums) (P:Program):Prop:=∀ q0 q1 w K,Cv3 N P q0 q1 w K→Aa1 P N.Ia4 #[.float .f64 q0,.int .i64 q1] w K
def Aq2 (N:Nums) (P:Program):Prop:=∀ q0 w K,Aq7 N P q0 w K→Aa1 P N.Hu4 #[.int .u64 q0] w K
def Fj7 (N:Nums) (P:Program):Prop:=∀ q0 q1 q2 w K,Ga4 N P q0 q1 q2 w K→Aa1 P N.Im1 #[.pointer q0,.pointer q1,.pointer q2] w K
def Bs6 (N:Nums) (P:Program):Prop:=∀ q0 q1 w K,Ca2 N P q0 q1 w K→Aa1 P N.Hw5 #[.pointer q0,.int .u64 q1] w K
def El8 (N:Nums) (P:Program):Prop:=∀ q0 q1 w K,Fg8 N P q0 q1 w K→Aa1 P N.Ij4 #[.pointer q0,.pointer q1] w K
def Ay9 (N:Nums) (P:Program):Prop:=∀ q0 w K,Bc1 N P q0 w K→Aa1 P N.Hu6 #[.pointer q0] w K
def Co9 (N:Nums) (P:Program):Prop:=∀ q0 w K,Dl0 N P q0 w K→Aa1 P N.Ie8 #[.pointer q0] w K
def Ce6 (N:Nums) (P:Program):Prop:=∀ q0 w K,Cu2 N P q0 w K→Aa1 P N.Ic3 #[.pointer q0] w K
def Dx2 (N:Nums) (P:Program):Prop:=∀ q0 q1 q2 qy vf w K,Er9 N P q0 q1 q2 qy vf w K→Aa1 P N.Ii9 #[.pointer q0,.bool q1,.slice q2 qy vf] w K
def Ej4 (N:Nums) (P:Program):Prop:=∀ q0 qj qm q1 qo qu w K,Ff4 N P q0 qj qm q1 qo qu w K→Aa1 P N.Il9 #[.slice q0 qj qm,.slice q1 qo qu] w K
def Dx4 (N:Nums) (P:Program):Prop:=∀ q0 qj qm w K,Eq6 N P q0 qj qm w K→Aa1 P N.Ii2 #[.slice q0 qj qm] w K
def Dt6 (N:Nums) (P:Program):Prop:=∀ q0 qj qm q1 w K,Eq0 N P q0 qj qm q1 w K→Aa1 P N.Ii1 #[.slice q0 qj qm,.int .u64 q1] w K
def Ev7 (N:Nums) (P:Program):Prop:=∀ q0 qj qm q1 qo qu w K,Fj3 N P q0 qj qm q1 qo qu w K→Aa1 P N.Ik7 #[.slice q0 qj qm,.slice q1 qo qu] w K
def Di7 (N:Nums) (P:Program):Prop:=∀ q0 qj qm q1 w K,Dw8 N P q0 qj qm q1 w K→Aa1 P N.Ih8 #[.slice q0 qj qm,.int .u64 q1] w K
def Eu6 (N:Nums) (P:Program):Prop:=∀ q0 qj qm q1 qo qu w K,Fh7 N P q0 qj qm q1 qo qu w K→Aa1 P N.Il8 #[.slice q0 qj qm,.slice q1 qo qu] w K
def Et4 (N:Nums) (P:Program):Prop:=∀ q0 q1 qo qu q2 q3 vm ye w K,Fk3 N P q0 q1 qo qu q2 q3 vm ye w K→Aa1 P N.Ik3 #[.bool q0,.slice q1 qo qu,.bool q2,.slice q3 vm ye] w K
def Eq5 (N:Nums) (P:Program):Prop:=∀ q0 qj qm q1 qo qu w K,Fj5 N P q0 qj qm q1 qo qu w K→Aa1 P N.Ij7 #[.slice q0 qj qm,.slice q1 qo qu] w K
def Cc1 (N:Nums) (P:Program):Prop:=∀ q0 q1 w K,Ci1 N P q0 q1 w K→Aa1 P N.Hy6 #[.pointer q0,.int .i64 q1] w K
def Cs6 (N:Nums) (P:Program):Prop:=∀ qb qc qd w K,Dj3 N P qb qc qd w K→Aa1 P N.Ie5 #[.agg #[.bool qb,.int .u64 qc,.int .i64 qd]] w K
def Ct6 (N:Nums) (P:Program):Prop:=∀ q0 q1 w K,Dc3 N P q0 q1 w K→Aa1 P N.Ie7 #[.float .f64 q0,.bool q1] w K
def Dc5 (N:Nums) (P:Program):Prop:=∀ q0 w K,Dr2 N P q0 w K→Aa1 P N.Ig3 #[.float .f64 q0] w K
def Dr0 (N:Nums) (P:Program):Prop:=∀ q0 qj qm w K,Em5 N P q0 qj qm w K→Aa1 P N.Ij2 #[.slice q0 qj qm] w K
def Bq0 (N:Nums) (P:Program):Prop:=∀ q0 q1 w K,Bt7 N P q0 q1 w K→Aa1 P N.Hv4 #[.float .f64 q0,.float .f64 q1] w K
def Ce0 (N:Nums) (P:Program):Prop:=∀ q0 q1 w K,Cr0 N P q0 q1 w K→Aa1 P N.Ib7 #[.float .f64 q0,.bool q1] w K
def De8 (N:Nums) (P:Program):Prop:=∀ q0 w K,Dq4 N P q0 w K→Aa1 P N.Ig4 #[.float .f64 q0] w K
def El4 (N:Nums) (P:Program):Prop:=∀ q0 w K,Fe5 N P q0 w K→Aa1 P N.Ik9 #[.float .f64 q0] w K
def Ci5 (N:Nums) (P:Program):Prop:=∀ q0 w K,Ct7 N P q0 w K→Aa1 P N.Ic0 #[.float .f64 q0] w K
def Cf4 (N:Nums) (P:Program):Prop:=∀ q0 q1 w K,Cu3 N P q0 q1 w K→Aa1 P N.Ib2 #[.float .f64 q0,.int .i64 q1] w K
def Es0 (N:Nums) (P:Program):Prop:=∀ q0 q1 w K,Fe8 N P q0 q1 w K→Aa1 P N.Ik6 #[.pointer q0,.int .i64 q1] w K
def Fj1 (N:Nums) (P:Program):Prop:=∀ q0 q1 qo qu w K,Gh0 N P q0 q1 qo qu w K→Aa1 P N.Im0 #[.pointer q0,.slice q1 qo qu] w K
def De0 (N:Nums) (P:Program):Prop:=∀ q0 w K,Dw4 N P q0 w K→Aa1 P N.Ih6 #[.int .u64 q0] w K
def Ei1 (N:Nums) (P:Program):Prop:=∀ q0 qj qm q1 w K,Fj0 N P q0 qj qm q1 w K→Aa1 P N.Ij6 #[.slice q0 qj qm,.int .i64 q1] w K
def Cq3 (N:Nums) (P:Program):Prop:=∀ q0 qj qm w K,Dc8 N P q0 qj qm w K→Aa1 P N.If4 #[.slice q0 qj qm] w K
def Et3 (N:Nums) (P:Program):Prop:=∀ q0 q1 q2 w K,Fe7 N P q0 q1 q2 w K→Aa1 P N.Ij9 #[.pointer q0,.pointer q1,.pointer q2] w K
def Dt2 (N:Nums) (P:Program):Prop:=∀ q0 qj qm w K,Eq9 N P q0 qj qm w K→Aa1 P N.Ii6 #[.slice q0 qj qm] w K
def Cg2 (N:Nums) (P:Program):Prop:=∀ q0 w K,Cq6 N P q0 w K→Aa1 P N.Hz7 #[.float .f64 q0] w K
def Dx0 (N:Nums) (P:Program):Prop:=∀ q0 w K,Ei6 N P q0 w K→Aa1 P N.Ii5 #[.int .i64 q0] w K
def Ca9 (N:Nums) (P:Program):Prop:=∀ q0 w K,Ce3 N P q0 w K→Aa1 P N.Hy8 #[.float .f64 q0] w K
def Cl6 (N:Nums) (P:Program):Prop:=∀ q0 w K,Cr9 N P q0 w K→Aa1 P N.Ib4 #[.float .f64 q0] w K
def Bl1 (N:Nums) (P:Program):Prop:=∀ q0 w K,Bp4 N P q0 w K→Aa1 P N.Hv1 #[.float .f64 q0] w K
def Dk0 (N:Nums) (P:Program):Prop:=∀ q0 w K,Dt8 N P q0 w K→Aa1 P N.Ih3 #[.int .i64 q0] w K
def Bg2 (N:Nums) (P:Program):Prop:=∀ (x:Nat) (w:World) (K:KV),K (.int .u64 x) w→Aa1 P N.Hu7 #[.float .f64 x] w K
def Ax1 (N:Nums) (P:Program):Prop:=∀ (n:Int) (w:World) (K:KV),K (.float .f64 n.toNat) w→Aa1 P N.Hu5 #[.int .u64 n] w K
def Bh9 (N:Nums) (P:Program):Prop:=∀ (x:Int) (_:0≤x) (_:x≤18446744073709551615) (w:World) (K:KV),K (.int .i64 (Lib.bitLen x.toNat)) w→Aa1 P N.Hu9 #[.int .u64 x] w K
structure AllOk (N:Nums) (P:Program):Prop where
 w14_RefineUntil:Bi7 N P
 w14_awake:Cu0 N P
 w14_great:Cp4 N P
 k_LentMatrix:Bt5 N P
 k_LentReals:Bz2 N P
 refine_Left:Bz3 N P
 r14_Left:Dd6 N P
 k_SameReals:Cc0 N P
 k_KeptMatrix:Bv0 N P
 k_KeptReals:Ca0 N P
 k_LentFactor:Br2 N P
 refine_Step:Cc7 N P
 r14_Step:Cz8 N P
 k_KeptFactor:Bv1 N P
 refine_Until:Bt9 N P
 r14_Until:Cs4 N P
 solve_Solve:By5 N P
 k_LikeReals:Cb9 N P
 w14_two:Du8 N P
 k_mark:En5 N P
 refine_fit:Cf0 N P
 refine_finite:Bp8 N P
 sums_DotExact:Bq2 N P
 r14_fit:Dv9 N P
 r14_finite:Ch6 N P
 r02_Float:Cu7 N P
 r02_Times:Cs1 N P
 r02_Plus:Cz2 N P
 r02_Minus:Cr7 N P
 r02_Rounded:By0 N P
 k_SameFloat:Cc2 N P
 k_SameMatrix:Bu6 N P
 refine_fits:Bz0 N P
 vector_Add:Cf5 N P
 r14_fits:Cz7 N P
 r13_Solve:Cu5 N P
 k_SameFactor:Bs3 N P
 vector_Norm:By3 N P
 r09_Norm:Dd3 N P
 solve_Forward:Bp6 N P
 solve_Back:Cl4 N P
 k_Like:Eq3 N P
 matrix_Right:Bu8 N P
 sums_finite:Ca6 N P
 sums_total:Cj9 N P
 sums_DotExact_1:Bi0 N P
 dyad_Of:Dw6 N P
 dyad_Mul:Di3 N P
 dyad_Round:Ch1 N P
 r10_Right:Cs3 N P
 r01_Split:Cu1 N P
 r02_NatOf:Cr5 N P
 r02_NatMul:Ce5 N P
 r02_Num_Zero:Bu5 N P
 r02_NatUp:Co7 N P
 r02_NatAdd:Cf9 N P
 r02_NatCmp:Ck9 N P
 r02_NatSub:Cf8 N P
 r02_Num_top:Ca8 N P
 r02_NatDown:Cb0 N P
 r02_up:Er1 N P
 r02_NatBits:Cb1 N P
 r02_huge:Db1 N P
 r02_float:Co6 N P
 lower_Right:By1 N P
 vector_each:Ca4 N P
 vector_Add_1:Br3 N P
 r12_Right:Cr4 N P
 r13_Forward:Cc5 N P
 r13_Back:De2 N P
 round_Add:Cw0 N P
 math_Abs:Da4 N P
 r03_Add:Dv4 N P
 solve_fits:Cg4 N P
 slices_Clone___float64_float64:Al8 N P
 solve_below:Bz9 N P
 slices_Contains___float64_float64:Ai1 N P
 matrix_fits:Bz1 N P
 math_IsNaN:Ck1 N P
 math_IsInf:Ci0 N P
 dyad_Int:Dh9 N P
 dyad_Add:Dc9 N P
 bits_Split:Cl0 N P
 dyad_both:Cv8 N P
 dyad_whole:Cj1 N P
 dyad_made:Ct9 N P
 bI_Mul:En8 N P
 dyad_Right:Ck6 N P
 bI_Abs:Et8 N P
 dyad_top:Da2 N P
 bI_Lsh:Ek4 N P
 bI_Uint64:Cr6 N P
 bI_Rsh:Eo1 N P
 bI_Sub:Ek2 N P
 bI_Cmp:Er8 N P
 bn_NewInt:Cq5 N P
 bI_Sign:Dv5 N P
 dyad_away:Ct0 N P
 dyad_float:Ce2 N P
 r10_may:Dq7 N P
 r01_Finite:Ci2 N P
 r01_fields:Cl8 N P
 r02_NatTrim:Bx9 N P
 r02_limbs:Cv5 N P
 r02_product:Bz6 N P
 r02_halves:Cl1 N P
 r02_digit:Cu6 N P
 r02_short:Cv4 N P
 r01_Join:Di4 N P
 vector_fit:Ck3 N P
 r13_Right:Cp2 N P
 r13_at:Ei5 N P
 r13_zero:Dd1 N P
 round_way:Cp3 N P
 round_finite:Bv2 N P
 math_Signbit:Bs8 N P
 round_none:Ci7 N P
 round_settle:Bs4 N P
 round_sign:Cf1 N P
 r03_Finite:Cg5 N P
 r03_great:Cs8 N P
 r03_nought:Cg8 N P
 r03_side:Db2 N P
 r03_sign:Dg8 N P
 slices_Index___float64_float64:Al4 N P
 bI_Add:Ek5 N P
 bits_Kind:Cs7 N P
 math_Frexp:Cj6 N P
 math_Ldexp:Ck7 N P
 math_bits_TrailingZeros64:Aq2 N P
 bI_Or:Fj7 N P
 bI_SetUint64:Bs6 N P
 bI_Neg:El8 N P
 bI_TrailingZeroBits:Ay9 N P
 bI_BitLen:Co9 N P
 dyad_limbs:Ce6 N P
 bI_give:Dx2 N P
 bn_mul:Ej4 N P
 bn_twin:Dx4 N P
 bn_left:Dt6 N P
 bn_add:Ev7 N P
 bn_right:Di7 N P
 bn_sub:Eu6 N P
 bn_sum:Et4 N P
 bn_cmp:Eq5 N P
 bI_SetInt64:Cc1 N P
 bits_Join:Cs6 N P
 bits_Next:Ct6 N P
 r01_Kind:Dc5 N P
 r02_low:Dr0 N P
 math_Copysign:Bq0 N P
 round_step:Ce0 N P
 r03_down:De8 N P
 r03_up:El4 N P
 math_frexp:Ci5 N P
 math_ldexp:Cf4 N P
 bI_low:Es0 N P
 bI_of:Fj1 N P
 bn_words:De0 N P
 bn_bit:Ei1 N P
 bn_length:Cq3 N P
 bI_And:Et3 N P
 bn_trim:Dt2 N P
 bits_Place:Cg2 N P
 bits_At:Dx0 N P
 r03_further:Ca9 N P
 r03_nearer:Cl6 N P
 math_normalize:Bl1 N P
 math_Inf:Dk0 N P
 math_Float64bits:Bg2 N P
 math_Float64frombits:Ax1 N P
 math_bits_Len64:Bh9 N P
end Go.Eng
