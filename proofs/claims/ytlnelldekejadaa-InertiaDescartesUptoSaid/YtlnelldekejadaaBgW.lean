
/-
  The methods of whole numbers of any size: contracts on items that stand for whole numbers (printed by a program of the session out of the walks and the plain laws). No condition.
-/
import Derived.Test.YtlnelldekejadaaWkA
import Derived.Test.YtlnelldekejadaaBw3
set_option linter.all false
set_option maxRecDepth 100000
set_option maxHeartbeats 4000000
namespace Go.Eng
open Go
section
variable {N:Nums} {P:Program} (H:AllOk N P) {w0 w:World} {L:List It}
include H
theorem big_Sign_x {rx:Nat} {ax:Option Addr} {nx cx:Nat} {x:Int} {v:Int} {K:Value→World→Prop} (hS:Ho w0 w L) (hx:Ent L (bgR N.t_bn_Int rx ax nx cx x)) (h:bigSign x=some v) (hK:∀ w1:World,Ho w0 w1 L→K (.int .i64 v) w1):CallsX P N.f_bI_Sign #[.pointer (some ⟨rx,0,none⟩)] w K:=
  wk_bI_Sign_x H hS hx.bgS hx.bgW (sign_w h) hK
theorem big_BitLen_x {rx:Nat} {ax:Option Addr} {nx cx:Nat} {x:Int} {v:Int} {K:Value→World→Prop} (hS:Ho w0 w L) (hx:Ent L (bgR N.t_bn_Int rx ax nx cx x)) (h:bigBitLen x=some v) (hK:∀ w1:World,Ho w0 w1 L→K (.int .i64 v) w1):CallsX P N.f_bI_BitLen #[.pointer (some ⟨rx,0,none⟩)] w K:=
  wk_bI_BitLen_x H hS hx.bgS hx.bgW (bitLen_w h) hK
theorem big_Uint64_x {rx:Nat} {ax:Option Addr} {nx cx:Nat} {x:Int} {v:Int} {K:Value→World→Prop} (hS:Ho w0 w L) (hx:Ent L (bgR N.t_bn_Int rx ax nx cx x)) (h:bigUint64 x=some v) (hK:∀ w1:World,Ho w0 w1 L→K (.int .u64 v) w1):CallsX P N.f_bI_Uint64 #[.pointer (some ⟨rx,0,none⟩)] w K:=
  wk_bI_Uint64_x H hS hx.bgS hx.bgW (uint64_w h) hK
theorem big_TrailingZeroBits_x {rx:Nat} {ax:Option Addr} {nx cx:Nat} {x:Int} {v:Int} {K:Value→World→Prop} (hS:Ho w0 w L) (hx:Ent L (bgR N.t_bn_Int rx ax nx cx x)) (h:bigTrailingZeroBits x=some v) (hK:∀ w1:World,Ho w0 w1 L→K (.int .u64 v) w1):CallsX P N.f_bI_TrailingZeroBits #[.pointer (some ⟨rx,0,none⟩)] w K:=
  wk_bI_TrailingZeroBits_x H hS hx.bgS hx.bgW (tz_w h) hK
theorem big_Cmp_xy {rx:Nat} {ax:Option Addr} {nx cx:Nat} {x:Int} {ry:Nat} {ay:Option Addr} {ny cy:Nat} {y:Int} {v:Int} {K:Value→World→Prop} (hS:Ho w0 w L) (hx:Ent L (bgR N.t_bn_Int rx ax nx cx x)) (hy:Ent L (bgR N.t_bn_Int ry ay ny cy y)) (h:bigCmp x y=some v) (hK:∀ w1:World,Ho w0 w1 L→K (.int .i64 v) w1):CallsX P N.f_bI_Cmp #[.pointer (some ⟨rx,0,none⟩),.pointer (some ⟨ry,0,none⟩)] w K:=
  wk_bI_Cmp_xy H hS hx.bgS hx.bgW hy.bgS hy.bgW (cmp_w h) hK
theorem big_SetInt64_z {r:Nat} {a:Option Addr} {n c:Nat} {z v:Int}  {q:Int} {K:Value→World→Prop} (hS:Ho w0 w (bg N.t_bn_Int N.t_uint32 r a n c z::L))  (h:bigSetInt64 q=some v) (hK:∀ (a1:Option Addr) (n1 c1:Nat) (w1:World),Ho w0 w1 (bg N.t_bn_Int N.t_uint32 r a1 n1 c1 v::L)→K (.pointer (some ⟨r,0,none⟩)) w1):CallsX P N.f_bI_SetInt64 #[.pointer (some ⟨r,0,none⟩),.int .i64 q] w K:=
  wk_bI_SetInt64_z H hS.bgOpen  (setInt64_w h) fun a1 n1 c1 w1 h1=>hK a1 n1 c1 w1 (Ho.bgShut h1.drop3 rfl rfl)
theorem big_SetUint64_z {r:Nat} {a:Option Addr} {n c:Nat} {z v:Int}  {q:Int} {K:Value→World→Prop} (hS:Ho w0 w (bg N.t_bn_Int N.t_uint32 r a n c z::L))  (h:bigSetUint64 q=some v) (hK:∀ (a1:Option Addr) (n1 c1:Nat) (w1:World),Ho w0 w1 (bg N.t_bn_Int N.t_uint32 r a1 n1 c1 v::L)→K (.pointer (some ⟨r,0,none⟩)) w1):CallsX P N.f_bI_SetUint64 #[.pointer (some ⟨r,0,none⟩),.int .u64 q] w K:=
  wk_bI_SetUint64_z H hS.bgOpen  (setUint64_w h) fun a1 n1 c1 w1 h1=>hK a1 n1 c1 w1 (Ho.bgShut h1.drop3 rfl rfl)
theorem big_Neg_zz {r:Nat} {a:Option Addr} {n c:Nat} {z v:Int}   {K:Value→World→Prop} (hS:Ho w0 w (bg N.t_bn_Int N.t_uint32 r a n c z::L))  (h:bigNeg z=some v) (hK:∀ (a1:Option Addr) (n1 c1:Nat) (w1:World),Ho w0 w1 (bg N.t_bn_Int N.t_uint32 r a1 n1 c1 v::L)→K (.pointer (some ⟨r,0,none⟩)) w1):CallsX P N.f_bI_Neg #[.pointer (some ⟨r,0,none⟩),.pointer (some ⟨r,0,none⟩)] w K:=
  wk_bI_Neg_zz H hS.bgOpen (Ent.sl mp0) (neg_w h) fun a1 n1 c1 w1 h1=>hK a1 n1 c1 w1 (Ho.bgShut h1.drop3 rfl rfl)
theorem big_Abs_zx {r:Nat} {a:Option Addr} {n c:Nat} {z v:Int} {rx:Nat} {ax:Option Addr} {nx cx:Nat} {x:Int}  {K:Value→World→Prop} (hS:Ho w0 w (bg N.t_bn_Int N.t_uint32 r a n c z::L)) (hx:Ent L (bgR N.t_bn_Int rx ax nx cx x)) (h:bigAbs x=some v) (hK:∀ (a1:Option Addr) (n1 c1:Nat) (w1:World),Ho w0 w1 (bg N.t_bn_Int N.t_uint32 r a1 n1 c1 v::L)→K (.pointer (some ⟨r,0,none⟩)) w1):CallsX P N.f_bI_Abs #[.pointer (some ⟨r,0,none⟩),.pointer (some ⟨rx,0,none⟩)] w K:=
  wk_bI_Abs_zx H hS.bgOpen (hx.bgS.mono tl1) (hx.bgW.mono tl1) (abs_w h) fun a1 n1 c1 w1 h1=>hK a1 n1 c1 w1 (Ho.bgShut h1.drop3 rfl rfl)
theorem big_Lsh_zz {r:Nat} {a:Option Addr} {n c:Nat} {z v:Int}  {q:Int} {K:Value→World→Prop} (hS:Ho w0 w (bg N.t_bn_Int N.t_uint32 r a n c z::L))  (h:bigLsh z q=some v) (hK:∀ (a1:Option Addr) (n1 c1:Nat) (w1:World),Ho w0 w1 (bg N.t_bn_Int N.t_uint32 r a1 n1 c1 v::L)→K (.pointer (some ⟨r,0,none⟩)) w1):CallsX P N.f_bI_Lsh #[.pointer (some ⟨r,0,none⟩),.pointer (some ⟨r,0,none⟩),.int .u64 q] w K:=
  wk_bI_Lsh_zz H hS.bgOpen (Ent.sl mp0) (lsh_w h) fun a1 n1 c1 w1 h1=>hK a1 n1 c1 w1 (Ho.bgShut h1.drop3 rfl rfl)
theorem big_Rsh_zx {r:Nat} {a:Option Addr} {n c:Nat} {z v:Int} {rx:Nat} {ax:Option Addr} {nx cx:Nat} {x:Int} {q:Int} {K:Value→World→Prop} (hS:Ho w0 w (bg N.t_bn_Int N.t_uint32 r a n c z::L)) (hx:Ent L (bgR N.t_bn_Int rx ax nx cx x)) (h:bigRsh x q=some v) (hK:∀ (a1:Option Addr) (n1 c1:Nat) (w1:World),Ho w0 w1 (bg N.t_bn_Int N.t_uint32 r a1 n1 c1 v::L)→K (.pointer (some ⟨r,0,none⟩)) w1):CallsX P N.f_bI_Rsh #[.pointer (some ⟨r,0,none⟩),.pointer (some ⟨rx,0,none⟩),.int .u64 q] w K:=
  wk_bI_Rsh_zx H hS.bgOpen (hx.bgS.mono tl1) (hx.bgW.mono tl1) (rsh_w h) fun a1 n1 c1 w1 h1=>hK a1 n1 c1 w1 (Ho.bgShut h1.drop3 rfl rfl)
theorem big_Rsh_zz {r:Nat} {a:Option Addr} {n c:Nat} {z v:Int}  {q:Int} {K:Value→World→Prop} (hS:Ho w0 w (bg N.t_bn_Int N.t_uint32 r a n c z::L))  (h:bigRsh z q=some v) (hK:∀ (a1:Option Addr) (n1 c1:Nat) (w1:World),Ho w0 w1 (bg N.t_bn_Int N.t_uint32 r a1 n1 c1 v::L)→K (.pointer (some ⟨r,0,none⟩)) w1):CallsX P N.f_bI_Rsh #[.pointer (some ⟨r,0,none⟩),.pointer (some ⟨r,0,none⟩),.int .u64 q] w K:=
  wk_bI_Rsh_zz H hS.bgOpen (Ent.sl mp0) (rsh_w h) fun a1 n1 c1 w1 h1=>hK a1 n1 c1 w1 (Ho.bgShut h1.drop3 rfl rfl)
theorem big_Add_zzy {r:Nat} {a:Option Addr} {n c:Nat} {z v:Int} {ry:Nat} {ay:Option Addr} {ny cy:Nat} {y:Int}  {K:Value→World→Prop} (hS:Ho w0 w (bg N.t_bn_Int N.t_uint32 r a n c z::L)) (hy:Ent L (bgR N.t_bn_Int ry ay ny cy y)) (h:bigAdd z y=some v) (hK:∀ (a1:Option Addr) (n1 c1:Nat) (w1:World),Ho w0 w1 (bg N.t_bn_Int N.t_uint32 r a1 n1 c1 v::L)→K (.pointer (some ⟨r,0,none⟩)) w1):CallsX P N.f_bI_Add #[.pointer (some ⟨r,0,none⟩),.pointer (some ⟨r,0,none⟩),.pointer (some ⟨ry,0,none⟩)] w K:=
  wk_bI_Add_zzy H hS.bgOpen (Ent.sl mp0) (hy.bgS.mono tl1) (hy.bgW.mono tl1) (add_w h) fun a1 n1 c1 w1 h1=>hK a1 n1 c1 w1 (Ho.bgShut h1.drop3 rfl rfl)
theorem big_Sub_zzy {r:Nat} {a:Option Addr} {n c:Nat} {z v:Int} {ry:Nat} {ay:Option Addr} {ny cy:Nat} {y:Int}  {K:Value→World→Prop} (hS:Ho w0 w (bg N.t_bn_Int N.t_uint32 r a n c z::L)) (hy:Ent L (bgR N.t_bn_Int ry ay ny cy y)) (h:bigSub z y=some v) (hK:∀ (a1:Option Addr) (n1 c1:Nat) (w1:World),Ho w0 w1 (bg N.t_bn_Int N.t_uint32 r a1 n1 c1 v::L)→K (.pointer (some ⟨r,0,none⟩)) w1):CallsX P N.f_bI_Sub #[.pointer (some ⟨r,0,none⟩),.pointer (some ⟨r,0,none⟩),.pointer (some ⟨ry,0,none⟩)] w K:=
  wk_bI_Sub_zzy H hS.bgOpen (Ent.sl mp0) (hy.bgS.mono tl1) (hy.bgW.mono tl1) (sub_w h) fun a1 n1 c1 w1 h1=>hK a1 n1 c1 w1 (Ho.bgShut h1.drop3 rfl rfl)
theorem big_Mul_zxy {r:Nat} {a:Option Addr} {n c:Nat} {z v:Int} {rx:Nat} {ax:Option Addr} {nx cx:Nat} {x:Int} {ry:Nat} {ay:Option Addr} {ny cy:Nat} {y:Int}  {K:Value→World→Prop} (hS:Ho w0 w (bg N.t_bn_Int N.t_uint32 r a n c z::L)) (hx:Ent L (bgR N.t_bn_Int rx ax nx cx x)) (hy:Ent L (bgR N.t_bn_Int ry ay ny cy y)) (h:bigMul x y=some v) (hK:∀ (a1:Option Addr) (n1 c1:Nat) (w1:World),Ho w0 w1 (bg N.t_bn_Int N.t_uint32 r a1 n1 c1 v::L)→K (.pointer (some ⟨r,0,none⟩)) w1):CallsX P N.f_bI_Mul #[.pointer (some ⟨r,0,none⟩),.pointer (some ⟨rx,0,none⟩),.pointer (some ⟨ry,0,none⟩)] w K:=
  wk_bI_Mul_zxy H hS.bgOpen (hx.bgS.mono tl1) (hx.bgW.mono tl1) (hy.bgS.mono tl1) (hy.bgW.mono tl1) (mul_w h) fun a1 n1 c1 w1 h1=>hK a1 n1 c1 w1 (Ho.bgShut h1.drop3 rfl rfl)
theorem big_And_zxy {r:Nat} {a:Option Addr} {n c:Nat} {z v:Int} {rx:Nat} {ax:Option Addr} {nx cx:Nat} {x:Int} {ry:Nat} {ay:Option Addr} {ny cy:Nat} {y:Int}  {K:Value→World→Prop} (hS:Ho w0 w (bg N.t_bn_Int N.t_uint32 r a n c z::L)) (hx:Ent L (bgR N.t_bn_Int rx ax nx cx x)) (hy:Ent L (bgR N.t_bn_Int ry ay ny cy y)) (h:bigAnd x y=some v) (hK:∀ (a1:Option Addr) (n1 c1:Nat) (w1:World),Ho w0 w1 (bg N.t_bn_Int N.t_uint32 r a1 n1 c1 v::L)→K (.pointer (some ⟨r,0,none⟩)) w1):CallsX P N.f_bI_And #[.pointer (some ⟨r,0,none⟩),.pointer (some ⟨rx,0,none⟩),.pointer (some ⟨ry,0,none⟩)] w K:=
  wk_bI_And_zxy H hS.bgOpen (hx.bgS.mono tl1) (hx.bgW.mono tl1) (hy.bgS.mono tl1) (hy.bgW.mono tl1) (and_w h) fun a1 n1 c1 w1 h1=>hK a1 n1 c1 w1 (Ho.bgShut h1.drop3 rfl rfl)
theorem big_Or_zzy {r:Nat} {a:Option Addr} {n c:Nat} {z v:Int} {ry:Nat} {ay:Option Addr} {ny cy:Nat} {y:Int}  {K:Value→World→Prop} (hS:Ho w0 w (bg N.t_bn_Int N.t_uint32 r a n c z::L)) (hy:Ent L (bgR N.t_bn_Int ry ay ny cy y)) (h:bigOr z y=some v) (hK:∀ (a1:Option Addr) (n1 c1:Nat) (w1:World),Ho w0 w1 (bg N.t_bn_Int N.t_uint32 r a1 n1 c1 v::L)→K (.pointer (some ⟨r,0,none⟩)) w1):CallsX P N.f_bI_Or #[.pointer (some ⟨r,0,none⟩),.pointer (some ⟨r,0,none⟩),.pointer (some ⟨ry,0,none⟩)] w K:=
  wk_bI_Or_zzy H hS.bgOpen (Ent.sl mp0) (hy.bgS.mono tl1) (hy.bgW.mono tl1) (or_w h) fun a1 n1 c1 w1 h1=>hK a1 n1 c1 w1 (Ho.bgShut h1.drop3 rfl rfl)
end
end Go.Eng
