/-
  The methods of whole numbers of any size: contracts on items that stand for whole numbers (printed by a program of the session out of the walks and the plain laws). No condition.
-/
import Derived.Test.YtlnelldekejadaaGreatWkA
import Derived.Test.YtlnelldekejadaaGreatBw3
set_option linter.all false
set_option maxRecDepth 100000
set_option maxHeartbeats 4000000
namespace Go.Eng
open Go
section
variable {N:Nums} {P:Program} (H:AllOk N P) {w0 w:World} {L:List It}
include H
theorem Ao5 {rx:Nat} {ax:Option Addr} {nx cx:Nat} {x:Int} {v:Int} {K:Value→World→Prop} (hS:Ho w0 w L) (hx:Ent L (bgR N.Hr0 rx ax nx cx x)) (h:An3 x=some v) (hK:∀ a:World,Ho w0 a L→K (.int .i64 v) a):Aa1 P N.Hp5 #[.pointer (some ⟨rx,0,none⟩)] w K:=
 Dv2 H hS hx.bgS hx.bgW (Gn7 h) hK
theorem Ch7 {rx:Nat} {ax:Option Addr} {nx cx:Nat} {x:Int} {v:Int} {K:Value→World→Prop} (hS:Ho w0 w L) (hx:Ent L (bgR N.Hr0 rx ax nx cx x)) (h:Be1 x=some v) (hK:∀ a:World,Ho w0 a L→K (.int .i64 v) a):Aa1 P N.Hm4 #[.pointer (some ⟨rx,0,none⟩)] w K:=
 Db2 H hS hx.bgS hx.bgW (Fr1 h) hK
theorem Cl4 {rx:Nat} {ax:Option Addr} {nx cx:Nat} {x:Int} {v:Int} {K:Value→World→Prop} (hS:Ho w0 w L) (hx:Ent L (bgR N.Hr0 rx ax nx cx x)) (h:Aw0 x=some v) (hK:∀ a:World,Ho w0 a L→K (.int .u64 v) a):Aa1 P N.Hn1 #[.pointer (some ⟨rx,0,none⟩)] w K:=
 Db7 H hS hx.bgS hx.bgW (Fu6 h) hK
theorem Aw8 {rx:Nat} {ax:Option Addr} {nx cx:Nat} {x:Int} {v:Int} {K:Value→World→Prop} (hS:Ho w0 w L) (hx:Ent L (bgR N.Hr0 rx ax nx cx x)) (h:Af2 x=some v) (hK:∀ a:World,Ho w0 a L→K (.int .u64 v) a):Aa1 P N.Hg4 #[.pointer (some ⟨rx,0,none⟩)] w K:=
 Bh1 H hS hx.bgS hx.bgW (Hf5 h) hK
theorem Ew3 {rx:Nat} {ax:Option Addr} {nx cx:Nat} {x:Int} {ry:Nat} {ay:Option Addr} {ny cy:Nat} {y:Int} {v:Int} {K:Value→World→Prop} (hS:Ho w0 w L) (hx:Ent L (bgR N.Hr0 rx ax nx cx x)) (hy:Ent L (bgR N.Hr0 ry ay ny cy y)) (h:Dy7 x y=some v) (hK:∀ a:World,Ho w0 a L→K (.int .i64 v) a):Aa1 P N.Hr4 #[.pointer (some ⟨rx,0,none⟩),.pointer (some ⟨ry,0,none⟩)] w K:=
 Eb2 H hS hx.bgS hx.bgW hy.bgS hy.bgW (Gw9 h) hK
theorem Dc8 {r:Nat} {a:Option Addr} {n c:Nat} {z v:Int}  {q:Int} {K:Value→World→Prop} (hS:Ho w0 w (bg N.Hr0 N.Hq9 r a n c z::L))  (h:At5 q=some v) (hK:∀ (d:Option Addr) (e f:Nat) (b:World),Ho w0 b (bg N.Hr0 N.Hq9 r d e f v::L)→K (.pointer (some ⟨r,0,none⟩)) b):Aa1 P N.Hi7 #[.pointer (some ⟨r,0,none⟩),.int .i64 q] w K:=
 Cm2 H hS.bgOpen  (Es9 h) fun d e f b g=>hK d e f b (Ho.bgShut g.drop3 rfl rfl)
theorem Bc5 {r:Nat} {a:Option Addr} {n c:Nat} {z v:Int}  {q:Int} {K:Value→World→Prop} (hS:Ho w0 w (bg N.Hr0 N.Hq9 r a n c z::L))  (h:Ak6 q=some v) (hK:∀ (d:Option Addr) (e f:Nat) (b:World),Ho w0 b (bg N.Hr0 N.Hq9 r d e f v::L)→K (.pointer (some ⟨r,0,none⟩)) b):Aa1 P N.Hi5 #[.pointer (some ⟨r,0,none⟩),.int .u64 q] w K:=
 Cc9 H hS.bgOpen  (Ee1 h) fun d e f b g=>hK d e f b (Ho.bgShut g.drop3 rfl rfl)
theorem Cf4 {r:Nat} {a:Option Addr} {n c:Nat} {z v:Int}   {K:Value→World→Prop} (hS:Ho w0 w (bg N.Hr0 N.Hq9 r a n c z::L))  (h:Cr3 z=some v) (hK:∀ (d:Option Addr) (e f:Nat) (b:World),Ho w0 b (bg N.Hr0 N.Hq9 r d e f v::L)→K (.pointer (some ⟨r,0,none⟩)) b):Aa1 P N.Hq8 #[.pointer (some ⟨r,0,none⟩),.pointer (some ⟨r,0,none⟩)] w K:=
 Ds7 H hS.bgOpen (Ent.sl mp0) (Gy0 h) fun d e f b g=>hK d e f b (Ho.bgShut g.drop3 rfl rfl)
theorem Cf1 {r:Nat} {a:Option Addr} {n c:Nat} {z v:Int} {rx:Nat} {ax:Option Addr} {nx cx:Nat} {x:Int}  {K:Value→World→Prop} (hS:Ho w0 w (bg N.Hr0 N.Hq9 r a n c z::L)) (hx:Ent L (bgR N.Hr0 rx ax nx cx x)) (h:Bo3 x=some v) (hK:∀ (d:Option Addr) (e f:Nat) (b:World),Ho w0 b (bg N.Hr0 N.Hq9 r d e f v::L)→K (.pointer (some ⟨r,0,none⟩)) b):Aa1 P N.Hq3 #[.pointer (some ⟨r,0,none⟩),.pointer (some ⟨rx,0,none⟩)] w K:=
 Dy9 H hS.bgOpen (hx.bgS.mono tl1) (hx.bgW.mono tl1) (Ha1 h) fun d e f b g=>hK d e f b (Ho.bgShut g.drop3 rfl rfl)
theorem Bg9 {r:Nat} {a:Option Addr} {n c:Nat} {z v:Int}  {q:Int} {K:Value→World→Prop} (hS:Ho w0 w (bg N.Hr0 N.Hq9 r a n c z::L))  (h:Bf5 z q=some v) (hK:∀ (d:Option Addr) (e f:Nat) (b:World),Ho w0 b (bg N.Hr0 N.Hq9 r d e f v::L)→K (.pointer (some ⟨r,0,none⟩)) b):Aa1 P N.Hq5 #[.pointer (some ⟨r,0,none⟩),.pointer (some ⟨r,0,none⟩),.int .u64 q] w K:=
 Ds1 H hS.bgOpen (Ent.sl mp0) (Hc3 h) fun d e f b g=>hK d e f b (Ho.bgShut g.drop3 rfl rfl)
theorem Et4 {r:Nat} {a:Option Addr} {n c:Nat} {z v:Int} {rx:Nat} {ax:Option Addr} {nx cx:Nat} {x:Int} {q:Int} {K:Value→World→Prop} (hS:Ho w0 w (bg N.Hr0 N.Hq9 r a n c z::L)) (hx:Ent L (bgR N.Hr0 rx ax nx cx x)) (h:Bi2 x q=some v) (hK:∀ (d:Option Addr) (e f:Nat) (b:World),Ho w0 b (bg N.Hr0 N.Hq9 r d e f v::L)→K (.pointer (some ⟨r,0,none⟩)) b):Aa1 P N.Hr1 #[.pointer (some ⟨r,0,none⟩),.pointer (some ⟨rx,0,none⟩),.int .u64 q] w K:=
 Dy6 H hS.bgOpen (hx.bgS.mono tl1) (hx.bgW.mono tl1) (Gt7 h) fun d e f b g=>hK d e f b (Ho.bgShut g.drop3 rfl rfl)
theorem Dg2 {r:Nat} {a:Option Addr} {n c:Nat} {z v:Int}  {q:Int} {K:Value→World→Prop} (hS:Ho w0 w (bg N.Hr0 N.Hq9 r a n c z::L))  (h:Bi2 z q=some v) (hK:∀ (d:Option Addr) (e f:Nat) (b:World),Ho w0 b (bg N.Hr0 N.Hq9 r d e f v::L)→K (.pointer (some ⟨r,0,none⟩)) b):Aa1 P N.Hr1 #[.pointer (some ⟨r,0,none⟩),.pointer (some ⟨r,0,none⟩),.int .u64 q] w K:=
 Ci1 H hS.bgOpen (Ent.sl mp0) (Gt7 h) fun d e f b g=>hK d e f b (Ho.bgShut g.drop3 rfl rfl)
theorem Bd4 {r:Nat} {a:Option Addr} {n c:Nat} {z v:Int} {ry:Nat} {ay:Option Addr} {ny cy:Nat} {y:Int}  {K:Value→World→Prop} (hS:Ho w0 w (bg N.Hr0 N.Hq9 r a n c z::L)) (hy:Ent L (bgR N.Hr0 ry ay ny cy y)) (h:Au1 z y=some v) (hK:∀ (d:Option Addr) (e f:Nat) (b:World),Ho w0 b (bg N.Hr0 N.Hq9 r d e f v::L)→K (.pointer (some ⟨r,0,none⟩)) b):Aa1 P N.Hq0 #[.pointer (some ⟨r,0,none⟩),.pointer (some ⟨r,0,none⟩),.pointer (some ⟨ry,0,none⟩)] w K:=
 Dk2 H hS.bgOpen (Ent.sl mp0) (hy.bgS.mono tl1) (hy.bgW.mono tl1) (Hc2 h) fun d e f b g=>hK d e f b (Ho.bgShut g.drop3 rfl rfl)
theorem Ct3 {r:Nat} {a:Option Addr} {n c:Nat} {z v:Int} {ry:Nat} {ay:Option Addr} {ny cy:Nat} {y:Int}  {K:Value→World→Prop} (hS:Ho w0 w (bg N.Hr0 N.Hq9 r a n c z::L)) (hy:Ent L (bgR N.Hr0 ry ay ny cy y)) (h:Ct9 z y=some v) (hK:∀ (d:Option Addr) (e f:Nat) (b:World),Ho w0 b (bg N.Hr0 N.Hq9 r d e f v::L)→K (.pointer (some ⟨r,0,none⟩)) b):Aa1 P N.Hq6 #[.pointer (some ⟨r,0,none⟩),.pointer (some ⟨r,0,none⟩),.pointer (some ⟨ry,0,none⟩)] w K:=
 Dl3 H hS.bgOpen (Ent.sl mp0) (hy.bgS.mono tl1) (hy.bgW.mono tl1) (Ha8 h) fun d e f b g=>hK d e f b (Ho.bgShut g.drop3 rfl rfl)
theorem Bw5 {r:Nat} {a:Option Addr} {n c:Nat} {z v:Int} {rx:Nat} {ax:Option Addr} {nx cx:Nat} {x:Int} {ry:Nat} {ay:Option Addr} {ny cy:Nat} {y:Int}  {K:Value→World→Prop} (hS:Ho w0 w (bg N.Hr0 N.Hq9 r a n c z::L)) (hx:Ent L (bgR N.Hr0 rx ax nx cx x)) (hy:Ent L (bgR N.Hr0 ry ay ny cy y)) (h:Bt7 x y=some v) (hK:∀ (d:Option Addr) (e f:Nat) (b:World),Ho w0 b (bg N.Hr0 N.Hq9 r d e f v::L)→K (.pointer (some ⟨r,0,none⟩)) b):Aa1 P N.Hq7 #[.pointer (some ⟨r,0,none⟩),.pointer (some ⟨rx,0,none⟩),.pointer (some ⟨ry,0,none⟩)] w K:=
 Dk3 H hS.bgOpen (hx.bgS.mono tl1) (hx.bgW.mono tl1) (hy.bgS.mono tl1) (hy.bgW.mono tl1) (Hc1 h) fun d e f b g=>hK d e f b (Ho.bgShut g.drop3 rfl rfl)
theorem Ec3 {r:Nat} {a:Option Addr} {n c:Nat} {z v:Int} {rx:Nat} {ax:Option Addr} {nx cx:Nat} {x:Int} {ry:Nat} {ay:Option Addr} {ny cy:Nat} {y:Int}  {K:Value→World→Prop} (hS:Ho w0 w (bg N.Hr0 N.Hq9 r a n c z::L)) (hx:Ent L (bgR N.Hr0 rx ax nx cx x)) (hy:Ent L (bgR N.Hr0 ry ay ny cy y)) (h:Di3 x y=some v) (hK:∀ (d:Option Addr) (e f:Nat) (b:World),Ho w0 b (bg N.Hr0 N.Hq9 r d e f v::L)→K (.pointer (some ⟨r,0,none⟩)) b):Aa1 P N.Hr6 #[.pointer (some ⟨r,0,none⟩),.pointer (some ⟨rx,0,none⟩),.pointer (some ⟨ry,0,none⟩)] w K:=
 Dl7 H hS.bgOpen (hx.bgS.mono tl1) (hx.bgW.mono tl1) (hy.bgS.mono tl1) (hy.bgW.mono tl1) (Gw5 h) fun d e f b g=>hK d e f b (Ho.bgShut g.drop3 rfl rfl)
theorem Di5 {r:Nat} {a:Option Addr} {n c:Nat} {z v:Int} {ry:Nat} {ay:Option Addr} {ny cy:Nat} {y:Int}  {K:Value→World→Prop} (hS:Ho w0 w (bg N.Hr0 N.Hq9 r a n c z::L)) (hy:Ent L (bgR N.Hr0 ry ay ny cy y)) (h:Ef0 z y=some v) (hK:∀ (d:Option Addr) (e f:Nat) (b:World),Ho w0 b (bg N.Hr0 N.Hq9 r d e f v::L)→K (.pointer (some ⟨r,0,none⟩)) b):Aa1 P N.Hs6 #[.pointer (some ⟨r,0,none⟩),.pointer (some ⟨r,0,none⟩),.pointer (some ⟨ry,0,none⟩)] w K:=
 Ds2 H hS.bgOpen (Ent.sl mp0) (hy.bgS.mono tl1) (hy.bgW.mono tl1) (Hf0 h) fun d e f b g=>hK d e f b (Ho.bgShut g.drop3 rfl rfl)
end
end Go.Eng
