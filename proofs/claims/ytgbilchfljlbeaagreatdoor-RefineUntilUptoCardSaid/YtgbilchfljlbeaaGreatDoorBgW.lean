
/-
  The methods of whole numbers of any size: contracts on items that stand for whole numbers (printed by a program of the session out of the walks and the plain laws). No condition.
-/
import Derived.Test.YtgbilchfljlbeaaGreatDoorWkA
import Derived.Test.YtgbilchfljlbeaaGreatDoorBw3
set_option linter.all false
set_option maxRecDepth 100000
set_option maxHeartbeats 4000000
namespace Go.Eng
open Go
section
variable {N:Nums} {P:Program} (H:AllOk N P) {w0 w:World} {L:List It}
include H
theorem Be6 {rx:Nat} {ax:Option Addr} {nx cx:Nat} {x:Int} {v:Int} {K:Value→World→Prop} (hS:Ho w0 w L) (hx:Ent L (bgR N.Ik4 rx ax nx cx x)) (h:Ao5 x=some v) (hK:∀ w1:World,Ho w0 w1 L→K (.int .i64 v) w1):Aa1 P N.Ii8 #[.pointer (some ⟨rx,0,none⟩)] w K:=
  El3 H hS hx.bgS hx.bgW (Hd7 h) hK
theorem Eq7 {rx:Nat} {ax:Option Addr} {nx cx:Nat} {x:Int} {v:Int} {K:Value→World→Prop} (hS:Ho w0 w L) (hx:Ent L (bgR N.Ik4 rx ax nx cx x)) (h:Br5 x=some v) (hK:∀ w1:World,Ho w0 w1 L→K (.int .i64 v) w1):Aa1 P N.Ie8 #[.pointer (some ⟨rx,0,none⟩)] w K:=
  Do1 H hS hx.bgS hx.bgW (Go2 h) hK
theorem Bu0 {rx:Nat} {ax:Option Addr} {nx cx:Nat} {x:Int} {v:Int} {K:Value→World→Prop} (hS:Ho w0 w L) (hx:Ent L (bgR N.Ik4 rx ax nx cx x)) (h:An2 x=some v) (hK:∀ w1:World,Ho w0 w1 L→K (.int .u64 v) w1):Aa1 P N.Ie2 #[.pointer (some ⟨rx,0,none⟩)] w K:=
  Dn5 H hS hx.bgS hx.bgW (Go9 h) hK
theorem Bq7 {rx:Nat} {ax:Option Addr} {nx cx:Nat} {x:Int} {v:Int} {K:Value→World→Prop} (hS:Ho w0 w L) (hx:Ent L (bgR N.Ik4 rx ax nx cx x)) (h:Ai8 x=some v) (hK:∀ w1:World,Ho w0 w1 L→K (.int .u64 v) w1):Aa1 P N.Hu6 #[.pointer (some ⟨rx,0,none⟩)] w K:=
  Bl3 H hS hx.bgS hx.bgW (Ht3 h) hK
theorem Fp0 {rx:Nat} {ax:Option Addr} {nx cx:Nat} {x:Int} {ry:Nat} {ay:Option Addr} {ny cy:Nat} {y:Int} {v:Int} {K:Value→World→Prop} (hS:Ho w0 w L) (hx:Ent L (bgR N.Ik4 rx ax nx cx x)) (hy:Ent L (bgR N.Ik4 ry ay ny cy y)) (h:Dt3 x y=some v) (hK:∀ w1:World,Ho w0 w1 L→K (.int .i64 v) w1):Aa1 P N.Ij8 #[.pointer (some ⟨rx,0,none⟩),.pointer (some ⟨ry,0,none⟩)] w K:=
  Ej3 H hS hx.bgS hx.bgW hy.bgS hy.bgW (Ho1 h) hK
theorem Dn7 {r:Nat} {a:Option Addr} {n c:Nat} {z v:Int}  {q:Int} {K:Value→World→Prop} (hS:Ho w0 w (bg N.Ik4 N.Il1 r a n c z::L))  (h:Bn9 q=some v) (hK:∀ (a1:Option Addr) (n1 c1:Nat) (w1:World),Ho w0 w1 (bg N.Ik4 N.Il1 r a1 n1 c1 v::L)→K (.pointer (some ⟨r,0,none⟩)) w1):Aa1 P N.Hy6 #[.pointer (some ⟨r,0,none⟩),.int .i64 q] w K:=
  Cw5 H hS.bgOpen  (Fn4 h) fun a1 n1 c1 w1 h1=>hK a1 n1 c1 w1 (Ho.bgShut h1.drop3 rfl rfl)
theorem Bu3 {r:Nat} {a:Option Addr} {n c:Nat} {z v:Int}  {q:Int} {K:Value→World→Prop} (hS:Ho w0 w (bg N.Ik4 N.Il1 r a n c z::L))  (h:Ao0 q=some v) (hK:∀ (a1:Option Addr) (n1 c1:Nat) (w1:World),Ho w0 w1 (bg N.Ik4 N.Il1 r a1 n1 c1 v::L)→K (.pointer (some ⟨r,0,none⟩)) w1):Aa1 P N.Hw5 #[.pointer (some ⟨r,0,none⟩),.int .u64 q] w K:=
  Cn5 H hS.bgOpen  (Fd9 h) fun a1 n1 c1 w1 h1=>hK a1 n1 c1 w1 (Ho.bgShut h1.drop3 rfl rfl)
theorem Fo7 {r:Nat} {a:Option Addr} {n c:Nat} {z v:Int}   {K:Value→World→Prop} (hS:Ho w0 w (bg N.Ik4 N.Il1 r a n c z::L))  (h:Fi4 z=some v) (hK:∀ (a1:Option Addr) (n1 c1:Nat) (w1:World),Ho w0 w1 (bg N.Ik4 N.Il1 r a1 n1 c1 v::L)→K (.pointer (some ⟨r,0,none⟩)) w1):Aa1 P N.Ij4 #[.pointer (some ⟨r,0,none⟩),.pointer (some ⟨r,0,none⟩)] w K:=
  Eu3 H hS.bgOpen (Ent.sl mp0) (Hn3 h) fun a1 n1 c1 w1 h1=>hK a1 n1 c1 w1 (Ho.bgShut h1.drop3 rfl rfl)
theorem Du2 {r:Nat} {a:Option Addr} {n c:Nat} {z v:Int} {rx:Nat} {ax:Option Addr} {nx cx:Nat} {x:Int}  {K:Value→World→Prop} (hS:Ho w0 w (bg N.Ik4 N.Il1 r a n c z::L)) (hx:Ent L (bgR N.Ik4 rx ax nx cx x)) (h:Bp5 x=some v) (hK:∀ (a1:Option Addr) (n1 c1:Nat) (w1:World),Ho w0 w1 (bg N.Ik4 N.Il1 r a1 n1 c1 v::L)→K (.pointer (some ⟨r,0,none⟩)) w1):Aa1 P N.Il2 #[.pointer (some ⟨r,0,none⟩),.pointer (some ⟨rx,0,none⟩)] w K:=
  Ej5 H hS.bgOpen (hx.bgS.mono tl1) (hx.bgW.mono tl1) (Hh4 h) fun a1 n1 c1 w1 h1=>hK a1 n1 c1 w1 (Ho.bgShut h1.drop3 rfl rfl)
theorem Fs5 {r:Nat} {a:Option Addr} {n c:Nat} {z v:Int}   {K:Value→World→Prop} (hS:Ho w0 w (bg N.Ik4 N.Il1 r a n c z::L))  (h:Bp5 z=some v) (hK:∀ (a1:Option Addr) (n1 c1:Nat) (w1:World),Ho w0 w1 (bg N.Ik4 N.Il1 r a1 n1 c1 v::L)→K (.pointer (some ⟨r,0,none⟩)) w1):Aa1 P N.Il2 #[.pointer (some ⟨r,0,none⟩),.pointer (some ⟨r,0,none⟩)] w K:=
  Ek0 H hS.bgOpen (Ent.sl mp0) (Hh4 h) fun a1 n1 c1 w1 h1=>hK a1 n1 c1 w1 (Ho.bgShut h1.drop3 rfl rfl)
theorem Dt9 {r:Nat} {a:Option Addr} {n c:Nat} {z v:Int} {rx:Nat} {ax:Option Addr} {nx cx:Nat} {x:Int} {q:Int} {K:Value→World→Prop} (hS:Ho w0 w (bg N.Ik4 N.Il1 r a n c z::L)) (hx:Ent L (bgR N.Ik4 rx ax nx cx x)) (h:Ar5 x q=some v) (hK:∀ (a1:Option Addr) (n1 c1:Nat) (w1:World),Ho w0 w1 (bg N.Ik4 N.Il1 r a1 n1 c1 v::L)→K (.pointer (some ⟨r,0,none⟩)) w1):Aa1 P N.Ik0 #[.pointer (some ⟨r,0,none⟩),.pointer (some ⟨rx,0,none⟩),.int .u64 q] w K:=
  Em0 H hS.bgOpen (hx.bgS.mono tl1) (hx.bgW.mono tl1) (He6 h) fun a1 n1 c1 w1 h1=>hK a1 n1 c1 w1 (Ho.bgShut h1.drop3 rfl rfl)
theorem Cn0 {r:Nat} {a:Option Addr} {n c:Nat} {z v:Int}  {q:Int} {K:Value→World→Prop} (hS:Ho w0 w (bg N.Ik4 N.Il1 r a n c z::L))  (h:Ar5 z q=some v) (hK:∀ (a1:Option Addr) (n1 c1:Nat) (w1:World),Ho w0 w1 (bg N.Ik4 N.Il1 r a1 n1 c1 v::L)→K (.pointer (some ⟨r,0,none⟩)) w1):Aa1 P N.Ik0 #[.pointer (some ⟨r,0,none⟩),.pointer (some ⟨r,0,none⟩),.int .u64 q] w K:=
  Et7 H hS.bgOpen (Ent.sl mp0) (He6 h) fun a1 n1 c1 w1 h1=>hK a1 n1 c1 w1 (Ho.bgShut h1.drop3 rfl rfl)
theorem Ds9 {r:Nat} {a:Option Addr} {n c:Nat} {z v:Int} {rx:Nat} {ax:Option Addr} {nx cx:Nat} {x:Int} {q:Int} {K:Value→World→Prop} (hS:Ho w0 w (bg N.Ik4 N.Il1 r a n c z::L)) (hx:Ent L (bgR N.Ik4 rx ax nx cx x)) (h:Bi6 x q=some v) (hK:∀ (a1:Option Addr) (n1 c1:Nat) (w1:World),Ho w0 w1 (bg N.Ik4 N.Il1 r a1 n1 c1 v::L)→K (.pointer (some ⟨r,0,none⟩)) w1):Aa1 P N.Il6 #[.pointer (some ⟨r,0,none⟩),.pointer (some ⟨rx,0,none⟩),.int .u64 q] w K:=
  Em6 H hS.bgOpen (hx.bgS.mono tl1) (hx.bgW.mono tl1) (Hl6 h) fun a1 n1 c1 w1 h1=>hK a1 n1 c1 w1 (Ho.bgShut h1.drop3 rfl rfl)
theorem Fq5 {r:Nat} {a:Option Addr} {n c:Nat} {z v:Int}  {q:Int} {K:Value→World→Prop} (hS:Ho w0 w (bg N.Ik4 N.Il1 r a n c z::L))  (h:Bi6 z q=some v) (hK:∀ (a1:Option Addr) (n1 c1:Nat) (w1:World),Ho w0 w1 (bg N.Ik4 N.Il1 r a1 n1 c1 v::L)→K (.pointer (some ⟨r,0,none⟩)) w1):Aa1 P N.Il6 #[.pointer (some ⟨r,0,none⟩),.pointer (some ⟨r,0,none⟩),.int .u64 q] w K:=
  En2 H hS.bgOpen (Ent.sl mp0) (Hl6 h) fun a1 n1 c1 w1 h1=>hK a1 n1 c1 w1 (Ho.bgShut h1.drop3 rfl rfl)
theorem Dk8 {r:Nat} {a:Option Addr} {n c:Nat} {z v:Int} {ry:Nat} {ay:Option Addr} {ny cy:Nat} {y:Int}  {K:Value→World→Prop} (hS:Ho w0 w (bg N.Ik4 N.Il1 r a n c z::L)) (hy:Ent L (bgR N.Ik4 ry ay ny cy y)) (h:Cl2 z y=some v) (hK:∀ (a1:Option Addr) (n1 c1:Nat) (w1:World),Ho w0 w1 (bg N.Ik4 N.Il1 r a1 n1 c1 v::L)→K (.pointer (some ⟨r,0,none⟩)) w1):Aa1 P N.Ik1 #[.pointer (some ⟨r,0,none⟩),.pointer (some ⟨r,0,none⟩),.pointer (some ⟨ry,0,none⟩)] w K:=
  Ed2 H hS.bgOpen (Ent.sl mp0) (hy.bgS.mono tl1) (hy.bgW.mono tl1) (Hm3 h) fun a1 n1 c1 w1 h1=>hK a1 n1 c1 w1 (Ho.bgShut h1.drop3 rfl rfl)
theorem Fc5 {r:Nat} {a:Option Addr} {n c:Nat} {z v:Int} {ry:Nat} {ay:Option Addr} {ny cy:Nat} {y:Int}  {K:Value→World→Prop} (hS:Ho w0 w (bg N.Ik4 N.Il1 r a n c z::L)) (hy:Ent L (bgR N.Ik4 ry ay ny cy y)) (h:Du0 z y=some v) (hK:∀ (a1:Option Addr) (n1 c1:Nat) (w1:World),Ho w0 w1 (bg N.Ik4 N.Il1 r a1 n1 c1 v::L)→K (.pointer (some ⟨r,0,none⟩)) w1):Aa1 P N.Il4 #[.pointer (some ⟨r,0,none⟩),.pointer (some ⟨r,0,none⟩),.pointer (some ⟨ry,0,none⟩)] w K:=
  Ea3 H hS.bgOpen (Ent.sl mp0) (hy.bgS.mono tl1) (hy.bgW.mono tl1) (Hn0 h) fun a1 n1 c1 w1 h1=>hK a1 n1 c1 w1 (Ho.bgShut h1.drop3 rfl rfl)
theorem Ex2 {r:Nat} {a:Option Addr} {n c:Nat} {z v:Int} {ry:Nat} {ay:Option Addr} {ny cy:Nat} {y:Int}  {K:Value→World→Prop} (hS:Ho w0 w (bg N.Ik4 N.Il1 r a n c z::L)) (hy:Ent L (bgR N.Ik4 ry ay ny cy y)) (h:Ei0 z y=some v) (hK:∀ (a1:Option Addr) (n1 c1:Nat) (w1:World),Ho w0 w1 (bg N.Ik4 N.Il1 r a1 n1 c1 v::L)→K (.pointer (some ⟨r,0,none⟩)) w1):Aa1 P N.Il7 #[.pointer (some ⟨r,0,none⟩),.pointer (some ⟨r,0,none⟩),.pointer (some ⟨ry,0,none⟩)] w K:=
  Ee2 H hS.bgOpen (Ent.sl mp0) (hy.bgS.mono tl1) (hy.bgW.mono tl1) (Hp7 h) fun a1 n1 c1 w1 h1=>hK a1 n1 c1 w1 (Ho.bgShut h1.drop3 rfl rfl)
theorem Fd7 {r:Nat} {a:Option Addr} {n c:Nat} {z v:Int} {rx:Nat} {ax:Option Addr} {nx cx:Nat} {x:Int} {ry:Nat} {ay:Option Addr} {ny cy:Nat} {y:Int}  {K:Value→World→Prop} (hS:Ho w0 w (bg N.Ik4 N.Il1 r a n c z::L)) (hx:Ent L (bgR N.Ik4 rx ax nx cx x)) (hy:Ent L (bgR N.Ik4 ry ay ny cy y)) (h:Dw0 x y=some v) (hK:∀ (a1:Option Addr) (n1 c1:Nat) (w1:World),Ho w0 w1 (bg N.Ik4 N.Il1 r a1 n1 c1 v::L)→K (.pointer (some ⟨r,0,none⟩)) w1):Aa1 P N.Ij9 #[.pointer (some ⟨r,0,none⟩),.pointer (some ⟨rx,0,none⟩),.pointer (some ⟨ry,0,none⟩)] w K:=
  Ec5 H hS.bgOpen (hx.bgS.mono tl1) (hx.bgW.mono tl1) (hy.bgS.mono tl1) (hy.bgW.mono tl1) (Ho6 h) fun a1 n1 c1 w1 h1=>hK a1 n1 c1 w1 (Ho.bgShut h1.drop3 rfl rfl)
theorem Fs8 {r:Nat} {a:Option Addr} {n c:Nat} {z v:Int} {ry:Nat} {ay:Option Addr} {ny cy:Nat} {y:Int}  {K:Value→World→Prop} (hS:Ho w0 w (bg N.Ik4 N.Il1 r a n c z::L)) (hy:Ent L (bgR N.Ik4 ry ay ny cy y)) (h:Fo0 z y=some v) (hK:∀ (a1:Option Addr) (n1 c1:Nat) (w1:World),Ho w0 w1 (bg N.Ik4 N.Il1 r a1 n1 c1 v::L)→K (.pointer (some ⟨r,0,none⟩)) w1):Aa1 P N.Im1 #[.pointer (some ⟨r,0,none⟩),.pointer (some ⟨r,0,none⟩),.pointer (some ⟨ry,0,none⟩)] w K:=
  Eo5 H hS.bgOpen (Ent.sl mp0) (hy.bgS.mono tl1) (hy.bgW.mono tl1) (Ht9 h) fun a1 n1 c1 w1 h1=>hK a1 n1 c1 w1 (Ho.bgShut h1.drop3 rfl rfl)
end
end Go.Eng
