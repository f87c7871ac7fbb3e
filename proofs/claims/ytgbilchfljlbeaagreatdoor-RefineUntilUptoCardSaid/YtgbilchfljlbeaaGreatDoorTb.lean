/-
  The types of this program, and the numbers of its types and functions. No condition.
-/
import Derived.Test.YtgbilchfljlbeaaGreatDoorTbl
import Derived.Test.YtgbilchfljlbeaaGreatDoorNm
import Derived.Test.YtgbilchfljlbeaaGreatDoorProg
import Derived.KernelRfl
set_option linter.all false
set_option maxRecDepth 100000
namespace Go.Eng
open Go
def Ad4:Nums:={ Fm8:=164,Im3:=78,Dz5:=80,Gz5:=29,Ik8:=36,Eb6:=77,Ie1:=22,Ci9:=30,Bo7:=43,Fs1:=122,Fp6:=66,Cw9:=95,Cj0:=135,Ik5:=24,Cx4:=59,Hf3:=64,Im2:=87,Eh5:=88,Ik4:=124,Hl8:=4,Cx2:=160,Cd9:=131,Ii0:=48,Cw4:=62,De3:=49,Do8:=148,Ay6:=104,Cw6:=83,Ih0:=38,Ij1:=68,Hn1:=3,Gt6:=2,Eh7:=170,Fm5:=115,Gp2:=9,Hj4:=126,Il1:=159,Il0:=85,Gy9:=5,If2:=107,Ik7:=154,Ij6:=175,Ij7:=158,Ii1:=153,If4:=176,Il9:=150,Ih8:=155,Il8:=156,Ik3:=157,Ii6:=178,Ii2:=151,Ih6:=174,Ii5:=180,Ie5:=160,If6:=139,Ie7:=161,Hz7:=179,Ib0:=94,Ih1:=93,Ig5:=92,Ih4:=58,Ii3:=57,Ic1:=99,Ic4:=59,If7:=109,Id9:=95,Ib6:=110,Ic3:=148,Id1:=97,Ig8:=101,Ib5:=96,Hw9:=21,Hv8:=16,Hy2:=17,Hv7:=18,Hw1:=11,Hy1:=12,Ik2:=52,Hx5:=27,Hv6:=47,Hx1:=41,Hw8:=42,Hy7:=15,Il3:=30,Hv0:=5,Ie4:=9,Id6:=10,Ij0:=29,Ia5:=112,Ih5:=120,Ig3:=162,Id7:=61,Ia0:=113,Ic7:=36,Ie9:=39,Ia1:=66,Hy9:=72,Hz6:=67,Hy5:=70,Ic5:=63,Id5:=62,Ia7:=68,Hy3:=114,If1:=65,Hw4:=64,Hx4:=69,Ih9:=38,Hx9:=40,Id4:=37,Ie6:=118,If0:=74,Hz4:=117,If9:=73,Id2:=115,Ij2:=163,Hx3:=116,Id0:=119,Il5:=71,Ii4:=84,Ia6:=132,Ig4:=166,Hy8:=181,If3:=133,Ib4:=182,Ib1:=134,Ih7:=135,Ih2:=136,Ik9:=167,Ig9:=49,Ic8:=60,Ij3:=111,Id8:=79,Ig7:=81,Hx2:=80,Id3:=122,Ic9:=46,Ij5:=123,Ig2:=124,Ig1:=14,Ig6:=20,Ie3:=23,Ib9:=35,Ii7:=34,If8:=45,Hx6:=76,Ig0:=83,Hv4:=164,Hu7:=75,Hu5:=131,Ia8:=140,Ih3:=184,Ia2:=91,Hz8:=90,Ia4:=141,Hw6:=127,Hu9:=152,Hu4:=142,Ic0:=169,Ib2:=171,Hv1:=183,Hv9:=53,Hz0:=89,Il2:=100,Ik1:=138,Ij9:=177,Ie8:=147,Ij8:=106,Ik0:=102,Il7:=98,Ij4:=145,Im1:=143,Il6:=104,Hy6:=159,Hw5:=144,Ii8:=108,Il4:=105,Hu6:=146,Ie2:=103,Ii9:=149,Ik6:=172,Im0:=173,Hz3:=13,Hy0:=19,Hw0:=22,Hv3:=32,Ic2:=31,Hz1:=43,If5:=82,Hw7:=126,Hz9:=128,Hw2:=129,Ia9:=130,Ib7:=165,Ie0:=125,Hu2:=86,Hu1:=88,Hu3:=137,Ic6:=51,Hv2:=50,Hx0:=25,Hz2:=87,Ib3:=85,Hv5:=33,Hu8:=56,Hx7:=54,Ia3:=55,Hz5:=44,Hw3:=78,Hy4:=48,Hx8:=77,Ib8:=121,Im4:=1 }
def tbl:List (Nat×TI):=
  [(2, { d := .int .i64,size:=1,bytes:=8,zero := .int .i64 0 }),
   (3, { d := .int .i64,size:=1,bytes:=8,zero := .int .i64 0 }),
   (4, { d := .bool,size:=1,bytes:=1,zero := .bool false }),
   (5, { d := .int .u8,size:=1,bytes:=1,zero := .int .u8 0 }),
   (9, { d := .string,size:=1,bytes:=16,zero := .string ByteArray.empty }),
   (22, { d := .slice 48,size:=1,bytes:=24,zero := .slice none 0 0 }),
   (24, { d := .struct [(3,0),(3,1),(22,2)],size:=3,bytes:=40,zero := .agg #[.int .i64 0,.int .i64 0,.slice none 0 0] }),
   (29, { d := .int .i64,size:=1,bytes:=8,zero := .int .i64 0 }),
   (30, { d := .tuple [22,29],size:=1,bytes:=0,zero := .tuple #[.slice none 0 0,.int .i64 0] }),
   (36, { d := .struct [(3,0),(22,1),(22,2)],size:=3,bytes:=56,zero := .agg #[.int .i64 0,.slice none 0 0,.slice none 0 0] }),
   (38, { d := .struct [(24,0),(36,3),(22,6),(22,7)],size:=8,bytes:=144,zero := .agg #[.int .i64 0,.int .i64 0,.slice none 0 0,.int .i64 0,.slice none 0 0,.slice none 0 0,.slice none 0 0,.slice none 0 0] }),
   (43, { d := .tuple [22,3,29],size:=1,bytes:=0,zero := .tuple #[.slice none 0 0,.int .i64 0,.int .i64 0] }),
   (48, { d := .float .f64,size:=1,bytes:=8,zero := .float .f64 0 }),
   (49, { d := .tuple [48,4],size:=1,bytes:=0,zero := .tuple #[.float .f64 0,.bool false] }),
   (59, { d := .tuple [24,36],size:=1,bytes:=0,zero := .tuple #[.agg #[.int .i64 0,.int .i64 0,.slice none 0 0],.agg #[.int .i64 0,.slice none 0 0,.slice none 0 0]] }),
   (62, { d := .tuple [48,29],size:=1,bytes:=0,zero := .tuple #[.float .f64 0,.int .i64 0] }),
   (64, { d := .int .i8,size:=1,bytes:=1,zero := .int .i8 0 }),
   (66, { d := .slice 85,size:=1,bytes:=24,zero := .slice none 0 0 }),
   (68, { d := .struct [(4,0),(66,1),(3,2)],size:=3,bytes:=40,zero := .agg #[.bool false,.slice none 0 0,.int .i64 0] }),
   (77, { d := .slice 22,size:=1,bytes:=24,zero := .slice none 0 0 }),
   (78, { d := .struct [(4,0),(66,1),(3,2)],size:=3,bytes:=40,zero := .agg #[.bool false,.slice none 0 0,.int .i64 0] }),
   (80, { d := .tuple [78,29],size:=1,bytes:=0,zero := .tuple #[.agg #[.bool false,.slice none 0 0,.int .i64 0],.int .i64 0] }),
   (83, { d := .func,size:=1,bytes:=8,zero := .nilFunc }),
   (85, { d := .int .u64,size:=1,bytes:=8,zero := .int .u64 0 }),
   (87, { d := .struct [(4,0),(85,1),(3,2)],size:=3,bytes:=24,zero := .agg #[.bool false,.int .u64 0,.int .i64 0] }),
   (88, { d := .tuple [87,4],size:=1,bytes:=0,zero := .tuple #[.agg #[.bool false,.int .u64 0,.int .i64 0],.bool false] }),
   (95, { d := .tuple [66,4],size:=1,bytes:=0,zero := .tuple #[.slice none 0 0,.bool false] }),
   (104, { d := .func,size:=1,bytes:=8,zero := .nilFunc }),
   (115, { d := .ptr 124,size:=1,bytes:=8,zero := .pointer none }),
   (122, { d := .slice 159,size:=1,bytes:=24,zero := .slice none 0 0 }),
   (124, { d := .struct [(4,0),(122,1)],size:=2,bytes:=32,zero := .agg #[.bool false,.slice none 0 0] }),
   (126, { d := .int .u64,size:=1,bytes:=8,zero := .int .u64 0 }),
   (131, { d := .tuple [4,3,85],size:=1,bytes:=0,zero := .tuple #[.bool false,.int .i64 0,.int .u64 0] }),
   (135, { d := .tuple [66,85],size:=1,bytes:=0,zero := .tuple #[.slice none 0 0,.int .u64 0] }),
   (148, { d := .tuple [48,3],size:=1,bytes:=0,zero := .tuple #[.float .f64 0,.int .i64 0] }),
   (159, { d := .int .u32,size:=1,bytes:=4,zero := .int .u32 0 }),
   (160, { d := .tuple [4,122],size:=1,bytes:=0,zero := .tuple #[.bool false,.slice none 0 0] }),
   (164, { d := .array 64 5,size:=64,bytes:=64,zero := .agg #[.int .u8 0,.int .u8 0,.int .u8 0,.int .u8 0,.int .u8 0,.int .u8 0,.int .u8 0,.int .u8 0,.int .u8 0,.int .u8 0,.int .u8 0,.int .u8 0,.int .u8 0,.int .u8 0,.int .u8 0,.int .u8 0,.int .u8 0,.int .u8 0,.int .u8 0,.int .u8 0,.int .u8 0,.int .u8 0,.int .u8 0,.int .u8 0,.int .u8 0,.int .u8 0,.int .u8 0,.int .u8 0,.int .u8 0,.int .u8 0,.int .u8 0,.int .u8 0,.int .u8 0,.int .u8 0,.int .u8 0,.int .u8 0,.int .u8 0,.int .u8 0,.int .u8 0,.int .u8 0,.int .u8 0,.int .u8 0,.int .u8 0,.int .u8 0,.int .u8 0,.int .u8 0,.int .u8 0,.int .u8 0,.int .u8 0,.int .u8 0,.int .u8 0,.int .u8 0,.int .u8 0,.int .u8 0,.int .u8 0,.int .u8 0,.int .u8 0,.int .u8 0,.int .u8 0,.int .u8 0,.int .u8 0,.int .u8 0,.int .u8 0,.int .u8 0] }),
   (170, { d := .tuple [2,4],size:=1,bytes:=0,zero := .tuple #[.int .i64 0,.bool false] })]
theorem Ht6:TIOk Go.Proofs.Tryz.prog 2 { d := .int .i64,size:=1,bytes:=8,zero := .int .i64 0 }:=
  Ae1 (i:=Go.Proofs.Tryz.t2) (d:=Go.Proofs.Tryz.t2.desc) (by kernel_rfl) (by kernel_rfl) (by kernel_rfl) (by kernel_rfl) (by kernel_rfl) (by kernel_rfl)
theorem Ht0:TIOk Go.Proofs.Tryz.prog 3 { d := .int .i64,size:=1,bytes:=8,zero := .int .i64 0 }:=
  Ae1 (i:=Go.Proofs.Tryz.t3) (d:=Go.Proofs.Tryz.t3.desc) (by kernel_rfl) (by kernel_rfl) (by kernel_rfl) (by kernel_rfl) (by kernel_rfl) (by kernel_rfl)
theorem Ht1:TIOk Go.Proofs.Tryz.prog 4 { d := .bool,size:=1,bytes:=1,zero := .bool false }:=
  Ae1 (i:=Go.Proofs.Tryz.t4) (d:=Go.Proofs.Tryz.t4.desc) (by kernel_rfl) (by kernel_rfl) (by kernel_rfl) (by kernel_rfl) (by kernel_rfl) (by kernel_rfl)
theorem Ht4:TIOk Go.Proofs.Tryz.prog 5 { d := .int .u8,size:=1,bytes:=1,zero := .int .u8 0 }:=
  Ae1 (i:=Go.Proofs.Tryz.t5) (d:=Go.Proofs.Tryz.t5.desc) (by kernel_rfl) (by kernel_rfl) (by kernel_rfl) (by kernel_rfl) (by kernel_rfl) (by kernel_rfl)
theorem Ht5:TIOk Go.Proofs.Tryz.prog 9 { d := .string,size:=1,bytes:=16,zero := .string ByteArray.empty }:=
  Ae1 (i:=Go.Proofs.Tryz.t9) (d:=Go.Proofs.Tryz.t9.desc) (by kernel_rfl) (by kernel_rfl) (by kernel_rfl) (by kernel_rfl) (by kernel_rfl) (by kernel_rfl)
theorem Hm9:TIOk Go.Proofs.Tryz.prog 22 { d := .slice 48,size:=1,bytes:=24,zero := .slice none 0 0 }:=
  Ae1 (i:=Go.Proofs.Tryz.t22) (d:=Go.Proofs.Tryz.t22.desc) (by kernel_rfl) (by kernel_rfl) (by kernel_rfl) (by kernel_rfl) (by kernel_rfl) (by kernel_rfl)
theorem Hq9:TIOk Go.Proofs.Tryz.prog 24 { d := .struct [(3,0),(3,1),(22,2)],size:=3,bytes:=40,zero := .agg #[.int .i64 0,.int .i64 0,.slice none 0 0] }:=
  Ae1 (i:=Go.Proofs.Tryz.t24) (d:=Go.Proofs.Tryz.t23.desc) (by kernel_rfl) (by kernel_rfl) (by kernel_rfl) (by kernel_rfl) (by kernel_rfl) (by kernel_rfl)
theorem Ho7:TIOk Go.Proofs.Tryz.prog 29 { d := .int .i64,size:=1,bytes:=8,zero := .int .i64 0 }:=
  Ae1 (i:=Go.Proofs.Tryz.t29) (d:=Go.Proofs.Tryz.t3.desc) (by kernel_rfl) (by kernel_rfl) (by kernel_rfl) (by kernel_rfl) (by kernel_rfl) (by kernel_rfl)
theorem Ho9:TIOk Go.Proofs.Tryz.prog 30 { d := .tuple [22,29],size:=1,bytes:=0,zero := .tuple #[.slice none 0 0,.int .i64 0] }:=
  Ae1 (i:=Go.Proofs.Tryz.t30) (d:=Go.Proofs.Tryz.t30.desc) (by kernel_rfl) (by kernel_rfl) (by kernel_rfl) (by kernel_rfl) (by kernel_rfl) (by kernel_rfl)
theorem Hp4:TIOk Go.Proofs.Tryz.prog 36 { d := .struct [(3,0),(22,1),(22,2)],size:=3,bytes:=56,zero := .agg #[.int .i64 0,.slice none 0 0,.slice none 0 0] }:=
  Ae1 (i:=Go.Proofs.Tryz.t36) (d:=Go.Proofs.Tryz.t35.desc) (by kernel_rfl) (by kernel_rfl) (by kernel_rfl) (by kernel_rfl) (by kernel_rfl) (by kernel_rfl)
theorem Hq2:TIOk Go.Proofs.Tryz.prog 38 { d := .struct [(24,0),(36,3),(22,6),(22,7)],size:=8,bytes:=144,zero := .agg #[.int .i64 0,.int .i64 0,.slice none 0 0,.int .i64 0,.slice none 0 0,.slice none 0 0,.slice none 0 0,.slice none 0 0] }:=
  Ae1 (i:=Go.Proofs.Tryz.t38) (d:=Go.Proofs.Tryz.t37.desc) (by kernel_rfl) (by kernel_rfl) (by kernel_rfl) (by kernel_rfl) (by kernel_rfl) (by kernel_rfl)
theorem Hq5:TIOk Go.Proofs.Tryz.prog 43 { d := .tuple [22,3,29],size:=1,bytes:=0,zero := .tuple #[.slice none 0 0,.int .i64 0,.int .i64 0] }:=
  Ae1 (i:=Go.Proofs.Tryz.t43) (d:=Go.Proofs.Tryz.t43.desc) (by kernel_rfl) (by kernel_rfl) (by kernel_rfl) (by kernel_rfl) (by kernel_rfl) (by kernel_rfl)
theorem Hn7:TIOk Go.Proofs.Tryz.prog 48 { d := .float .f64,size:=1,bytes:=8,zero := .float .f64 0 }:=
  Ae1 (i:=Go.Proofs.Tryz.t48) (d:=Go.Proofs.Tryz.t48.desc) (by kernel_rfl) (by kernel_rfl) (by kernel_rfl) (by kernel_rfl) (by kernel_rfl) (by kernel_rfl)
theorem Ho5:TIOk Go.Proofs.Tryz.prog 49 { d := .tuple [48,4],size:=1,bytes:=0,zero := .tuple #[.float .f64 0,.bool false] }:=
  Ae1 (i:=Go.Proofs.Tryz.t49) (d:=Go.Proofs.Tryz.t49.desc) (by kernel_rfl) (by kernel_rfl) (by kernel_rfl) (by kernel_rfl) (by kernel_rfl) (by kernel_rfl)
theorem Hr7:TIOk Go.Proofs.Tryz.prog 59 { d := .tuple [24,36],size:=1,bytes:=0,zero := .tuple #[.agg #[.int .i64 0,.int .i64 0,.slice none 0 0],.agg #[.int .i64 0,.slice none 0 0,.slice none 0 0]] }:=
  Ae1 (i:=Go.Proofs.Tryz.t59) (d:=Go.Proofs.Tryz.t59.desc) (by kernel_rfl) (by kernel_rfl) (by kernel_rfl) (by kernel_rfl) (by kernel_rfl) (by kernel_rfl)
theorem Hm5:TIOk Go.Proofs.Tryz.prog 62 { d := .tuple [48,29],size:=1,bytes:=0,zero := .tuple #[.float .f64 0,.int .i64 0] }:=
  Ae1 (i:=Go.Proofs.Tryz.t62) (d:=Go.Proofs.Tryz.t62.desc) (by kernel_rfl) (by kernel_rfl) (by kernel_rfl) (by kernel_rfl) (by kernel_rfl) (by kernel_rfl)
theorem Ho3:TIOk Go.Proofs.Tryz.prog 64 { d := .int .i8,size:=1,bytes:=1,zero := .int .i8 0 }:=
  Ae1 (i:=Go.Proofs.Tryz.t64) (d:=Go.Proofs.Tryz.t52.desc) (by kernel_rfl) (by kernel_rfl) (by kernel_rfl) (by kernel_rfl) (by kernel_rfl) (by kernel_rfl)
theorem Hn8:TIOk Go.Proofs.Tryz.prog 66 { d := .slice 85,size:=1,bytes:=24,zero := .slice none 0 0 }:=
  Ae1 (i:=Go.Proofs.Tryz.t66) (d:=Go.Proofs.Tryz.t66.desc) (by kernel_rfl) (by kernel_rfl) (by kernel_rfl) (by kernel_rfl) (by kernel_rfl) (by kernel_rfl)
theorem Hp6:TIOk Go.Proofs.Tryz.prog 68 { d := .struct [(4,0),(66,1),(3,2)],size:=3,bytes:=40,zero := .agg #[.bool false,.slice none 0 0,.int .i64 0] }:=
  Ae1 (i:=Go.Proofs.Tryz.t68) (d:=Go.Proofs.Tryz.t67.desc) (by kernel_rfl) (by kernel_rfl) (by kernel_rfl) (by kernel_rfl) (by kernel_rfl) (by kernel_rfl)
theorem Hq0:TIOk Go.Proofs.Tryz.prog 77 { d := .slice 22,size:=1,bytes:=24,zero := .slice none 0 0 }:=
  Ae1 (i:=Go.Proofs.Tryz.t77) (d:=Go.Proofs.Tryz.t77.desc) (by kernel_rfl) (by kernel_rfl) (by kernel_rfl) (by kernel_rfl) (by kernel_rfl) (by kernel_rfl)
theorem Hp2:TIOk Go.Proofs.Tryz.prog 78 { d := .struct [(4,0),(66,1),(3,2)],size:=3,bytes:=40,zero := .agg #[.bool false,.slice none 0 0,.int .i64 0] }:=
  Ae1 (i:=Go.Proofs.Tryz.t78) (d:=Go.Proofs.Tryz.t67.desc) (by kernel_rfl) (by kernel_rfl) (by kernel_rfl) (by kernel_rfl) (by kernel_rfl) (by kernel_rfl)
theorem Hq4:TIOk Go.Proofs.Tryz.prog 80 { d := .tuple [78,29],size:=1,bytes:=0,zero := .tuple #[.agg #[.bool false,.slice none 0 0,.int .i64 0],.int .i64 0] }:=
  Ae1 (i:=Go.Proofs.Tryz.t80) (d:=Go.Proofs.Tryz.t80.desc) (by kernel_rfl) (by kernel_rfl) (by kernel_rfl) (by kernel_rfl) (by kernel_rfl) (by kernel_rfl)
theorem Hm7:TIOk Go.Proofs.Tryz.prog 83 { d := .func,size:=1,bytes:=8,zero := .nilFunc }:=
  Ae1 (i:=Go.Proofs.Tryz.t83) (d:=Go.Proofs.Tryz.t83.desc) (by kernel_rfl) (by kernel_rfl) (by kernel_rfl) (by kernel_rfl) (by kernel_rfl) (by kernel_rfl)
theorem Hn5:TIOk Go.Proofs.Tryz.prog 85 { d := .int .u64,size:=1,bytes:=8,zero := .int .u64 0 }:=
  Ae1 (i:=Go.Proofs.Tryz.t85) (d:=Go.Proofs.Tryz.t85.desc) (by kernel_rfl) (by kernel_rfl) (by kernel_rfl) (by kernel_rfl) (by kernel_rfl) (by kernel_rfl)
theorem Hr0:TIOk Go.Proofs.Tryz.prog 87 { d := .struct [(4,0),(85,1),(3,2)],size:=3,bytes:=24,zero := .agg #[.bool false,.int .u64 0,.int .i64 0] }:=
  Ae1 (i:=Go.Proofs.Tryz.t87) (d:=Go.Proofs.Tryz.t86.desc) (by kernel_rfl) (by kernel_rfl) (by kernel_rfl) (by kernel_rfl) (by kernel_rfl) (by kernel_rfl)
theorem Hq1:TIOk Go.Proofs.Tryz.prog 88 { d := .tuple [87,4],size:=1,bytes:=0,zero := .tuple #[.agg #[.bool false,.int .u64 0,.int .i64 0],.bool false] }:=
  Ae1 (i:=Go.Proofs.Tryz.t88) (d:=Go.Proofs.Tryz.t88.desc) (by kernel_rfl) (by kernel_rfl) (by kernel_rfl) (by kernel_rfl) (by kernel_rfl) (by kernel_rfl)
theorem Hm6:TIOk Go.Proofs.Tryz.prog 95 { d := .tuple [66,4],size:=1,bytes:=0,zero := .tuple #[.slice none 0 0,.bool false] }:=
  Ae1 (i:=Go.Proofs.Tryz.t95) (d:=Go.Proofs.Tryz.t95.desc) (by kernel_rfl) (by kernel_rfl) (by kernel_rfl) (by kernel_rfl) (by kernel_rfl) (by kernel_rfl)
theorem Hg1:TIOk Go.Proofs.Tryz.prog 104 { d := .func,size:=1,bytes:=8,zero := .nilFunc }:=
  Ae1 (i:=Go.Proofs.Tryz.t104) (d:=Go.Proofs.Tryz.t104.desc) (by kernel_rfl) (by kernel_rfl) (by kernel_rfl) (by kernel_rfl) (by kernel_rfl) (by kernel_rfl)
theorem Hh0:TIOk Go.Proofs.Tryz.prog 115 { d := .ptr 124,size:=1,bytes:=8,zero := .pointer none }:=
  Ae1 (i:=Go.Proofs.Tryz.t115) (d:=Go.Proofs.Tryz.t115.desc) (by kernel_rfl) (by kernel_rfl) (by kernel_rfl) (by kernel_rfl) (by kernel_rfl) (by kernel_rfl)
theorem He8:TIOk Go.Proofs.Tryz.prog 122 { d := .slice 159,size:=1,bytes:=24,zero := .slice none 0 0 }:=
  Ae1 (i:=Go.Proofs.Tryz.t122) (d:=Go.Proofs.Tryz.t122.desc) (by kernel_rfl) (by kernel_rfl) (by kernel_rfl) (by kernel_rfl) (by kernel_rfl) (by kernel_rfl)
theorem Hi1:TIOk Go.Proofs.Tryz.prog 124 { d := .struct [(4,0),(122,1)],size:=2,bytes:=32,zero := .agg #[.bool false,.slice none 0 0] }:=
  Ae1 (i:=Go.Proofs.Tryz.t124) (d:=Go.Proofs.Tryz.t123.desc) (by kernel_rfl) (by kernel_rfl) (by kernel_rfl) (by kernel_rfl) (by kernel_rfl) (by kernel_rfl)
theorem Hg4:TIOk Go.Proofs.Tryz.prog 126 { d := .int .u64,size:=1,bytes:=8,zero := .int .u64 0 }:=
  Ae1 (i:=Go.Proofs.Tryz.t126) (d:=Go.Proofs.Tryz.t126.desc) (by kernel_rfl) (by kernel_rfl) (by kernel_rfl) (by kernel_rfl) (by kernel_rfl) (by kernel_rfl)
theorem Hf1:TIOk Go.Proofs.Tryz.prog 131 { d := .tuple [4,3,85],size:=1,bytes:=0,zero := .tuple #[.bool false,.int .i64 0,.int .u64 0] }:=
  Ae1 (i:=Go.Proofs.Tryz.t131) (d:=Go.Proofs.Tryz.t131.desc) (by kernel_rfl) (by kernel_rfl) (by kernel_rfl) (by kernel_rfl) (by kernel_rfl) (by kernel_rfl)
theorem Hk9:TIOk Go.Proofs.Tryz.prog 135 { d := .tuple [66,85],size:=1,bytes:=0,zero := .tuple #[.slice none 0 0,.int .u64 0] }:=
  Ae1 (i:=Go.Proofs.Tryz.t135) (d:=Go.Proofs.Tryz.t135.desc) (by kernel_rfl) (by kernel_rfl) (by kernel_rfl) (by kernel_rfl) (by kernel_rfl) (by kernel_rfl)
theorem Hk2:TIOk Go.Proofs.Tryz.prog 148 { d := .tuple [48,3],size:=1,bytes:=0,zero := .tuple #[.float .f64 0,.int .i64 0] }:=
  Ae1 (i:=Go.Proofs.Tryz.t148) (d:=Go.Proofs.Tryz.t148.desc) (by kernel_rfl) (by kernel_rfl) (by kernel_rfl) (by kernel_rfl) (by kernel_rfl) (by kernel_rfl)
theorem Hk1:TIOk Go.Proofs.Tryz.prog 159 { d := .int .u32,size:=1,bytes:=4,zero := .int .u32 0 }:=
  Ae1 (i:=Go.Proofs.Tryz.t159) (d:=Go.Proofs.Tryz.t159.desc) (by kernel_rfl) (by kernel_rfl) (by kernel_rfl) (by kernel_rfl) (by kernel_rfl) (by kernel_rfl)
theorem Hk6:TIOk Go.Proofs.Tryz.prog 160 { d := .tuple [4,122],size:=1,bytes:=0,zero := .tuple #[.bool false,.slice none 0 0] }:=
  Ae1 (i:=Go.Proofs.Tryz.t160) (d:=Go.Proofs.Tryz.t160.desc) (by kernel_rfl) (by kernel_rfl) (by kernel_rfl) (by kernel_rfl) (by kernel_rfl) (by kernel_rfl)
theorem Hd5:TIOk Go.Proofs.Tryz.prog 164 { d := .array 64 5,size:=64,bytes:=64,zero := .agg #[.int .u8 0,.int .u8 0,.int .u8 0,.int .u8 0,.int .u8 0,.int .u8 0,.int .u8 0,.int .u8 0,.int .u8 0,.int .u8 0,.int .u8 0,.int .u8 0,.int .u8 0,.int .u8 0,.int .u8 0,.int .u8 0,.int .u8 0,.int .u8 0,.int .u8 0,.int .u8 0,.int .u8 0,.int .u8 0,.int .u8 0,.int .u8 0,.int .u8 0,.int .u8 0,.int .u8 0,.int .u8 0,.int .u8 0,.int .u8 0,.int .u8 0,.int .u8 0,.int .u8 0,.int .u8 0,.int .u8 0,.int .u8 0,.int .u8 0,.int .u8 0,.int .u8 0,.int .u8 0,.int .u8 0,.int .u8 0,.int .u8 0,.int .u8 0,.int .u8 0,.int .u8 0,.int .u8 0,.int .u8 0,.int .u8 0,.int .u8 0,.int .u8 0,.int .u8 0,.int .u8 0,.int .u8 0,.int .u8 0,.int .u8 0,.int .u8 0,.int .u8 0,.int .u8 0,.int .u8 0,.int .u8 0,.int .u8 0,.int .u8 0,.int .u8 0] }:=
  Ae1 (i:=Go.Proofs.Tryz.t164) (d:=Go.Proofs.Tryz.t164.desc) (by kernel_rfl) (by kernel_rfl) (by kernel_rfl) (by kernel_rfl) (by kernel_rfl) (by kernel_rfl)
theorem Hh5:TIOk Go.Proofs.Tryz.prog 170 { d := .tuple [2,4],size:=1,bytes:=0,zero := .tuple #[.int .i64 0,.bool false] }:=
  Ae1 (i:=Go.Proofs.Tryz.t170) (d:=Go.Proofs.Tryz.t170.desc) (by kernel_rfl) (by kernel_rfl) (by kernel_rfl) (by kernel_rfl) (by kernel_rfl) (by kernel_rfl)
theorem tok:TOk Go.Proofs.Tryz.prog (Fd8 tbl):=Cz3 (l:=tbl) ⟨Ht6,Ht0,Ht1,Ht4,Ht5,Hm9,Hq9,Ho7,Ho9,Hp4,Hq2,Hq5,Hn7,Ho5,Hr7,Hm5,Ho3,Hn8,Hp6,Hq0,Hp2,Hq4,Hm7,Hn5,Hr0,Hq1,Hm6,Hg1,Hh0,He8,Hi1,Hg4,Hf1,Hk9,Hk2,Hk1,Hk6,Hd5,Hh5,True.intro⟩
theorem Hr4:Cm5 (Fd8 tbl):=Gm9 (by kernel_rfl)
theorem Hm2:Go.Proofs.Tryz.prog.follows .mixedOrders=true:=by kernel_rfl
end Go.Eng
