/-
  The types of this program, and the numbers of its types and functions. No condition.
-/
import Derived.Test.YtlnelldekejadaaGreatTbl
import Derived.Test.YtlnelldekejadaaGreatNm
import Derived.Test.YtlnelldekejadaaGreatProg
import Derived.KernelRfl
set_option linter.all false
set_option maxRecDepth 100000
namespace Go.Eng
open Go
def Af6:Nums:={ t_:=0,Hs7:=27,Dj1:=67,Hs3:=24,Gg5:=34,Fu9:=22,Ct0:=39,Da2:=49,Ee3:=55,Ex8:=76,Hl3:=64,Ev2:=88,Bs3:=127,Ca2:=134,Ev3:=25,Cl5:=120,By9:=131,Hs2:=33,Dc9:=35,Hr0:=90,Gv0:=4,Cl8:=105,Cc8:=62,Hp2:=57,Hi4:=51,Bs1:=52,Gw4:=3,Hs4:=2,Ec0:=37,Ev4:=112,Ho7:=66,Cz8:=114,Cl9:=86,Fw6:=9,Go6:=83,Hq9:=111,Hr2:=78,Gd7:=5,Hm0:=57,Hq1:=90,Hr7:=88,Hr8:=107,Hp9:=112,Hp7:=106,Hl9:=89,Hq2:=95,Hn8:=119,Ho3:=91,Ho0:=120,Hq4:=92,Hr5:=87,Hp6:=111,Hp1:=102,Ho6:=110,Hn9:=43,Hn2:=74,Hk6:=32,Hl5:=78,Hl0:=117,Hm1:=103,Ho9:=79,Hk2:=80,Hk1:=20,Hh4:=19,Hj5:=46,Hj9:=47,Hk5:=7,Hh1:=6,Hj1:=23,Hj3:=24,Hk7:=39,Hh2:=45,Hi8:=14,Hj2:=76,Hs1:=49,Hk3:=48,Hg8:=3,Hn5:=5,Hm3:=4,Hr9:=21,Hj7:=44,Ho2:=34,Hp4:=22,Hn6:=62,Hk8:=98,Hj6:=66,Hl2:=99,Hi9:=104,Hl1:=101,Hm5:=63,Hk4:=100,Hj4:=69,Hn0:=97,Ho8:=75,Hi3:=67,Hi0:=64,Hk0:=83,Ho5:=61,Hm8:=33,Hl7:=68,Ho1:=38,Hl8:=28,Hn3:=115,Hk9:=113,Hm9:=114,Hp3:=121,Hj0:=116,Hm7:=118,Hn7:=11,Hg7:=31,Hj8:=27,Ho4:=13,Hn4:=16,Hl6:=9,Hh6:=18,Hp0:=29,Hm6:=30,Hm2:=65,Hh7:=10,Hi2:=12,Hh9:=15,Hg9:=42,Hh5:=8,Hg6:=17,Hi6:=40,Hh3:=25,Hi1:=36,Hh8:=51,Hh0:=105,Hq3:=72,Hq0:=70,Hr6:=122,Hm4:=55,Hr4:=82,Hq5:=81,Hq7:=59,Hq8:=71,Hs6:=84,Hs0:=60,Hl4:=96,Hr1:=56,Hi7:=93,Hi5:=85,Hp5:=53,Hq6:=52,Hg4:=54,Hn1:=73,Hp8:=86,Hr3:=108,Hs5:=109,Hg1:=35,Hg5:=94,Hg2:=58,Hg3:=26,Hg0:=50,Hf7:=41,Hf8:=77,Hf9:=37 }
def tbl:List (Nat×TI):=
  [(0, { d := .tuple [],size:=1,bytes:=0,zero := .tuple #[] }),
   (2, { d := .int .i64,size:=1,bytes:=8,zero := .int .i64 0 }),
   (3, { d := .int .i64,size:=1,bytes:=8,zero := .int .i64 0 }),
   (4, { d := .bool,size:=1,bytes:=1,zero := .bool false }),
   (5, { d := .int .u8,size:=1,bytes:=1,zero := .int .u8 0 }),
   (9, { d := .string,size:=1,bytes:=16,zero := .string ByteArray.empty }),
   (22, { d := .slice 27,size:=1,bytes:=24,zero := .slice none 0 0 }),
   (24, { d := .struct [(3,0),(3,1),(22,2)],size:=3,bytes:=40,zero := .agg #[.int .i64 0,.int .i64 0,.slice none 0 0] }),
   (25, { d := .slice 78,size:=1,bytes:=24,zero := .slice none 0 0 }),
   (27, { d := .struct [(4,0),(25,1),(3,2)],size:=3,bytes:=40,zero := .agg #[.bool false,.slice none 0 0,.int .i64 0] }),
   (33, { d := .struct [(3,0),(3,1),(3,2)],size:=3,bytes:=24,zero := .agg #[.int .i64 0,.int .i64 0,.int .i64 0],eq3:=true }),
   (34, { d := .int .i64,size:=1,bytes:=8,zero := .int .i64 0 }),
   (35, { d := .tuple [33,34],size:=1,bytes:=0,zero := .tuple #[.agg #[.int .i64 0,.int .i64 0,.int .i64 0],.int .i64 0] }),
   (37, { d := .tuple [3,34],size:=1,bytes:=0,zero := .tuple #[.int .i64 0,.int .i64 0] }),
   (39, { d := .tuple [22,34],size:=1,bytes:=0,zero := .tuple #[.slice none 0 0,.int .i64 0] }),
   (49, { d := .slice 64,size:=1,bytes:=24,zero := .slice none 0 0 }),
   (51, { d := .struct [(49,0),(3,1)],size:=2,bytes:=32,zero := .agg #[.slice none 0 0,.int .i64 0] }),
   (52, { d := .tuple [51,4],size:=1,bytes:=0,zero := .tuple #[.agg #[.slice none 0 0,.int .i64 0],.bool false] }),
   (55, { d := .slice 57,size:=1,bytes:=24,zero := .slice none 0 0 }),
   (57, { d := .struct [(4,0),(25,1),(3,2)],size:=3,bytes:=40,zero := .agg #[.bool false,.slice none 0 0,.int .i64 0] }),
   (62, { d := .func,size:=1,bytes:=8,zero := .nilFunc }),
   (64, { d := .slice 66,size:=1,bytes:=24,zero := .slice none 0 0 }),
   (66, { d := .ptr 90,size:=1,bytes:=8,zero := .pointer none }),
   (67, { d := .tuple [27,34],size:=1,bytes:=0,zero := .tuple #[.agg #[.bool false,.slice none 0 0,.int .i64 0],.int .i64 0] }),
   (76, { d := .slice 2,size:=1,bytes:=24,zero := .slice none 0 0 }),
   (78, { d := .int .u64,size:=1,bytes:=8,zero := .int .u64 0 }),
   (83, { d := .int .u64,size:=1,bytes:=8,zero := .int .u64 0 }),
   (86, { d := .ptr 51,size:=1,bytes:=8,zero := .pointer none }),
   (88, { d := .slice 111,size:=1,bytes:=24,zero := .slice none 0 0 }),
   (90, { d := .struct [(4,0),(88,1)],size:=2,bytes:=32,zero := .agg #[.bool false,.slice none 0 0] }),
   (105, { d := .tuple [4,88],size:=1,bytes:=0,zero := .tuple #[.bool false,.slice none 0 0] }),
   (111, { d := .int .u32,size:=1,bytes:=4,zero := .int .u32 0 }),
   (112, { d := .tuple [3,3],size:=1,bytes:=0,zero := .tuple #[.int .i64 0,.int .i64 0] }),
   (114, { d := .tuple [66,66],size:=1,bytes:=0,zero := .tuple #[.pointer none,.pointer none] }),
   (120, { d := .tuple [25,4],size:=1,bytes:=0,zero := .tuple #[.slice none 0 0,.bool false] }),
   (127, { d := .tuple [88,88],size:=1,bytes:=0,zero := .tuple #[.slice none 0 0,.slice none 0 0] }),
   (131, { d := .tuple [25,78],size:=1,bytes:=0,zero := .tuple #[.slice none 0 0,.int .u64 0] }),
   (134, { d := .tuple [88,111],size:=1,bytes:=0,zero := .tuple #[.slice none 0 0,.int .u32 0] })]
theorem He3:TIOk Go.Proofs.Tryz.prog 0 { d := .tuple [],size:=1,bytes:=0,zero := .tuple #[] }:=
  Ad5 (i:=Go.Proofs.Tryz.t0) (d:=Go.Proofs.Tryz.t0.desc) (by kernel_rfl) (by kernel_rfl) (by kernel_rfl) (by kernel_rfl) (by kernel_rfl) (by kernel_rfl)
theorem He7:TIOk Go.Proofs.Tryz.prog 2 { d := .int .i64,size:=1,bytes:=8,zero := .int .i64 0 }:=
  Ad5 (i:=Go.Proofs.Tryz.t2) (d:=Go.Proofs.Tryz.t2.desc) (by kernel_rfl) (by kernel_rfl) (by kernel_rfl) (by kernel_rfl) (by kernel_rfl) (by kernel_rfl)
theorem He0:TIOk Go.Proofs.Tryz.prog 3 { d := .int .i64,size:=1,bytes:=8,zero := .int .i64 0 }:=
  Ad5 (i:=Go.Proofs.Tryz.t3) (d:=Go.Proofs.Tryz.t3.desc) (by kernel_rfl) (by kernel_rfl) (by kernel_rfl) (by kernel_rfl) (by kernel_rfl) (by kernel_rfl)
theorem Hf4:TIOk Go.Proofs.Tryz.prog 4 { d := .bool,size:=1,bytes:=1,zero := .bool false }:=
  Ad5 (i:=Go.Proofs.Tryz.t4) (d:=Go.Proofs.Tryz.t4.desc) (by kernel_rfl) (by kernel_rfl) (by kernel_rfl) (by kernel_rfl) (by kernel_rfl) (by kernel_rfl)
theorem He6:TIOk Go.Proofs.Tryz.prog 5 { d := .int .u8,size:=1,bytes:=1,zero := .int .u8 0 }:=
  Ad5 (i:=Go.Proofs.Tryz.t5) (d:=Go.Proofs.Tryz.t5.desc) (by kernel_rfl) (by kernel_rfl) (by kernel_rfl) (by kernel_rfl) (by kernel_rfl) (by kernel_rfl)
theorem Hf3:TIOk Go.Proofs.Tryz.prog 9 { d := .string,size:=1,bytes:=16,zero := .string ByteArray.empty }:=
  Ad5 (i:=Go.Proofs.Tryz.t9) (d:=Go.Proofs.Tryz.t9.desc) (by kernel_rfl) (by kernel_rfl) (by kernel_rfl) (by kernel_rfl) (by kernel_rfl) (by kernel_rfl)
theorem Hb5:TIOk Go.Proofs.Tryz.prog 22 { d := .slice 27,size:=1,bytes:=24,zero := .slice none 0 0 }:=
  Ad5 (i:=Go.Proofs.Tryz.t22) (d:=Go.Proofs.Tryz.t22.desc) (by kernel_rfl) (by kernel_rfl) (by kernel_rfl) (by kernel_rfl) (by kernel_rfl) (by kernel_rfl)
theorem Hc5:TIOk Go.Proofs.Tryz.prog 24 { d := .struct [(3,0),(3,1),(22,2)],size:=3,bytes:=40,zero := .agg #[.int .i64 0,.int .i64 0,.slice none 0 0] }:=
  Ad5 (i:=Go.Proofs.Tryz.t24) (d:=Go.Proofs.Tryz.t23.desc) (by kernel_rfl) (by kernel_rfl) (by kernel_rfl) (by kernel_rfl) (by kernel_rfl) (by kernel_rfl)
theorem Hb9:TIOk Go.Proofs.Tryz.prog 25 { d := .slice 78,size:=1,bytes:=24,zero := .slice none 0 0 }:=
  Ad5 (i:=Go.Proofs.Tryz.t25) (d:=Go.Proofs.Tryz.t25.desc) (by kernel_rfl) (by kernel_rfl) (by kernel_rfl) (by kernel_rfl) (by kernel_rfl) (by kernel_rfl)
theorem Gv6:TIOk Go.Proofs.Tryz.prog 27 { d := .struct [(4,0),(25,1),(3,2)],size:=3,bytes:=40,zero := .agg #[.bool false,.slice none 0 0,.int .i64 0] }:=
  Ad5 (i:=Go.Proofs.Tryz.t27) (d:=Go.Proofs.Tryz.t26.desc) (by kernel_rfl) (by kernel_rfl) (by kernel_rfl) (by kernel_rfl) (by kernel_rfl) (by kernel_rfl)
theorem Gw6:TIOk Go.Proofs.Tryz.prog 33 { d := .struct [(3,0),(3,1),(3,2)],size:=3,bytes:=24,zero := .agg #[.int .i64 0,.int .i64 0,.int .i64 0],eq3:=true }:=
  Fq5 (i:=Go.Proofs.Tryz.t33) (d:=Go.Proofs.Tryz.t32.desc) (by kernel_rfl) (by kernel_rfl) (by kernel_rfl) (by kernel_rfl) (by kernel_rfl) (by kernel_rfl) (Gu8 Go.Proofs.Tryz.underlying33 (by kernel_rfl) (by kernel_rfl) (by kernel_rfl) (by kernel_rfl) (by kernel_rfl) (by kernel_rfl) (by kernel_rfl) (by kernel_rfl) (by kernel_rfl) (by kernel_rfl) (by kernel_rfl))
theorem Gx9:TIOk Go.Proofs.Tryz.prog 34 { d := .int .i64,size:=1,bytes:=8,zero := .int .i64 0 }:=
  Ad5 (i:=Go.Proofs.Tryz.t34) (d:=Go.Proofs.Tryz.t3.desc) (by kernel_rfl) (by kernel_rfl) (by kernel_rfl) (by kernel_rfl) (by kernel_rfl) (by kernel_rfl)
theorem Gx0:TIOk Go.Proofs.Tryz.prog 35 { d := .tuple [33,34],size:=1,bytes:=0,zero := .tuple #[.agg #[.int .i64 0,.int .i64 0,.int .i64 0],.int .i64 0] }:=
  Ad5 (i:=Go.Proofs.Tryz.t35) (d:=Go.Proofs.Tryz.t35.desc) (by kernel_rfl) (by kernel_rfl) (by kernel_rfl) (by kernel_rfl) (by kernel_rfl) (by kernel_rfl)
theorem Gx1:TIOk Go.Proofs.Tryz.prog 37 { d := .tuple [3,34],size:=1,bytes:=0,zero := .tuple #[.int .i64 0,.int .i64 0] }:=
  Ad5 (i:=Go.Proofs.Tryz.t37) (d:=Go.Proofs.Tryz.t37.desc) (by kernel_rfl) (by kernel_rfl) (by kernel_rfl) (by kernel_rfl) (by kernel_rfl) (by kernel_rfl)
theorem Ha5:TIOk Go.Proofs.Tryz.prog 39 { d := .tuple [22,34],size:=1,bytes:=0,zero := .tuple #[.slice none 0 0,.int .i64 0] }:=
  Ad5 (i:=Go.Proofs.Tryz.t39) (d:=Go.Proofs.Tryz.t39.desc) (by kernel_rfl) (by kernel_rfl) (by kernel_rfl) (by kernel_rfl) (by kernel_rfl) (by kernel_rfl)
theorem Gv9:TIOk Go.Proofs.Tryz.prog 49 { d := .slice 64,size:=1,bytes:=24,zero := .slice none 0 0 }:=
  Ad5 (i:=Go.Proofs.Tryz.t49) (d:=Go.Proofs.Tryz.t49.desc) (by kernel_rfl) (by kernel_rfl) (by kernel_rfl) (by kernel_rfl) (by kernel_rfl) (by kernel_rfl)
theorem Hb0:TIOk Go.Proofs.Tryz.prog 51 { d := .struct [(49,0),(3,1)],size:=2,bytes:=32,zero := .agg #[.slice none 0 0,.int .i64 0] }:=
  Ad5 (i:=Go.Proofs.Tryz.t51) (d:=Go.Proofs.Tryz.t50.desc) (by kernel_rfl) (by kernel_rfl) (by kernel_rfl) (by kernel_rfl) (by kernel_rfl) (by kernel_rfl)
theorem Gv7:TIOk Go.Proofs.Tryz.prog 52 { d := .tuple [51,4],size:=1,bytes:=0,zero := .tuple #[.agg #[.slice none 0 0,.int .i64 0],.bool false] }:=
  Ad5 (i:=Go.Proofs.Tryz.t52) (d:=Go.Proofs.Tryz.t52.desc) (by kernel_rfl) (by kernel_rfl) (by kernel_rfl) (by kernel_rfl) (by kernel_rfl) (by kernel_rfl)
theorem Gy6:TIOk Go.Proofs.Tryz.prog 55 { d := .slice 57,size:=1,bytes:=24,zero := .slice none 0 0 }:=
  Ad5 (i:=Go.Proofs.Tryz.t55) (d:=Go.Proofs.Tryz.t55.desc) (by kernel_rfl) (by kernel_rfl) (by kernel_rfl) (by kernel_rfl) (by kernel_rfl) (by kernel_rfl)
theorem Gy2:TIOk Go.Proofs.Tryz.prog 57 { d := .struct [(4,0),(25,1),(3,2)],size:=3,bytes:=40,zero := .agg #[.bool false,.slice none 0 0,.int .i64 0] }:=
  Ad5 (i:=Go.Proofs.Tryz.t57) (d:=Go.Proofs.Tryz.t26.desc) (by kernel_rfl) (by kernel_rfl) (by kernel_rfl) (by kernel_rfl) (by kernel_rfl) (by kernel_rfl)
theorem Hc9:TIOk Go.Proofs.Tryz.prog 62 { d := .func,size:=1,bytes:=8,zero := .nilFunc }:=
  Ad5 (i:=Go.Proofs.Tryz.t62) (d:=Go.Proofs.Tryz.t62.desc) (by kernel_rfl) (by kernel_rfl) (by kernel_rfl) (by kernel_rfl) (by kernel_rfl) (by kernel_rfl)
theorem Hb8:TIOk Go.Proofs.Tryz.prog 64 { d := .slice 66,size:=1,bytes:=24,zero := .slice none 0 0 }:=
  Ad5 (i:=Go.Proofs.Tryz.t64) (d:=Go.Proofs.Tryz.t64.desc) (by kernel_rfl) (by kernel_rfl) (by kernel_rfl) (by kernel_rfl) (by kernel_rfl) (by kernel_rfl)
theorem Hd0:TIOk Go.Proofs.Tryz.prog 66 { d := .ptr 90,size:=1,bytes:=8,zero := .pointer none }:=
  Ad5 (i:=Go.Proofs.Tryz.t66) (d:=Go.Proofs.Tryz.t66.desc) (by kernel_rfl) (by kernel_rfl) (by kernel_rfl) (by kernel_rfl) (by kernel_rfl) (by kernel_rfl)
theorem Gz4:TIOk Go.Proofs.Tryz.prog 67 { d := .tuple [27,34],size:=1,bytes:=0,zero := .tuple #[.agg #[.bool false,.slice none 0 0,.int .i64 0],.int .i64 0] }:=
  Ad5 (i:=Go.Proofs.Tryz.t67) (d:=Go.Proofs.Tryz.t67.desc) (by kernel_rfl) (by kernel_rfl) (by kernel_rfl) (by kernel_rfl) (by kernel_rfl) (by kernel_rfl)
theorem Gx7:TIOk Go.Proofs.Tryz.prog 76 { d := .slice 2,size:=1,bytes:=24,zero := .slice none 0 0 }:=
  Ad5 (i:=Go.Proofs.Tryz.t76) (d:=Go.Proofs.Tryz.t76.desc) (by kernel_rfl) (by kernel_rfl) (by kernel_rfl) (by kernel_rfl) (by kernel_rfl) (by kernel_rfl)
theorem Gw2:TIOk Go.Proofs.Tryz.prog 78 { d := .int .u64,size:=1,bytes:=8,zero := .int .u64 0 }:=
  Ad5 (i:=Go.Proofs.Tryz.t78) (d:=Go.Proofs.Tryz.t78.desc) (by kernel_rfl) (by kernel_rfl) (by kernel_rfl) (by kernel_rfl) (by kernel_rfl) (by kernel_rfl)
theorem Hc4:TIOk Go.Proofs.Tryz.prog 83 { d := .int .u64,size:=1,bytes:=8,zero := .int .u64 0 }:=
  Ad5 (i:=Go.Proofs.Tryz.t83) (d:=Go.Proofs.Tryz.t83.desc) (by kernel_rfl) (by kernel_rfl) (by kernel_rfl) (by kernel_rfl) (by kernel_rfl) (by kernel_rfl)
theorem Hc6:TIOk Go.Proofs.Tryz.prog 86 { d := .ptr 51,size:=1,bytes:=8,zero := .pointer none }:=
  Ad5 (i:=Go.Proofs.Tryz.t86) (d:=Go.Proofs.Tryz.t86.desc) (by kernel_rfl) (by kernel_rfl) (by kernel_rfl) (by kernel_rfl) (by kernel_rfl) (by kernel_rfl)
theorem Ha0:TIOk Go.Proofs.Tryz.prog 88 { d := .slice 111,size:=1,bytes:=24,zero := .slice none 0 0 }:=
  Ad5 (i:=Go.Proofs.Tryz.t88) (d:=Go.Proofs.Tryz.t88.desc) (by kernel_rfl) (by kernel_rfl) (by kernel_rfl) (by kernel_rfl) (by kernel_rfl) (by kernel_rfl)
theorem Gw1:TIOk Go.Proofs.Tryz.prog 90 { d := .struct [(4,0),(88,1)],size:=2,bytes:=32,zero := .agg #[.bool false,.slice none 0 0] }:=
  Ad5 (i:=Go.Proofs.Tryz.t90) (d:=Go.Proofs.Tryz.t89.desc) (by kernel_rfl) (by kernel_rfl) (by kernel_rfl) (by kernel_rfl) (by kernel_rfl) (by kernel_rfl)
theorem Gv1:TIOk Go.Proofs.Tryz.prog 105 { d := .tuple [4,88],size:=1,bytes:=0,zero := .tuple #[.bool false,.slice none 0 0] }:=
  Ad5 (i:=Go.Proofs.Tryz.t105) (d:=Go.Proofs.Tryz.t105.desc) (by kernel_rfl) (by kernel_rfl) (by kernel_rfl) (by kernel_rfl) (by kernel_rfl) (by kernel_rfl)
theorem Gr1:TIOk Go.Proofs.Tryz.prog 111 { d := .int .u32,size:=1,bytes:=4,zero := .int .u32 0 }:=
  Ad5 (i:=Go.Proofs.Tryz.t111) (d:=Go.Proofs.Tryz.t111.desc) (by kernel_rfl) (by kernel_rfl) (by kernel_rfl) (by kernel_rfl) (by kernel_rfl) (by kernel_rfl)
theorem Gp8:TIOk Go.Proofs.Tryz.prog 112 { d := .tuple [3,3],size:=1,bytes:=0,zero := .tuple #[.int .i64 0,.int .i64 0] }:=
  Ad5 (i:=Go.Proofs.Tryz.t112) (d:=Go.Proofs.Tryz.t112.desc) (by kernel_rfl) (by kernel_rfl) (by kernel_rfl) (by kernel_rfl) (by kernel_rfl) (by kernel_rfl)
theorem Gp0:TIOk Go.Proofs.Tryz.prog 114 { d := .tuple [66,66],size:=1,bytes:=0,zero := .tuple #[.pointer none,.pointer none] }:=
  Ad5 (i:=Go.Proofs.Tryz.t114) (d:=Go.Proofs.Tryz.t114.desc) (by kernel_rfl) (by kernel_rfl) (by kernel_rfl) (by kernel_rfl) (by kernel_rfl) (by kernel_rfl)
theorem Gr0:TIOk Go.Proofs.Tryz.prog 120 { d := .tuple [25,4],size:=1,bytes:=0,zero := .tuple #[.slice none 0 0,.bool false] }:=
  Ad5 (i:=Go.Proofs.Tryz.t120) (d:=Go.Proofs.Tryz.t120.desc) (by kernel_rfl) (by kernel_rfl) (by kernel_rfl) (by kernel_rfl) (by kernel_rfl) (by kernel_rfl)
theorem Gm9:TIOk Go.Proofs.Tryz.prog 127 { d := .tuple [88,88],size:=1,bytes:=0,zero := .tuple #[.slice none 0 0,.slice none 0 0] }:=
  Ad5 (i:=Go.Proofs.Tryz.t127) (d:=Go.Proofs.Tryz.t127.desc) (by kernel_rfl) (by kernel_rfl) (by kernel_rfl) (by kernel_rfl) (by kernel_rfl) (by kernel_rfl)
theorem Gq1:TIOk Go.Proofs.Tryz.prog 131 { d := .tuple [25,78],size:=1,bytes:=0,zero := .tuple #[.slice none 0 0,.int .u64 0] }:=
  Ad5 (i:=Go.Proofs.Tryz.t131) (d:=Go.Proofs.Tryz.t131.desc) (by kernel_rfl) (by kernel_rfl) (by kernel_rfl) (by kernel_rfl) (by kernel_rfl) (by kernel_rfl)
theorem Gt4:TIOk Go.Proofs.Tryz.prog 134 { d := .tuple [88,111],size:=1,bytes:=0,zero := .tuple #[.slice none 0 0,.int .u32 0] }:=
  Ad5 (i:=Go.Proofs.Tryz.t134) (d:=Go.Proofs.Tryz.t134.desc) (by kernel_rfl) (by kernel_rfl) (by kernel_rfl) (by kernel_rfl) (by kernel_rfl) (by kernel_rfl)
theorem tok:TOk Go.Proofs.Tryz.prog (Eh2 tbl):=Cz4 (l:=tbl) ⟨He3,He7,He0,Hf4,He6,Hf3,Hb5,Hc5,Hb9,Gv6,Gw6,Gx9,Gx0,Gx1,Ha5,Gv9,Hb0,Gv7,Gy6,Gy2,Hc9,Hb8,Hd0,Gz4,Gx7,Gw2,Hc4,Hc6,Ha0,Gw1,Gv1,Gr1,Gp8,Gp0,Gr0,Gm9,Gq1,Gt4,True.intro⟩
theorem Gv8:Cf0 (Eh2 tbl):=Fu3 (by kernel_rfl)
theorem Gy3:Go.Proofs.Tryz.prog.follows .mixedOrders=true:=by kernel_rfl
end Go.Eng
