/-
  All that is asked of the propositions of the functions. No condition.
-/
import Derived.Test.YtlnelldekejadaaSh1
import Derived.Test.YtlnelldekejadaaSh2
import Derived.Lib.BitFns
set_option linter.all false
set_option maxRecDepth 100000
namespace Go.Eng
open Go
open Go.IntKind (i64 u64 u32 u8)
def Ok_w16_InertiaDescartes (N:Nums) (P:Program):Prop:=∀ qe qf qg qo qp w K,S_w16_InertiaDescartes N P qe qf qg qo qp w K→CallsX P N.f_w16_InertiaDescartes #[.agg #[.int .i64 qe,.int .i64 qf,.slice qg qo qp]] w K
def Ok_inertia_Signs (N:Nums) (P:Program):Prop:=∀ qe qf qg qo qp w K,S_inertia_Signs N P qe qf qg qo qp w K→CallsX P N.f_inertia_Signs #[.agg #[.int .i64 qe,.int .i64 qf,.slice qg qo qp]] w K
def Ok_w16_of (N:Nums) (P:Program):Prop:=∀ q0 q1 qs qx w K,S_w16_of N P q0 q1 qs qx w K→CallsX P N.f_w16_of #[.int .i64 q0,.slice q1 qs qx] w K
def Ok_inertia_Poly (N:Nums) (P:Program):Prop:=∀ qe qf qg qo qp w K,S_inertia_Poly N P qe qf qg qo qp w K→CallsX P N.f_inertia_Poly #[.agg #[.int .i64 qe,.int .i64 qf,.slice qg qo qp]] w K
def Ok_k_SameDyads (N:Nums) (P:Program):Prop:=∀ q0 qh qk q1 qs qx w K,S_k_SameDyads N P q0 qh qk q1 qs qx w K→CallsX P N.f_k_SameDyads #[.slice q0 qh qk,.slice q1 qs qx] w K
def Ok_inertia_Below (N:Nums) (P:Program):Prop:=∀ qe qf qg qo qp qq qr qi qj qw w K,S_inertia_Below N P qe qf qg qo qp qq qr qi qj qw w K→CallsX P N.f_inertia_Below #[.agg #[.int .i64 qe,.int .i64 qf,.slice qg qo qp],.agg #[.bool qq,.slice qr qi qj,.int .i64 qw]] w K
def Ok_r02_Int (N:Nums) (P:Program):Prop:=∀ q0 w K,S_r02_Int N P q0 w K→CallsX P N.f_r02_Int #[.int .i64 q0] w K
def Ok_w16_awake (N:Nums) (P:Program):Prop:=∀ w K,S_w16_awake N P  w K→CallsX P N.f_w16_awake #[] w K
def Ok_dyad_Int (N:Nums) (P:Program):Prop:=∀ q0 w K,S_dyad_Int N P q0 w K→CallsX P N.f_dyad_Int #[.int .i64 q0] w K
def Ok_dyad_Neg (N:Nums) (P:Program):Prop:=∀ qe qf qb qd qg w K,S_dyad_Neg N P qe qf qb qd qg w K→CallsX P N.f_dyad_Neg #[.agg #[.bool qe,.slice qf qb qd,.int .i64 qg]] w K
def Ok_w16_great (N:Nums) (P:Program):Prop:=∀ qe qf qg qo qp w K,S_w16_great N P qe qf qg qo qp w K→CallsX P N.f_w16_great #[.agg #[.int .i64 qe,.int .i64 qf,.slice qg qo qp]] w K
def Ok_inertia_Symmetric (N:Nums) (P:Program):Prop:=∀ qe qf qg qo qp w K,S_inertia_Symmetric N P qe qf qg qo qp w K→CallsX P N.f_inertia_Symmetric #[.agg #[.int .i64 qe,.int .i64 qf,.slice qg qo qp]] w K
def Ok_w16_sign (N:Nums) (P:Program):Prop:=∀ qe qf qb qd qg w K,S_w16_sign N P qe qf qb qd qg w K→CallsX P N.f_w16_sign #[.agg #[.bool qe,.slice qf qb qd,.int .i64 qg]] w K
def Ok_dyad_Add (N:Nums) (P:Program):Prop:=∀ qe qf qb qd qg qq qr qi qj qw w K,S_dyad_Add N P qe qf qb qd qg qq qr qi qj qw w K→CallsX P N.f_dyad_Add #[.agg #[.bool qe,.slice qf qb qd,.int .i64 qg],.agg #[.bool qq,.slice qr qi qj,.int .i64 qw]] w K
def Ok_dyad_Right (N:Nums) (P:Program):Prop:=∀ qe qf qb qd qg w K,S_dyad_Right N P qe qf qb qd qg w K→CallsX P N.f_dyad_Right #[.agg #[.bool qe,.slice qf qb qd,.int .i64 qg]] w K
def Ok_dyad_Cmp (N:Nums) (P:Program):Prop:=∀ qe qf qb qd qg qq qr qi qj qw w K,S_dyad_Cmp N P qe qf qb qd qg qq qr qi qj qw w K→CallsX P N.f_dyad_Cmp #[.agg #[.bool qe,.slice qf qb qd,.int .i64 qg],.agg #[.bool qq,.slice qr qi qj,.int .i64 qw]] w K
def Ok_inertia_scaled (N:Nums) (P:Program):Prop:=∀ qe qf qg qo qp qq qr qi qj qw w K,S_inertia_scaled N P qe qf qg qo qp qq qr qi qj qw w K→CallsX P N.f_inertia_scaled #[.agg #[.int .i64 qe,.int .i64 qf,.slice qg qo qp],.agg #[.bool qq,.slice qr qi qj,.int .i64 qw]] w K
def Ok_p_inertia_rows_signs (N:Nums) (P:Program):Prop:=∀ q0 w K,S_p_inertia_rows_signs N P q0 w K→CallsX P N.f_p_inertia_rows_signs #[.pointer q0] w K
def Ok_p_inertia_rows_coefficients (N:Nums) (P:Program):Prop:=∀ q0 w K,S_p_inertia_rows_coefficients N P q0 w K→CallsX P N.f_p_inertia_rows_coefficients #[.pointer q0] w K
def Ok_inertia_told (N:Nums) (P:Program):Prop:=∀ q0 q1 w K,S_inertia_told N P q0 q1 w K→CallsX P N.f_inertia_told #[.pointer q0,.int .i64 q1] w K
def Ok_slices_Reverse___api_Dyad_api_Dyad (N:Nums) (P:Program):Prop:=∀ q0 qh qk w K,S_slices_Reverse___api_Dyad_api_Dyad N P q0 qh qk w K→CallsX P N.f_slices_Reverse___api_Dyad_api_Dyad #[.slice q0 qh qk] w K
def Ok_k_SameDyad (N:Nums) (P:Program):Prop:=∀ qe qf qb qd qg qq qr qi qj qw w K,S_k_SameDyad N P qe qf qb qd qg qq qr qi qj qw w K→CallsX P N.f_k_SameDyad #[.agg #[.bool qe,.slice qf qb qd,.int .i64 qg],.agg #[.bool qq,.slice qr qi qj,.int .i64 qw]] w K
def Ok_r02_Told (N:Nums) (P:Program):Prop:=∀ qe qf qb qd qg w K,S_r02_Told N P qe qf qb qd qg w K→CallsX P N.f_r02_Told #[.agg #[.bool qe,.slice qf qb qd,.int .i64 qg]] w K
def Ok_r02_Whole (N:Nums) (P:Program):Prop:=∀ q0 w K,S_r02_Whole N P q0 w K→CallsX P N.f_r02_Whole #[.int .i64 q0] w K
def Ok_dyad_made (N:Nums) (P:Program):Prop:=∀ q0 q1 w K,S_dyad_made N P q0 q1 w K→CallsX P N.f_dyad_made #[.pointer q0,.int .i64 q1] w K
def Ok_dyad_whole (N:Nums) (P:Program):Prop:=∀ qe qf qb qd qg w K,S_dyad_whole N P qe qf qb qd qg w K→CallsX P N.f_dyad_whole #[.agg #[.bool qe,.slice qf qb qd,.int .i64 qg]] w K
def Ok_bn_NewInt (N:Nums) (P:Program):Prop:=∀ q0 w K,S_bn_NewInt N P q0 w K→CallsX P N.f_bn_NewInt #[.int .i64 q0] w K
def Ok_inertia_Right (N:Nums) (P:Program):Prop:=∀ qe qf qg qo qp w K,S_inertia_Right N P qe qf qg qo qp w K→CallsX P N.f_inertia_Right #[.agg #[.int .i64 qe,.int .i64 qf,.slice qg qo qp]] w K
def Ok_dyad_Sign (N:Nums) (P:Program):Prop:=∀ qe qf qb qd qg w K,S_dyad_Sign N P qe qf qb qd qg w K→CallsX P N.f_dyad_Sign #[.agg #[.bool qe,.slice qf qb qd,.int .i64 qg]] w K
def Ok_dyad_both (N:Nums) (P:Program):Prop:=∀ qe qf qb qd qg qq qr qi qj qw w K,S_dyad_both N P qe qf qb qd qg qq qr qi qj qw w K→CallsX P N.f_dyad_both #[.agg #[.bool qe,.slice qf qb qd,.int .i64 qg],.agg #[.bool qq,.slice qr qi qj,.int .i64 qw]] w K
def Ok_bI_Sign (N:Nums) (P:Program):Prop:=∀ q0 w K,S_bI_Sign N P q0 w K→CallsX P N.f_bI_Sign #[.pointer q0] w K
def Ok_bI_Add (N:Nums) (P:Program):Prop:=∀ q0 q1 q2 w K,S_bI_Add N P q0 q1 q2 w K→CallsX P N.f_bI_Add #[.pointer q0,.pointer q1,.pointer q2] w K
def Ok_bI_Lsh (N:Nums) (P:Program):Prop:=∀ q0 q1 q2 w K,S_bI_Lsh N P q0 q1 q2 w K→CallsX P N.f_bI_Lsh #[.pointer q0,.pointer q1,.int .u64 q2] w K
def Ok_dyad_top (N:Nums) (P:Program):Prop:=∀ qe qf qb qd qg w K,S_dyad_top N P qe qf qb qd qg w K→CallsX P N.f_dyad_top #[.agg #[.bool qe,.slice qf qb qd,.int .i64 qg]] w K
def Ok_bI_Cmp (N:Nums) (P:Program):Prop:=∀ q0 q1 w K,S_bI_Cmp N P q0 q1 w K→CallsX P N.f_bI_Cmp #[.pointer q0,.pointer q1] w K
def Ok_slices_Clone___api_Dyad_api_Dyad (N:Nums) (P:Program):Prop:=∀ q0 qh qk w K,S_slices_Clone___api_Dyad_api_Dyad N P q0 qh qk w K→CallsX P N.f_slices_Clone___api_Dyad_api_Dyad #[.slice q0 qh qk] w K
def Ok_inertia_whole (N:Nums) (P:Program):Prop:=∀ qe qf qb qd qg q1 w K,S_inertia_whole N P qe qf qb qd qg q1 w K→CallsX P N.f_inertia_whole #[.agg #[.bool qe,.slice qf qb qd,.int .i64 qg],.int .i64 q1] w K
def Ok_bI_Sub (N:Nums) (P:Program):Prop:=∀ q0 q1 q2 w K,S_bI_Sub N P q0 q1 q2 w K→CallsX P N.f_bI_Sub #[.pointer q0,.pointer q1,.pointer q2] w K
def Ok_bI_TrailingZeroBits (N:Nums) (P:Program):Prop:=∀ q0 w K,S_bI_TrailingZeroBits N P q0 w K→CallsX P N.f_bI_TrailingZeroBits #[.pointer q0] w K
def Ok_bI_BitLen (N:Nums) (P:Program):Prop:=∀ q0 w K,S_bI_BitLen N P q0 w K→CallsX P N.f_bI_BitLen #[.pointer q0] w K
def Ok_bI_Rsh (N:Nums) (P:Program):Prop:=∀ q0 q1 q2 w K,S_bI_Rsh N P q0 q1 q2 w K→CallsX P N.f_bI_Rsh #[.pointer q0,.pointer q1,.int .u64 q2] w K
def Ok_p_inertia_rows_pivot (N:Nums) (P:Program):Prop:=∀ q0 q1 w K,S_p_inertia_rows_pivot N P q0 q1 w K→CallsX P N.f_p_inertia_rows_pivot #[.pointer q0,.int .i64 q1] w K
def Ok_bI_Mul (N:Nums) (P:Program):Prop:=∀ q0 q1 q2 w K,S_bI_Mul N P q0 q1 q2 w K→CallsX P N.f_bI_Mul #[.pointer q0,.pointer q1,.pointer q2] w K
def Ok_bI_Quo (N:Nums) (P:Program):Prop:=∀ q0 q1 q2 w K,S_bI_Quo N P q0 q1 q2 w K→CallsX P N.f_bI_Quo #[.pointer q0,.pointer q1,.pointer q2] w K
def Ok_bI_Neg (N:Nums) (P:Program):Prop:=∀ q0 q1 w K,S_bI_Neg N P q0 q1 w K→CallsX P N.f_bI_Neg #[.pointer q0,.pointer q1] w K
def Ok_bI_Abs (N:Nums) (P:Program):Prop:=∀ q0 q1 w K,S_bI_Abs N P q0 q1 w K→CallsX P N.f_bI_Abs #[.pointer q0,.pointer q1] w K
def Ok_bI_Uint64 (N:Nums) (P:Program):Prop:=∀ q0 w K,S_bI_Uint64 N P q0 w K→CallsX P N.f_bI_Uint64 #[.pointer q0] w K
def Ok_dyad_Norm (N:Nums) (P:Program):Prop:=∀ qe qf qb qd qg w K,S_dyad_Norm N P qe qf qb qd qg w K→CallsX P N.f_dyad_Norm #[.agg #[.bool qe,.slice qf qb qd,.int .i64 qg]] w K
def Ok_k_SameLimbs (N:Nums) (P:Program):Prop:=∀ q0 qh qk q1 qs qx w K,S_k_SameLimbs N P q0 qh qk q1 qs qx w K→CallsX P N.f_k_SameLimbs #[.slice q0 qh qk,.slice q1 qs qx] w K
def Ok_r02_Norm (N:Nums) (P:Program):Prop:=∀ qe qf qb qd qg w K,S_r02_Norm N P qe qf qb qd qg w K→CallsX P N.f_r02_Norm #[.agg #[.bool qe,.slice qf qb qd,.int .i64 qg]] w K
def Ok_r02_NatOf (N:Nums) (P:Program):Prop:=∀ q0 w K,S_r02_NatOf N P q0 w K→CallsX P N.f_r02_NatOf #[.int .u64 q0] w K
def Ok_r02_NatTrim (N:Nums) (P:Program):Prop:=∀ q0 qh qk w K,S_r02_NatTrim N P q0 qh qk w K→CallsX P N.f_r02_NatTrim #[.slice q0 qh qk] w K
def Ok_dyad_limbs (N:Nums) (P:Program):Prop:=∀ q0 w K,S_dyad_limbs N P q0 w K→CallsX P N.f_dyad_limbs #[.pointer q0] w K
def Ok_bI_Or (N:Nums) (P:Program):Prop:=∀ q0 q1 q2 w K,S_bI_Or N P q0 q1 q2 w K→CallsX P N.f_bI_Or #[.pointer q0,.pointer q1,.pointer q2] w K
def Ok_bI_SetUint64 (N:Nums) (P:Program):Prop:=∀ q0 q1 w K,S_bI_SetUint64 N P q0 q1 w K→CallsX P N.f_bI_SetUint64 #[.pointer q0,.int .u64 q1] w K
def Ok_bI_SetInt64 (N:Nums) (P:Program):Prop:=∀ q0 q1 w K,S_bI_SetInt64 N P q0 q1 w K→CallsX P N.f_bI_SetInt64 #[.pointer q0,.int .i64 q1] w K
def Ok_inertia_fits (N:Nums) (P:Program):Prop:=∀ q0 w K,S_inertia_fits N P q0 w K→CallsX P N.f_inertia_fits #[.int .i64 q0] w K
def Ok_slices_ContainsFunc___api_Dyad_api_Dyad (N:Nums) (P:Program):Prop:=∀ q0 qh qk q1 w K,S_slices_ContainsFunc___api_Dyad_api_Dyad N P q0 qh qk q1 w K→CallsX P N.f_slices_ContainsFunc___api_Dyad_api_Dyad #[.slice q0 qh qk,q1] w K
def Ok_inertia_Right_1 (N:Nums) (P:Program):Prop:=∀ qe qf qb qd qg w K,S_inertia_Right_1 N P qe qf qb qd qg w K→CallsX P N.f_inertia_Right_1 #[.agg #[.bool qe,.slice qf qb qd,.int .i64 qg]] w K
def Ok_bI_give (N:Nums) (P:Program):Prop:=∀ q0 q1 q2 vj yu w K,S_bI_give N P q0 q1 q2 vj yu w K→CallsX P N.f_bI_give #[.pointer q0,.bool q1,.slice q2 vj yu] w K
def Ok_bn_sum (N:Nums) (P:Program):Prop:=∀ q0 q1 qs qx q2 q3 vo vu w K,S_bn_sum N P q0 q1 qs qx q2 q3 vo vu w K→CallsX P N.f_bn_sum #[.bool q0,.slice q1 qs qx,.bool q2,.slice q3 vo vu] w K
def Ok_bn_left (N:Nums) (P:Program):Prop:=∀ q0 qh qk q1 w K,S_bn_left N P q0 qh qk q1 w K→CallsX P N.f_bn_left #[.slice q0 qh qk,.int .u64 q1] w K
def Ok_bn_cmp (N:Nums) (P:Program):Prop:=∀ q0 qh qk q1 qs qx w K,S_bn_cmp N P q0 qh qk q1 qs qx w K→CallsX P N.f_bn_cmp #[.slice q0 qh qk,.slice q1 qs qx] w K
def Ok_bn_bit (N:Nums) (P:Program):Prop:=∀ q0 qh qk q1 w K,S_bn_bit N P q0 qh qk q1 w K→CallsX P N.f_bn_bit #[.slice q0 qh qk,.int .i64 q1] w K
def Ok_bn_length (N:Nums) (P:Program):Prop:=∀ q0 qh qk w K,S_bn_length N P q0 qh qk w K→CallsX P N.f_bn_length #[.slice q0 qh qk] w K
def Ok_bn_add (N:Nums) (P:Program):Prop:=∀ q0 qh qk q1 qs qx w K,S_bn_add N P q0 qh qk q1 qs qx w K→CallsX P N.f_bn_add #[.slice q0 qh qk,.slice q1 qs qx] w K
def Ok_bn_right (N:Nums) (P:Program):Prop:=∀ q0 qh qk q1 w K,S_bn_right N P q0 qh qk q1 w K→CallsX P N.f_bn_right #[.slice q0 qh qk,.int .u64 q1] w K
def Ok_bn_sub (N:Nums) (P:Program):Prop:=∀ q0 qh qk q1 qs qx w K,S_bn_sub N P q0 qh qk q1 qs qx w K→CallsX P N.f_bn_sub #[.slice q0 qh qk,.slice q1 qs qx] w K
def Ok_p_inertia_rows_find (N:Nums) (P:Program):Prop:=∀ q0 q1 w K,S_p_inertia_rows_find N P q0 q1 w K→CallsX P N.f_p_inertia_rows_find #[.pointer q0,.int .i64 q1] w K
def Ok_bn_mul (N:Nums) (P:Program):Prop:=∀ q0 qh qk q1 qs qx w K,S_bn_mul N P q0 qh qk q1 qs qx w K→CallsX P N.f_bn_mul #[.slice q0 qh qk,.slice q1 qs qx] w K
def Ok_bI_QuoRem (N:Nums) (P:Program):Prop:=∀ q0 q1 q2 q3 w K,S_bI_QuoRem N P q0 q1 q2 q3 w K→CallsX P N.f_bI_QuoRem #[.pointer q0,.pointer q1,.pointer q2,.pointer q3] w K
def Ok_bn_twin (N:Nums) (P:Program):Prop:=∀ q0 qh qk w K,S_bn_twin N P q0 qh qk w K→CallsX P N.f_bn_twin #[.slice q0 qh qk] w K
def Ok_r02_NatDown (N:Nums) (P:Program):Prop:=∀ q0 qh qk q1 w K,S_r02_NatDown N P q0 qh qk q1 w K→CallsX P N.f_r02_NatDown #[.slice q0 qh qk,.int .i64 q1] w K
def Ok_r02_halves (N:Nums) (P:Program):Prop:=∀ q0 qh qk w K,S_r02_halves N P q0 qh qk w K→CallsX P N.f_r02_halves #[.slice q0 qh qk] w K
def Ok_r02_limbs (N:Nums) (P:Program):Prop:=∀ q0 qh qk w K,S_r02_limbs N P q0 qh qk w K→CallsX P N.f_r02_limbs #[.slice q0 qh qk] w K
def Ok_bI_And (N:Nums) (P:Program):Prop:=∀ q0 q1 q2 w K,S_bI_And N P q0 q1 q2 w K→CallsX P N.f_bI_And #[.pointer q0,.pointer q1,.pointer q2] w K
def Ok_bI_low (N:Nums) (P:Program):Prop:=∀ q0 q1 w K,S_bI_low N P q0 q1 w K→CallsX P N.f_bI_low #[.pointer q0,.int .i64 q1] w K
def Ok_bI_of (N:Nums) (P:Program):Prop:=∀ q0 q1 qs qx w K,S_bI_of N P q0 q1 qs qx w K→CallsX P N.f_bI_of #[.pointer q0,.slice q1 qs qx] w K
def Ok_bn_words (N:Nums) (P:Program):Prop:=∀ q0 w K,S_bn_words N P q0 w K→CallsX P N.f_bn_words #[.int .u64 q0] w K
def Ok_slices_IndexFunc___api_Dyad_api_Dyad (N:Nums) (P:Program):Prop:=∀ q0 qh qk q1 w K,S_slices_IndexFunc___api_Dyad_api_Dyad N P q0 qh qk q1 w K→CallsX P N.f_slices_IndexFunc___api_Dyad_api_Dyad #[.slice q0 qh qk,q1] w K
def Ok_bn_trim (N:Nums) (P:Program):Prop:=∀ q0 qh qk w K,S_bn_trim N P q0 qh qk w K→CallsX P N.f_bn_trim #[.slice q0 qh qk] w K
def Ok_bn_div (N:Nums) (P:Program):Prop:=∀ q0 qh qk q1 qs qx w K,S_bn_div N P q0 qh qk q1 qs qx w K→CallsX P N.f_bn_div #[.slice q0 qh qk,.slice q1 qs qx] w K
def Ok_r02_short (N:Nums) (P:Program):Prop:=∀ q0 qh qk q1 w K,S_r02_short N P q0 qh qk q1 w K→CallsX P N.f_r02_short #[.slice q0 qh qk,.int .u64 q1] w K
def Ok_r02_low (N:Nums) (P:Program):Prop:=∀ q0 qh qk w K,S_r02_low N P q0 qh qk w K→CallsX P N.f_r02_low #[.slice q0 qh qk] w K
def Ok_bn_plain (N:Nums) (P:Program):Prop:=∀ q0 qh qk w K,S_bn_plain N P q0 qh qk w K→CallsX P N.f_bn_plain #[.slice q0 qh qk] w K
def Ok_bn_small (N:Nums) (P:Program):Prop:=∀ q0 qh qk q1 w K,S_bn_small N P q0 qh qk q1 w K→CallsX P N.f_bn_small #[.slice q0 qh qk,.int .u32 q1] w K
def Ok_math_bits_Len64 (N:Nums) (P:Program):Prop:=∀ (x:Int) (_:0≤x) (_:x≤18446744073709551615) (w:World) (K:KV),K (.int .i64 (Lib.bitLen x.toNat)) w→CallsX P N.f_math_bits_Len64 #[.int .u64 x] w K
structure AllOk (N:Nums) (P:Program):Prop where
 w16_InertiaDescartes:Ok_w16_InertiaDescartes N P
 inertia_Signs:Ok_inertia_Signs N P
 w16_of:Ok_w16_of N P
 inertia_Poly:Ok_inertia_Poly N P
 k_SameDyads:Ok_k_SameDyads N P
 inertia_Below:Ok_inertia_Below N P
 r02_Int:Ok_r02_Int N P
 w16_awake:Ok_w16_awake N P
 dyad_Int:Ok_dyad_Int N P
 dyad_Neg:Ok_dyad_Neg N P
 w16_great:Ok_w16_great N P
 inertia_Symmetric:Ok_inertia_Symmetric N P
 w16_sign:Ok_w16_sign N P
 dyad_Add:Ok_dyad_Add N P
 dyad_Right:Ok_dyad_Right N P
 dyad_Cmp:Ok_dyad_Cmp N P
 inertia_scaled:Ok_inertia_scaled N P
 p_inertia_rows_signs:Ok_p_inertia_rows_signs N P
 p_inertia_rows_coefficients:Ok_p_inertia_rows_coefficients N P
 inertia_told:Ok_inertia_told N P
 slices_Reverse___api_Dyad_api_Dyad:Ok_slices_Reverse___api_Dyad_api_Dyad N P
 k_SameDyad:Ok_k_SameDyad N P
 r02_Told:Ok_r02_Told N P
 r02_Whole:Ok_r02_Whole N P
 dyad_made:Ok_dyad_made N P
 dyad_whole:Ok_dyad_whole N P
 bn_NewInt:Ok_bn_NewInt N P
 inertia_Right:Ok_inertia_Right N P
 dyad_Sign:Ok_dyad_Sign N P
 dyad_both:Ok_dyad_both N P
 bI_Sign:Ok_bI_Sign N P
 bI_Add:Ok_bI_Add N P
 bI_Lsh:Ok_bI_Lsh N P
 dyad_top:Ok_dyad_top N P
 bI_Cmp:Ok_bI_Cmp N P
 slices_Clone___api_Dyad_api_Dyad:Ok_slices_Clone___api_Dyad_api_Dyad N P
 inertia_whole:Ok_inertia_whole N P
 bI_Sub:Ok_bI_Sub N P
 bI_TrailingZeroBits:Ok_bI_TrailingZeroBits N P
 bI_BitLen:Ok_bI_BitLen N P
 bI_Rsh:Ok_bI_Rsh N P
 p_inertia_rows_pivot:Ok_p_inertia_rows_pivot N P
 bI_Mul:Ok_bI_Mul N P
 bI_Quo:Ok_bI_Quo N P
 bI_Neg:Ok_bI_Neg N P
 bI_Abs:Ok_bI_Abs N P
 bI_Uint64:Ok_bI_Uint64 N P
 dyad_Norm:Ok_dyad_Norm N P
 k_SameLimbs:Ok_k_SameLimbs N P
 r02_Norm:Ok_r02_Norm N P
 r02_NatOf:Ok_r02_NatOf N P
 r02_NatTrim:Ok_r02_NatTrim N P
 dyad_limbs:Ok_dyad_limbs N P
 bI_Or:Ok_bI_Or N P
 bI_SetUint64:Ok_bI_SetUint64 N P
 bI_SetInt64:Ok_bI_SetInt64 N P
 inertia_fits:Ok_inertia_fits N P
 slices_ContainsFunc___api_Dyad_api_Dyad:Ok_slices_ContainsFunc___api_Dyad_api_Dyad N P
 inertia_Right_1:Ok_inertia_Right_1 N P
 bI_give:Ok_bI_give N P
 bn_sum:Ok_bn_sum N P
 bn_left:Ok_bn_left N P
 bn_cmp:Ok_bn_cmp N P
 bn_bit:Ok_bn_bit N P
 bn_length:Ok_bn_length N P
 bn_add:Ok_bn_add N P
 bn_right:Ok_bn_right N P
 bn_sub:Ok_bn_sub N P
 p_inertia_rows_find:Ok_p_inertia_rows_find N P
 bn_mul:Ok_bn_mul N P
 bI_QuoRem:Ok_bI_QuoRem N P
 bn_twin:Ok_bn_twin N P
 r02_NatDown:Ok_r02_NatDown N P
 r02_halves:Ok_r02_halves N P
 r02_limbs:Ok_r02_limbs N P
 bI_And:Ok_bI_And N P
 bI_low:Ok_bI_low N P
 bI_of:Ok_bI_of N P
 bn_words:Ok_bn_words N P
 slices_IndexFunc___api_Dyad_api_Dyad:Ok_slices_IndexFunc___api_Dyad_api_Dyad N P
 bn_trim:Ok_bn_trim N P
 bn_div:Ok_bn_div N P
 r02_short:Ok_r02_short N P
 r02_low:Ok_r02_low N P
 bn_plain:Ok_bn_plain N P
 bn_small:Ok_bn_small N P
 math_bits_Len64:Ok_math_bits_Len64 N P
end Go.Eng
