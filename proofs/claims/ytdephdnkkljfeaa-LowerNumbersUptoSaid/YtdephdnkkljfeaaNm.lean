/-
  The numbers of types and functions, as names. No condition.
-/
namespace Go.Eng
structure Nums where
  t_Errno : Nat
  t_Factor : Nat
  t_Factor__Errno__int : Nat
  t_L_L_float64 : Nat
  t_L_float64 : Nat
  t_L_int : Nat
  t_Matrix : Nat
  t_Matrix__Errno : Nat
  t_bool : Nat
  t_float64 : Nat
  t_func_int__int__float64 : Nat
  t_int : Nat
  t_uint64 : Nat
  f_k_SameFactor : Nat
  f_k_SameFloat : Nat
  f_k_SameMatrix : Nat
  f_k_SameReals : Nat
  f_w12_LowerNumbers : Nat
  f_w12_awake : Nat
  f_lower_Factor : Nat
  f_lower_Right : Nat
  f_lower_Times : Nat
  f_lower_finite : Nat
  f_lower_row : Nat
  f_math_Abs : Nat
  f_math_Copysign : Nat
  f_math_Float64bits : Nat
  f_math_Float64frombits : Nat
  f_math_Inf : Nat
  f_math_IsInf : Nat
  f_math_IsNaN : Nat
  f_math_NaN : Nat
  f_matrix_Make : Nat
  f_matrix_Make_1 : Nat
  f_matrix_Right : Nat
  f_matrix_Same : Nat
  f_matrix_Symmetric : Nat
  f_matrix_Transpose : Nat
  f_matrix_Transpose_1 : Nat
  f_matrix_fits : Nat
  f_matrix_laid : Nat
  f_vector_Same : Nat
end Go.Eng
