/-
  The numbers of types and functions, as names. No condition.
-/
namespace Go.Eng

structure Nums where
  t_Errno : Nat
  t_Factor : Nat
  t_Factor__Errno__int : Nat
  t_L_L_float64 : Nat
  t_L_float64 : Nat
  t_L_int : Nat
  t_Matrix : Nat
  t_Matrix__Errno : Nat
  t_bool : Nat
  t_bool__int__uint64 : Nat
  t_float64 : Nat
  t_float64__int : Nat
  t_func_int__int__float64 : Nat
  t_int : Nat
  t_uint64 : Nat
  f_girderkit_CopyFactor : Nat
  f_girderkit_CopyMatrix : Nat
  f_girderkit_CopyReals : Nat
  f_girderkit_Pick : Nat
  f_girderkit_SameFactor : Nat
  f_girderkit_SameFloat : Nat
  f_girderkit_SameMatrix : Nat
  f_girderkit_SameReals : Nat
  f_girderlaw12_LowerBack : Nat
  f_girderlaw12_LowerFactors : Nat
  f_girderlaw12_LowerNumbers : Nat
  f_girderlaw12_LowerScaled : Nat
  f_girderlaw12_LowerTimes : Nat
  f_girderlaw12_awake : Nat
  f_girderlaw12_even : Nat
  f_girderlaw12_mirrored : Nat
  f_girderref01_Kind : Nat
  f_girderref01_Nan : Nat
  f_girderref01_Same : Nat
  f_girderref01_fields : Nat
  f_girderref03_Finite : Nat
  f_girderref10_At : Nat
  f_girderref10_Right : Nat
  f_girderref10_Symmetric : Nat
  f_girderref10_may : Nat
  f_girderref12_At : Nat
  f_girderref12_Factor : Nat
  f_girderref12_Right : Nat
  f_girderref12_Times : Nat
  f_lower_Factor : Nat
  f_lower_Right : Nat
  f_lower_Times : Nat
  f_lower_finite : Nat
  f_lower_row : Nat
  f_math_Abs : Nat
  f_math_Copysign : Nat
  f_math_Float64bits : Nat
  f_math_Float64frombits : Nat
  f_math_Inf : Nat
  f_math_IsInf : Nat
  f_math_IsNaN : Nat
  f_math_Ldexp : Nat
  f_math_NaN : Nat
  f_math_ldexp : Nat
  f_math_normalize : Nat
  f_matrix_Make : Nat
  f_matrix_Make_1 : Nat
  f_matrix_Right : Nat
  f_matrix_Same : Nat
  f_matrix_Symmetric : Nat
  f_matrix_Transpose : Nat
  f_matrix_Transpose_1 : Nat
  f_matrix_fits : Nat
  f_matrix_laid : Nat
  f_vector_Same : Nat

end Go.Eng
