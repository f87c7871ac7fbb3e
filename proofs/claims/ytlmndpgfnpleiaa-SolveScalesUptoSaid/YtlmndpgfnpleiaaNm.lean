/-
  The numbers of types and functions, as names. No condition.
-/
namespace Go.Eng

structure Nums where
  t_Errno : Nat
  t_Factor : Nat
  t_L_float64 : Nat
  t_L_float64__Errno : Nat
  t_L_int : Nat
  t_Matrix : Nat
  t_Matrix__Errno : Nat
  t_bool : Nat
  t_float64 : Nat
  t_func_int__int__float64 : Nat
  t_int : Nat
  t_uint64 : Nat
  f_girderkit_KeptFactor : Nat
  f_girderkit_KeptReals : Nat
  f_girderkit_LentFactor : Nat
  f_girderkit_LentReals : Nat
  f_girderkit_Pick : Nat
  f_girderkit_SameFactor : Nat
  f_girderkit_SameFloat : Nat
  f_girderkit_SameMatrix : Nat
  f_girderkit_SameReals : Nat
  f_girderkit_mark : Nat
  f_girderlaw13_SolveNumbers : Nat
  f_girderlaw13_SolveScales : Nat
  f_girderlaw13_SolveTells : Nat
  f_girderlaw13_SolveTurns : Nat
  f_girderlaw13_SolveWhole : Nat
  f_girderlaw13_at : Nat
  f_girderlaw13_awake : Nat
  f_girderlaw13_entry : Nat
  f_girderlaw13_equal : Nat
  f_girderlaw13_is : Nat
  f_girderlaw13_minus : Nat
  f_girderlaw13_one : Nat
  f_girderlaw13_tame : Nat
  f_girderlaw13_two : Nat
  f_girderlaw13_whole : Nat
  f_girderref13_Back : Nat
  f_girderref13_Forward : Nat
  f_girderref13_Inverse : Nat
  f_girderref13_Right : Nat
  f_girderref13_Solve : Nat
  f_girderref13_at : Nat
  f_girderref13_zero : Nat
  f_lower_Right : Nat
  f_math_Copysign : Nat
  f_math_Float64bits : Nat
  f_math_Float64frombits : Nat
  f_math_Inf : Nat
  f_math_NaN : Nat
  f_matrix_Identity : Nat
  f_matrix_Make : Nat
  f_matrix_Make_1 : Nat
  f_matrix_Right : Nat
  f_matrix_Transpose : Nat
  f_matrix_Transpose_1 : Nat
  f_matrix_fits : Nat
  f_matrix_laid : Nat
  f_slices_Clone___float64_float64 : Nat
  f_slices_Contains___float64_float64 : Nat
  f_slices_Index___float64_float64 : Nat
  f_solve_Back : Nat
  f_solve_Forward : Nat
  f_solve_Inverse : Nat
  f_solve_Solve : Nat
  f_solve_below : Nat
  f_solve_fits : Nat

end Go.Eng
