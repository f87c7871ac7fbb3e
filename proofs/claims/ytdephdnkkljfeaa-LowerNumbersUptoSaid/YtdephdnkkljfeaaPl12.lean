
/-
  The package lower on the plain side: Times. No condition.
-/
import Derived.Test.YtdephdnkkljfeaaPt
set_option linter.all false
set_option maxRecDepth 100000
set_option maxHeartbeats 4000000
namespace Go.Eng
open Go
theorem triInt {n : Nat} (hn : n ≤ 4096) : IntKind.i64.wrap ((IntKind.i64.wrap ((n : Int) * (IntKind.i64.wrap ((n : Int) - 1)))).tdiv 2) = ((tri n : Nat) : Int) := by
  cases n with
  | zero => decide
  | succ n =>
    have e1 : IntKind.i64.wrap (((n + 1 : Nat) : Int) - 1) = ((n + 1 - 1 : Nat) : Int) := by rw [wrI (by omega) (by omega)]; omega
    have hb : (n + 1) * (n + 1 - 1) ≤ 4096 * 4096 := Nat.mul_le_mul (by omega) (by omega)
    have e2 : ((((n + 1) * (n + 1 - 1) : Nat) : Int)).tdiv 2 = ((tri (n + 1) : Nat) : Int) := rfl
    have ht : tri (n + 1) ≤ 4096 * 4096 := Nat.le_trans (Nat.div_le_self _ _) hb
    rw [e1, wrMul (by omega), e2, wrN (by omega)]
def rowL (l : List Nat) (i : Nat) : List Nat := (l.drop (tri i)).take i
theorem rowL_len {l : List Nat} {n i : Nat} (hl : l.length = tri n) (hi : i < n) : (rowL l i).length = i := by
  have := tri_mono (show i + 1 ≤ n by omega)
  rw [tri_succ] at this
  simp [rowL]; omega
theorem row_t {l : List Nat} {n i : Nat} (hn : n ≤ 48) (hl : l.length = tri n) (hi : i < n) : T_lower_row l (i : Int) = some (((tri i : Nat) : Int), ((tri i + i : Nat) : Int)) := by
  have h1 := tri_mono (show i + 1 ≤ n by omega)
  rw [tri_succ] at h1
  have h2 := tri_le hn
  unfold T_lower_row
  rw [triInt (by omega), wrAdd (by omega), sub_nat (by omega) (by omega)]; rfl
theorem rowSub {l : List Nat} {n i : Nat} (hl : l.length = tri n) (hi : i < n) : subL l ((tri i : Nat) : Int) ((tri i + i : Nat) : Int) = some (rowL l i) := by
  have h1 := tri_mono (show i + 1 ≤ n by omega)
  rw [tri_succ] at h1
  rw [sub_nat (by omega) (by omega), Nat.add_sub_cancel_left]; rfl
section
variable {l d : List Nat} {n : Nat} (hn : n ≤ 48) (hl : l.length = tri n) (hd : d.length = n)
include hn hl hd
end
end Go.Eng
