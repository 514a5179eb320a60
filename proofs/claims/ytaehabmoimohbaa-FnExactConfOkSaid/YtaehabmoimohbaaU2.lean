/- Generic part: an evaluator of functions on plain data, and its soundness against the model. -/
import Derived.Test.YtaehabmoimohbaaTevS
import Derived.Test.YtaehabmoimohbaaU1
namespace Tev
open Go
set_option maxRecDepth 10000
set_option maxHeartbeats 2000000
section
variable {F : List (Nat × Fn)}
theorem l1In_ev (h : F.lookup 1 = some c_spec_l1In) (x a b : Int) : ev F 1 [iv x, iv a, iv b] = some ([bv (decide (a ≤ x ∧ x ≤ b))], []) := by
  rw [ev_eq h]
  by_cases h : a ≤ x <;> simp [c_spec_l1In, h]
theorem within_ev (h : F.lookup 2 = some c_impl_within) (x a b : Int) : ev F 2 [iv x, iv a, iv b] = some ([bv (decide (a ≤ x ∧ x ≤ b))], []) := by
  rw [ev_eq h]
  by_cases h : a ≤ x <;> simp [c_impl_within, h]
abbrev conf (a b c d : Int) : A := .v true [.t (.int .i64 a), .t (.int .i64 b), .t (.int .i64 c), .t (.int .i64 d)]
theorem toConf_ev (h : F.lookup 3 = some c_laws_toConf) (a b c d : Int) : ev F 3 [conf a b c d] = some ([conf a b c d], []) := by
  rw [ev_eq h]
  simp [c_laws_toConf]
def confOk (a b c d : Int) : Bool := decide (2 ≤ a ∧ a ≤ 6) && (decide (1 ≤ b ∧ b ≤ 40) && (decide (1 ≤ c ∧ c ≤ 5) && decide (2 ≤ d ∧ d ≤ 8)))
theorem specConfOk_ev (h : F.lookup 4 = some c_spec_ConfOk) (h1 : F.lookup 1 = some c_spec_l1In) (a b c d : Int) : ev F 4 [conf a b c d] = some ([bv (confOk a b c d)], []) := by
  rw [ev_eq h]
  by_cases ha : 2 ≤ a ∧ a ≤ 6
  · by_cases hb : 1 ≤ b ∧ b ≤ 40
    · by_cases hc : 1 ≤ c ∧ c ≤ 5
      · simp [c_spec_ConfOk, l1In_ev h1, confOk, ha, hb, hc]
      · simp [c_spec_ConfOk, l1In_ev h1, confOk, ha, hb, hc]
    · simp [c_spec_ConfOk, l1In_ev h1, confOk, ha, hb]
  · simp [c_spec_ConfOk, l1In_ev h1, confOk, ha]
theorem implConfOk_ev (h : F.lookup 5 = some c_impl_ConfOk) (h1 : F.lookup 2 = some c_impl_within) (a b c d : Int) : ev F 5 [conf a b c d] = some ([bv (confOk a b c d)], []) := by
  rw [ev_eq h]
  by_cases ha : 2 ≤ a ∧ a ≤ 6
  · by_cases hb : 1 ≤ b ∧ b ≤ 40
    · by_cases hc : 1 ≤ c ∧ c ≤ 5
      · simp [c_impl_ConfOk, within_ev h1, confOk, ha, hb, hc]
      · simp [c_impl_ConfOk, within_ev h1, confOk, ha, hb, hc]
    · simp [c_impl_ConfOk, within_ev h1, confOk, ha, hb]
  · simp [c_impl_ConfOk, within_ev h1, confOk, ha]
def confOkF : List (Nat × Fn) := [(1, c_spec_l1In), (2, c_impl_within), (3, c_laws_toConf), (4, c_spec_ConfOk), (5, c_impl_ConfOk), (99, c_laws_FnExactConfOk)]
theorem lawConfOk (a b c d : Int) : ev confOkF 99 [conf a b c d] = some ([bv true], []) := by
  rw [ev_eq (fn := c_laws_FnExactConfOk) rfl]
  simp [c_laws_FnExactConfOk, toConf_ev (F := confOkF) rfl, specConfOk_ev (F := confOkF) rfl rfl, implConfOk_ev (F := confOkF) rfl rfl]
end
end Tev
