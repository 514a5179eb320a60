/- Generic part: an evaluator of functions on plain data, and its soundness against the model. -/
import Derived.Test.YtaehabmoimohbaaTevS
import Derived.Test.YtaehabmoimohbaaU1
namespace Tev
open Go
set_option maxRecDepth 10000
set_option maxHeartbeats 2000000
section
variable {F : List (Nat × Fn)}
theorem specConfNew_ev (h : F.lookup 6 = some c_spec_ConfNew) : ev F 6 [] = some ([.v true [.t (.int .i64 4), .t (.int .i64 3), .t (.int .i64 2), .t (.int .i64 4)]], []) := by
  rw [ev_eq h]
  simp [c_spec_ConfNew]
theorem implConfNew_ev (h : F.lookup 7 = some c_impl_ConfNew) : ev F 7 [] = some ([.v true [.t (.int .i64 4), .t (.int .i64 3), .t (.int .i64 2), .t (.int .i64 4)]], []) := by
  rw [ev_eq h]
  simp [c_impl_ConfNew]
theorem eqConf_ev (h : F.lookup 8 = some c_laws_eqConf) (a b c d a' b' c' d' : Int) : ev F 8 [.v true [.t (.int .i64 a), .t (.int .i64 b), .t (.int .i64 c), .t (.int .i64 d)], .v true [.t (.int .i64 a'), .t (.int .i64 b'), .t (.int .i64 c'), .t (.int .i64 d')]] =
    some ([bv (decide (a = a') && (decide (b = b') && (decide (c = c') && decide (d = d'))))], []) := by
  rw [ev_eq h]
  by_cases ha : a = a'
  · by_cases hb : b = b'
    · by_cases hc : c = c'
      · by_cases hd : d = d'
        · simp [c_laws_eqConf, ha, hb, hc, hd]
        · simp [c_laws_eqConf, ha, hb, hc, hd]
      · simp [c_laws_eqConf, ha, hb, hc]
    · simp [c_laws_eqConf, ha, hb]
  · simp [c_laws_eqConf, ha]
def confNewF : List (Nat × Fn) := [(6, c_spec_ConfNew), (7, c_impl_ConfNew), (8, c_laws_eqConf), (100, c_laws_FnExactConfNew)]
theorem lawConfNew : ev confNewF 100 [] = some ([bv true], []) := by
  rw [ev_eq (fn := c_laws_FnExactConfNew) rfl]
  simp [c_laws_FnExactConfNew, specConfNew_ev (F := confNewF) rfl, implConfNew_ev (F := confNewF) rfl, eqConf_ev (F := confNewF) rfl]
end
end Tev
