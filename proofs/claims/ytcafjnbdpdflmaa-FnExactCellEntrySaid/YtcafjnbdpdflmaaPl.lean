/- Plain facts on whole numbers (wraps, bits, clamps) that this seat's plain laws share; no program in sight. -/
import Derived.Laws.BitsLemmas
import Derived.Laws.Bits64
import Derived.Test.YtcafjnbdpdflmaaWMore
import Derived.Test.YtcafjnbdpdflmaaWWords
namespace Go.Proofs.Ytcafjnbdpdflmaa.Pl
open Go.RowKit Go.Proofs.YtcafjnbdpdflmaaW.PrintWords Go.Proofs.YtcafjnbdpdflmaaW.PrintMore

theorem wf_i64 {a : Int} (h : (Lit.int .i64 a).wf = true) : -9223372036854775808 ≤ a ∧ a ≤ 9223372036854775807 := by
  simpa [Lit.wf, IntKind.min, IntKind.max, IntKind.bits, IntKind.signed] using h
theorem wf_u64 {a : Int} (h : (Lit.int .u64 a).wf = true) : 0 ≤ a ∧ a ≤ 18446744073709551615 := by
  simpa [Lit.wf, IntKind.min, IntKind.max, IntKind.bits, IntKind.signed] using h
theorem w64 {n : Int} (h0 : -9223372036854775808 ≤ n) (h1 : n ≤ 9223372036854775807) : wrap64 n = n := by
  unfold wrap64; omega
theorem wu64 {n : Int} (h0 : 0 ≤ n) (h1 : n ≤ 18446744073709551615) : IntKind.u64.wrap n = n := by
  rw [IntKind.wrap_u64]; omega
theorem wu64' (n : Int) : IntKind.u64.wrap n = n % 18446744073709551616 := IntKind.wrap_u64 n
theorem wraps_u64 (n : Int) (h0 : 0 ≤ n) (h1 : n < 2 ^ 64) : IntKind.u64.wrap n = n := by
  rw [IntKind.wrap_u64]; omega
/-- A number brought into 0 to m. -/
def cl (n m : Int) : Int := if n < 0 then 0 else if n > m then m else n
theorem cl_lo (n m : Int) (h : 0 ≤ m) : 0 ≤ cl n m := by unfold cl; split <;> (try split) <;> omega
theorem cl_hi (n m : Int) (h : 0 ≤ m) : cl n m ≤ m := by unfold cl; split <;> (try split) <;> omega
theorem cl_id {n m : Int} (h0 : 0 ≤ n) (h1 : n ≤ m) : cl n m = n := by unfold cl; rw [if_neg (by omega), if_neg (by omega)]
theorem cl_mx (n m : Int) (h : 0 ≤ m) : mx 0 (mn n m) = cl n m := by
  unfold mx mn cl
  repeat' split
  all_goals omega
/-- A word's value and stamp. -/
def pack (v s : Int) : Int := cl s 4294967295 * 4294967296 + cl v 4294967295
theorem pack_lo (v s : Int) : 0 ≤ pack v s := by
  have := cl_lo v 4294967295 (by omega); have := cl_lo s 4294967295 (by omega); unfold pack; omega
theorem pack_hi (v s : Int) : pack v s ≤ 18446744073709551615 := by
  have := cl_hi v 4294967295 (by omega); have := cl_hi s 4294967295 (by omega); unfold pack; omega
theorem or_join {s v : Int} (s0 : 0 ≤ s) (s1 : s ≤ 4294967295) (v0 : 0 ≤ v) (v1 : v ≤ 4294967295) : Go.bits .or .u64 (s * 4294967296) v = s * 4294967296 + v :=
  bits_join .u64 64 (by decide) wraps_u64 32 (s * 4294967296) v (by omega) (by omega) (by omega) v0 (by omega) (by omega)
theorem and_low {x : Int} (h0 : 0 ≤ x) (h1 : x ≤ 18446744073709551615) : Go.bits .and .u64 x 4294967295 = x % 4294967296 :=
  bits_mask .u64 64 (by decide) wraps_u64 32 (by decide) x h0 (by omega)
theorem pack_spec (v s : Int) : IntKind.u64.wrap (IntKind.u64.wrap (IntKind.u64.wrap (cl s 4294967295) * 4294967296) + IntKind.u64.wrap (cl v 4294967295)) = pack v s := by
  have := cl_lo v 4294967295 (by omega); have := cl_lo s 4294967295 (by omega)
  have := cl_hi v 4294967295 (by omega); have := cl_hi s 4294967295 (by omega)
  simp only [wu64']; unfold pack; omega
theorem pack_impl (v s : Int) : Go.bits .or .u64 (IntKind.u64.wrap (IntKind.u64.wrap (cl s 4294967295) * 4294967296)) (IntKind.u64.wrap (cl v 4294967295)) = pack v s := by
  have a := cl_lo v 4294967295 (by omega); have b := cl_lo s 4294967295 (by omega)
  have c := cl_hi v 4294967295 (by omega); have d := cl_hi s 4294967295 (by omega)
  rw [wu64 b (by omega), wu64 a (by omega), wu64 (n := cl s 4294967295 * 4294967296) (by omega) (by omega)]
  exact or_join b d a c
/-- What a word's value and stamp are. -/
def wval (w : Int) : Int := w % 4294967296
def wstamp (w : Int) : Int := w / 4294967296
theorem wval_lo (w : Int) : 0 ≤ wval w := by unfold wval; omega
theorem wval_hi (w : Int) : wval w ≤ 4294967295 := by unfold wval; omega
theorem wstamp_lo {w : Int} (h : 0 ≤ w) : 0 ≤ wstamp w := by unfold wstamp; omega
theorem wstamp_hi {w : Int} (h : w ≤ 18446744073709551615) : wstamp w ≤ 4294967295 := by unfold wstamp; omega
theorem val_spec {w : Int} (h0 : 0 ≤ w) : wrap64 (Int.tmod w 4294967296) = wval w := by
  rw [Int.tmod_eq_emod_of_nonneg h0]; unfold wrap64 wval; omega
theorem val_impl {w : Int} (h0 : 0 ≤ w) (h1 : w ≤ 18446744073709551615) : wrap64 (Go.bits .and .u64 w 4294967295) = wval w := by
  rw [and_low h0 h1]; unfold wrap64 wval; omega
theorem stamp_spec {w : Int} (h0 : 0 ≤ w) (h1 : w ≤ 18446744073709551615) : wrap64 (IntKind.u64.wrap (Int.tdiv w 4294967296)) = wstamp w := by
  rw [Int.tdiv_eq_ediv_of_nonneg h0, wu64']; unfold wrap64 wstamp; omega
theorem stamp_impl {w : Int} (h0 : 0 ≤ w) (h1 : w ≤ 18446744073709551615) : wrap64 (w / 4294967296) = wstamp w := by
  unfold wrap64 wstamp; omega
theorem tdivp {a b : Int} (h : 0 ≤ a) : Int.tdiv a b = a / b := Int.tdiv_eq_ediv_of_nonneg h
theorem tmodp {a b : Int} (h : 0 ≤ a) : Int.tmod a b = a % b := Int.tmod_eq_emod_of_nonneg h
end Go.Proofs.Ytcafjnbdpdflmaa.Pl
