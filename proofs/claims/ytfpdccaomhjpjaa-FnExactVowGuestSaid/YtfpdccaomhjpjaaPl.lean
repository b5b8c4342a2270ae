/- Plain facts on whole numbers (wraps, bits, clamps) that this seat's plain laws share; no program in sight. -/
import Derived.Laws.BitsLemmas
import Derived.Laws.Bits64
import Derived.Test.YtfpdccaomhjpjaaWMore
import Derived.Test.YtfpdccaomhjpjaaWWords
set_option linter.unusedVariables false
set_option linter.unusedSimpArgs false
namespace Go.Proofs.Ytfpdccaomhjpjaa.Pl
open Go.RowKit Go.Proofs.YtfpdccaomhjpjaaW.PrintWords Go.Proofs.YtfpdccaomhjpjaaW.PrintMore

theorem wf_i64 {a : Int} (h : (Lit.int .i64 a).wf = true) : -9223372036854775808 ≤ a ∧ a ≤ 9223372036854775807 := by
  simpa [Lit.wf, IntKind.min, IntKind.max, IntKind.bits, IntKind.signed] using h
theorem wf_u64 {a : Int} (h : (Lit.int .u64 a).wf = true) : 0 ≤ a ∧ a ≤ 18446744073709551615 := by
  simpa [Lit.wf, IntKind.min, IntKind.max, IntKind.bits, IntKind.signed] using h
theorem w64 {n : Int} (h0 : -9223372036854775808 ≤ n) (h1 : n ≤ 9223372036854775807) : wrap64 n = n := by
  unfold wrap64; omega
theorem wu64 {n : Int} (h0 : 0 ≤ n) (h1 : n ≤ 18446744073709551615) : IntKind.u64.wrap n = n := by
  rw [IntKind.wrap_u64]; omega
theorem wu64' (n : Int) : IntKind.u64.wrap n = n % 18446744073709551616 := IntKind.wrap_u64 n
theorem wraps_u64 (n : Int) (h0 : 0 ≤ n) (h1 : n < 2 ^ 64) : IntKind.u64.wrap n = n := by
  rw [IntKind.wrap_u64]; omega
/-- A number brought into 0 to m. -/
def cl (n m : Int) : Int := if n < 0 then 0 else if n > m then m else n
theorem cl_lo (n m : Int) (h : 0 ≤ m) : 0 ≤ cl n m := by unfold cl; split <;> (try split) <;> omega
theorem cl_hi (n m : Int) (h : 0 ≤ m) : cl n m ≤ m := by unfold cl; split <;> (try split) <;> omega
theorem cl_id {n m : Int} (h0 : 0 ≤ n) (h1 : n ≤ m) : cl n m = n := by unfold cl; rw [if_neg (by omega), if_neg (by omega)]
theorem cl_mx (n m : Int) (h : 0 ≤ m) : mx 0 (mn n m) = cl n m := by
  unfold mx mn cl
  repeat' split
  all_goals omega
/-- A word's value and stamp. -/
def pack (v s : Int) : Int := cl s 4294967295 * 4294967296 + cl v 4294967295
theorem pack_lo (v s : Int) : 0 ≤ pack v s := by
  have := cl_lo v 4294967295 (by omega); have := cl_lo s 4294967295 (by omega); unfold pack; omega
theorem pack_hi (v s : Int) : pack v s ≤ 18446744073709551615 := by
  have := cl_hi v 4294967295 (by omega); have := cl_hi s 4294967295 (by omega); unfold pack; omega
theorem or_join {s v : Int} (s0 : 0 ≤ s) (s1 : s ≤ 4294967295) (v0 : 0 ≤ v) (v1 : v ≤ 4294967295) : Go.bits .or .u64 (s * 4294967296) v = s * 4294967296 + v :=
  bits_join .u64 64 (by decide) wraps_u64 32 (s * 4294967296) v (by omega) (by omega) (by omega) v0 (by omega) (by omega)
theorem and_low {x : Int} (h0 : 0 ≤ x) (h1 : x ≤ 18446744073709551615) : Go.bits .and .u64 x 4294967295 = x % 4294967296 :=
  bits_mask .u64 64 (by decide) wraps_u64 32 (by decide) x h0 (by omega)
theorem pack_spec (v s : Int) : IntKind.u64.wrap (IntKind.u64.wrap (IntKind.u64.wrap (cl s 4294967295) * 4294967296) + IntKind.u64.wrap (cl v 4294967295)) = pack v s := by
  have := cl_lo v 4294967295 (by omega); have := cl_lo s 4294967295 (by omega)
  have := cl_hi v 4294967295 (by omega); have := cl_hi s 4294967295 (by omega)
  simp only [wu64']; unfold pack; omega
theorem pack_impl (v s : Int) : Go.bits .or .u64 (IntKind.u64.wrap (IntKind.u64.wrap (cl s 4294967295) * 4294967296)) (IntKind.u64.wrap (cl v 4294967295)) = pack v s := by
  have a := cl_lo v 4294967295 (by omega); have b := cl_lo s 4294967295 (by omega)
  have c := cl_hi v 4294967295 (by omega); have d := cl_hi s 4294967295 (by omega)
  rw [wu64 b (by omega), wu64 a (by omega), wu64 (n := cl s 4294967295 * 4294967296) (by omega) (by omega)]
  exact or_join b d a c
theorem bits_xor_i64 {x y : Int} (x0 : 0 ≤ x) (x1 : x < 4611686018427387904) (y0 : 0 ≤ y) (y1 : y < 4611686018427387904) : 0 ≤ Go.bits .xor .i64 x y ∧ Go.bits .xor .i64 x y < 4611686018427387904 := by
  obtain ⟨a, rfl⟩ := Int.eq_ofNat_of_zero_le x0
  obtain ⟨b, rfl⟩ := Int.eq_ofNat_of_zero_le y0
  have ha : a < 2 ^ 62 := by omega
  have hb : b < 2 ^ 62 := by omega
  have hx : a ^^^ b < 2 ^ 62 := Nat.xor_lt_two_pow ha hb
  have e : Go.bits .xor .i64 (a : Int) (b : Int) = ((a ^^^ b : Nat) : Int) := by
    have ha' : a % 2 ^ IntKind.i64.bits = a := Nat.mod_eq_of_lt (by show a < 2 ^ 64; omega)
    have hb' : b % 2 ^ IntKind.i64.bits = b := Nat.mod_eq_of_lt (by show b < 2 ^ 64; omega)
    simp only [Go.bits, BitVec.ofInt_natCast, BitVec.toNat_xor, BitVec.toNat_ofNat, ha', hb']
    rw [IntKind.wrap_i64]; omega
  rw [e]; omega
/-- What a word's value and stamp are. -/
def wval (w : Int) : Int := w % 4294967296
def wstamp (w : Int) : Int := w / 4294967296
theorem wval_lo (w : Int) : 0 ≤ wval w := by unfold wval; omega
theorem wval_hi (w : Int) : wval w ≤ 4294967295 := by unfold wval; omega
theorem wstamp_lo {w : Int} (h : 0 ≤ w) : 0 ≤ wstamp w := by unfold wstamp; omega
theorem wstamp_hi {w : Int} (h : w ≤ 18446744073709551615) : wstamp w ≤ 4294967295 := by unfold wstamp; omega
theorem val_spec {w : Int} (h0 : 0 ≤ w) : wrap64 (Int.tmod w 4294967296) = wval w := by
  rw [Int.tmod_eq_emod_of_nonneg h0]; unfold wrap64 wval; omega
theorem val_impl {w : Int} (h0 : 0 ≤ w) (h1 : w ≤ 18446744073709551615) : wrap64 (Go.bits .and .u64 w 4294967295) = wval w := by
  rw [and_low h0 h1]; unfold wrap64 wval; omega
theorem stamp_spec {w : Int} (h0 : 0 ≤ w) (h1 : w ≤ 18446744073709551615) : wrap64 (IntKind.u64.wrap (Int.tdiv w 4294967296)) = wstamp w := by
  rw [Int.tdiv_eq_ediv_of_nonneg h0, wu64']; unfold wrap64 wstamp; omega
theorem stamp_impl {w : Int} (h0 : 0 ≤ w) (h1 : w ≤ 18446744073709551615) : wrap64 (w / 4294967296) = wstamp w := by
  unfold wrap64 wstamp; omega
theorem tdivp {a b : Int} (h : 0 ≤ a) : Int.tdiv a b = a / b := Int.tdiv_eq_ediv_of_nonneg h
theorem tmodp {a b : Int} (h : 0 ≤ a) : Int.tmod a b = a % b := Int.tmod_eq_emod_of_nonneg h
/-! ### houses -/
/-- Is it a house: slots, pages, lease. -/
def pok (a b c : Int) : Prop := (1 ≤ a ∧ a ≤ 4) ∧ (1 ≤ b ∧ b ≤ 6) ∧ (1 ≤ c ∧ c ≤ 20)
instance (a b c : Int) : Decidable (pok a b c) := inferInstanceAs (Decidable ((1 ≤ a ∧ a ≤ 4) ∧ (1 ≤ b ∧ b ≤ 6) ∧ (1 ≤ c ∧ c ≤ 20)))
/-- The words that are not desks, and all. -/
def house (a b : Int) : Int := 7 + 2 * a + 17 * b
def hsize (a b : Int) : Int := 7 + 23 * a + 17 * b
/-! ### lists -/
theorem rd_nat (x : List Int) (i : Nat) (h : i < x.length) : rd x i = x[i] := by
  unfold rd; rw [Int.toNat_natCast, List.getD_eq_getElem?_getD, List.getElem?_eq_getElem h]; rfl
theorem rd_get (x : List Int) {i : Int} (h0 : 0 ≤ i) (h : i.toNat < x.length) : rd x i = x[i.toNat] := by
  unfold rd; rw [List.getD_eq_getElem?_getD, List.getElem?_eq_getElem h]; rfl
theorem rd_mem (x : List Int) {i : Int} (h0 : 0 ≤ i) (h : i < x.length) : rd x i ∈ x := by
  rw [rd_get x h0 (by omega)]; exact List.getElem_mem _
/-- The house that a first word tells, checked. -/
def chk (l : List Int) : Int × Int × Int × Bool :=
  if l.length = 0 then (0, 0, 0, false) else
  if pok (wval (rd l 0) % 8) (wval (rd l 0) / 8 % 8) (wval (rd l 0) / 64) ∧ wstamp (rd l 0) = 201115 ∧ (l.length : Int) = hsize (wval (rd l 0) % 8) (wval (rd l 0) / 8 % 8)
  then (wval (rd l 0) % 8, wval (rd l 0) / 8 % 8, wval (rd l 0) / 64, true) else (0, 0, 0, false)
/-- The house that a first word tells. -/
def cfgd (l : List Int) : Int × Int × Int × Bool :=
  if l.length = 0 then (0, 0, 0, false) else if wstamp (rd l 0) = 201115 then (wval (rd l 0) % 8, wval (rd l 0) / 8 % 8, wval (rd l 0) / 64, decide (pok (wval (rd l 0) % 8) (wval (rd l 0) / 8 % 8) (wval (rd l 0) / 64))) else (0, 0, 0, false)
/-- What a check that went well says. -/
theorem chk_cases (l : List Int) : chk l = (0, 0, 0, false) ∨ ∃ a b c, chk l = (a, b, c, true) ∧ pok a b c ∧ (l.length : Int) = hsize a b := by
  unfold chk
  split
  · exact .inl rfl
  · split
    · rename_i h
      exact .inr ⟨_, _, _, rfl, h.1, h.2.2⟩
    · exact .inl rfl
theorem pack_iff {w : Int} (h0 : 0 ≤ w) (h1 : w ≤ 18446744073709551615) : w = pack (wval w) 201115 ↔ wstamp w = 201115 := by
  unfold pack
  rw [cl_id (wval_lo w) (wval_hi w), cl_id (by omega) (by omega)]
  unfold wval wstamp
  constructor <;> intro h <;> omega
theorem words_ok {l : List Int} (h : ∀ x ∈ l, (Lit.int .u64 x).wf = true) : ∀ x ∈ l, 0 ≤ x ∧ x ≤ 18446744073709551615 := fun x hx => wf_u64 (h x hx)
/-- Copying one element more. -/
theorem take_set {α : Type} (x : List α) (z : α) (i : Nat) (h : i < x.length) : (x.take i ++ List.replicate (x.length - i) z).set i x[i] = x.take (i + 1) ++ List.replicate (x.length - (i + 1)) z := by
  have e : x.length - i = (x.length - (i + 1)) + 1 := by omega
  rw [e, List.replicate_succ, List.set_append_right _ _ (by rw [List.length_take]; omega), List.length_take, Nat.min_eq_left (by omega), Nat.sub_self, List.set_cons_zero, List.take_succ_eq_append_getElem h, List.append_assoc]
  rfl
theorem succ_cast (i : Nat) : ((i : Int) + 1) = ((i + 1 : Nat) : Int) := by omega
/-- n numbers from a on, as words. -/
def marked (n : Nat) (a : Int) : List Int := (List.range n).map fun j : Nat => IntKind.u64.wrap (a + (j : Int))
theorem marked_length (n : Nat) (a : Int) : (marked n a).length = n := by simp [marked]
theorem marked_get (n : Nat) (a : Int) (i : Nat) (h : i < n) : (marked n a)[i]'(by rw [marked_length]; exact h) = IntKind.u64.wrap (a + (i : Int)) := by simp [marked]
theorem marked_succ (n : Nat) (a : Int) : marked (n + 1) a = marked n a ++ [IntKind.u64.wrap (a + (n : Int))] := by simp [marked, List.range_succ]
theorem mark_set (x : List Int) (a : Int) (i : Nat) (h : i < x.length) : (marked i a ++ x.drop i).set i (IntKind.u64.wrap (a + (i : Int))) = marked (i + 1) a ++ x.drop (i + 1) := by
  rw [List.set_append_right _ _ (by rw [marked_length]; omega), marked_length, Nat.sub_self, List.drop_eq_getElem_cons h, List.set_cons_zero, marked_succ, List.append_assoc]
  rfl
/-- The same of whole numbers. -/
def markedI (n : Nat) (a : Int) : List Int := (List.range n).map fun j : Nat => a + (j : Int)
theorem markedI_length (n : Nat) (a : Int) : (markedI n a).length = n := by simp [markedI]
theorem markedI_get (n : Nat) (a : Int) (i : Nat) (h : i < n) : (markedI n a)[i]'(by rw [markedI_length]; exact h) = a + (i : Int) := by simp [markedI]
theorem markedI_succ (n : Nat) (a : Int) : markedI (n + 1) a = markedI n a ++ [a + (n : Int)] := by simp [markedI, List.range_succ]
theorem markI_set (x : List Int) (a : Int) (i : Nat) (h : i < x.length) : (markedI i a ++ x.drop i).set i (a + (i : Int)) = markedI (i + 1) a ++ x.drop (i + 1) := by
  rw [List.set_append_right _ _ (by rw [markedI_length]; omega), markedI_length, Nat.sub_self, List.drop_eq_getElem_cons h, List.set_cons_zero, markedI_succ, List.append_assoc]
  rfl
end Go.Proofs.Ytfpdccaomhjpjaa.Pl
