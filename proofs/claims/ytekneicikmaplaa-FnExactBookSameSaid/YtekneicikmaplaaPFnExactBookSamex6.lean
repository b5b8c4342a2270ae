-- own text, written by wip/tools/pp.py
import Derived.Test.YtekneicikmaplaaPFnExactBookSamex0
import Derived.Test.YtekneicikmaplaaPFnExactBookSamex1
import Derived.Test.YtekneicikmaplaaPFnExactBookSamex2
import Derived.Test.YtekneicikmaplaaPFnExactBookSamex3
import Derived.Test.YtekneicikmaplaaPFnExactBookSamex4
import Derived.Test.YtekneicikmaplaaPFnExactBookSamex5
namespace Go.Proofs.Ytekneicikmaplaa.PFnExactBookSame
open Go.RowKit Go.Proofs.YtekneicikmaplaaW.PrintWords Go.Proofs.YtekneicikmaplaaW.PrintLast Go.Proofs.YtekneicikmaplaaW.PrintMore
attribute [local go_sem] max2_int min2_int max_two min_two max_three min_three max_four min_four   -- for this text's walks alone
set_option linter.unusedVariables false
set_option linter.unusedSimpArgs false

/-! ### laws_FnExactBookSame: function 4 -/
def laws_FnExactBookSame.f (k : Nat) (a0_0 : Int) (l0_1 : List Int) (l0_2 : List Int) (l0_3 : List Int) (l0_4 : List Int) (l0_5 : List Int) (l0_6 : List Int) (l0_7 : List Int) (l0_8 : List Int) (a1_0 : Int) (l1_1 : List Int) (l1_2 : List Int) (l1_3 : List Int) (l1_4 : List Int) (l1_5 : List Int) (l1_6 : List Int) (l1_7 : List Int) (l1_8 : List Int) : Option (Bool) := (laws_szBook.f k a0_0 l0_1 l0_2 l0_3 l0_4 l0_5 l0_6 l0_7 l0_8 1048576).bind fun t200 => (if t200 < 0 then (some true) else ((laws_szBook.f k a1_0 l1_1 l1_2 l1_3 l1_4 l1_5 l1_6 l1_7 l1_8 t200).bind fun t201 => (if t201 < 0 then (some true) else ((laws_toBook.f k a0_0 l0_1 l0_2 l0_3 l0_4 l0_5 l0_6 l0_7 l0_8).bind fun bt202 => ((laws_toBook.f k a1_0 l1_1 l1_2 l1_3 l1_4 l1_5 l1_6 l1_7 l1_8).bind fun bt227 => ((spec_BookSame.f k bt202.1 bt202.2.1 bt202.2.2.1 bt202.2.2.2.1 bt202.2.2.2.2.1 bt202.2.2.2.2.2.1 bt202.2.2.2.2.2.2.1 bt202.2.2.2.2.2.2.2.1 bt202.2.2.2.2.2.2.2.2 bt227.1 bt227.2.1 bt227.2.2.1 bt227.2.2.2.1 bt227.2.2.2.2.1 bt227.2.2.2.2.2.1 bt227.2.2.2.2.2.2.1 bt227.2.2.2.2.2.2.2.1 bt227.2.2.2.2.2.2.2.2).bind fun t252 => ((laws_toBook.f k a0_0 l0_1 l0_2 l0_3 l0_4 l0_5 l0_6 l0_7 l0_8).bind fun bt253 => ((laws_toBook.f k a1_0 l1_1 l1_2 l1_3 l1_4 l1_5 l1_6 l1_7 l1_8).bind fun bt279 => ((impl_BookSame.f k bt253.1 bt253.2.1 bt253.2.2.1 bt253.2.2.2.1 bt253.2.2.2.2.1 bt253.2.2.2.2.2.1 bt253.2.2.2.2.2.2.1 bt253.2.2.2.2.2.2.2.1 bt253.2.2.2.2.2.2.2.2 bt279.1 bt279.2.1 bt279.2.2.1 bt279.2.2.2.1 bt279.2.2.2.2.1 bt279.2.2.2.2.2.1 bt279.2.2.2.2.2.2.1 bt279.2.2.2.2.2.2.2.1 bt279.2.2.2.2.2.2.2.2).bind fun t305 => (if (t305 != t252) = true then (none) else ((laws_toBook.f k a0_0 l0_1 l0_2 l0_3 l0_4 l0_5 l0_6 l0_7 l0_8).bind fun bt306 => ((laws_eqBook.f k bt253.1 bt253.2.1 bt253.2.2.1 bt253.2.2.2.1 bt253.2.2.2.2.1 bt253.2.2.2.2.2.1 bt253.2.2.2.2.2.2.1 bt253.2.2.2.2.2.2.2.1 bt253.2.2.2.2.2.2.2.2 bt306.1 bt306.2.1 bt306.2.2.1 bt306.2.2.2.1 bt306.2.2.2.2.1 bt306.2.2.2.2.2.1 bt306.2.2.2.2.2.2.1 bt306.2.2.2.2.2.2.2.1 bt306.2.2.2.2.2.2.2.2).bind fun t331 => (if t331 = true then ((laws_toBook.f k a1_0 l1_1 l1_2 l1_3 l1_4 l1_5 l1_6 l1_7 l1_8).bind fun bt332 => ((laws_eqBook.f k bt279.1 bt279.2.1 bt279.2.2.1 bt279.2.2.2.1 bt279.2.2.2.2.1 bt279.2.2.2.2.2.1 bt279.2.2.2.2.2.2.1 bt279.2.2.2.2.2.2.2.1 bt279.2.2.2.2.2.2.2.2 bt332.1 bt332.2.1 bt332.2.2.1 bt332.2.2.2.1 bt332.2.2.2.2.1 bt332.2.2.2.2.2.1 bt332.2.2.2.2.2.2.1 bt332.2.2.2.2.2.2.2.1 bt332.2.2.2.2.2.2.2.2).bind fun t357 => (if t357 = true then (some true) else (none)))) else (none))))))))))))))
theorem laws_FnExactBookSame.mono : ∀ a0 a1 a2 a3 a4 a5 a6 a7 a8 a9 a10 a11 a12 a13 a14 a15 a16 a17 k, LeO (laws_FnExactBookSame.f k a0 a1 a2 a3 a4 a5 a6 a7 a8 a9 a10 a11 a12 a13 a14 a15 a16 a17) (laws_FnExactBookSame.f (k + 1) a0 a1 a2 a3 a4 a5 a6 a7 a8 a9 a10 a11 a12 a13 a14 a15 a16 a17) := by
  intro a0 a1 a2 a3 a4 a5 a6 a7 a8 a9 a10 a11 a12 a13 a14 a15 a16 a17 k
  unfold laws_FnExactBookSame.f
  repeat' first
      | (with_reducible exact impl_BookSame.mono _ _ _ _ _ _ _ _ _ _ _ _ _ _ _ _ _ _ _)
      | (with_reducible exact laws_eqBook.mono _ _ _ _ _ _ _ _ _ _ _ _ _ _ _ _ _ _ _)
      | (with_reducible exact laws_szBook.mono _ _ _ _ _ _ _ _ _ _ _)
      | (with_reducible exact laws_toBook.mono _ _ _ _ _ _ _ _ _ _)
      | (with_reducible exact spec_BookSame.mono _ _ _ _ _ _ _ _ _ _ _ _ _ _ _ _ _ _ _)
      | (with_reducible exact LeO.refl _)
      | (with_reducible exact LeO.none _)
      | (with_reducible refine LeO.ite ?_ ?_)
      | (with_reducible refine LeO.bind ?_ (fun _ => ?_))
      | exact impl_BookSame.mono _ _ _ _ _ _ _ _ _ _ _ _ _ _ _ _ _ _ _
      | exact laws_eqBook.mono _ _ _ _ _ _ _ _ _ _ _ _ _ _ _ _ _ _ _
      | exact laws_szBook.mono _ _ _ _ _ _ _ _ _ _ _
      | exact laws_toBook.mono _ _ _ _ _ _ _ _ _ _
      | exact spec_BookSame.mono _ _ _ _ _ _ _ _ _ _ _ _ _ _ _ _ _ _ _
      | exact LeO.none _
      | refine LeO.ite ?_ ?_
      | refine LeO.bind ?_ (fun _ => ?_)
set_option maxHeartbeats 100000000 in
set_option maxRecDepth 100000 in
theorem laws_FnExactBookSame.calls (k : Nat) (a0_0 : Int) (A0_1 : Option Addr) (c0_1 : Nat) (l0_1 : List Int) (A0_2 : Option Addr) (c0_2 : Nat) (l0_2 : List Int) (A0_3 : Option Addr) (c0_3 : Nat) (l0_3 : List Int) (A0_4 : Option Addr) (c0_4 : Nat) (l0_4 : List Int) (A0_5 : Option Addr) (c0_5 : Nat) (l0_5 : List Int) (A0_6 : Option Addr) (c0_6 : Nat) (l0_6 : List Int) (A0_7 : Option Addr) (c0_7 : Nat) (l0_7 : List Int) (A0_8 : Option Addr) (c0_8 : Nat) (l0_8 : List Int) (a1_0 : Int) (A1_1 : Option Addr) (c1_1 : Nat) (l1_1 : List Int) (A1_2 : Option Addr) (c1_2 : Nat) (l1_2 : List Int) (A1_3 : Option Addr) (c1_3 : Nat) (l1_3 : List Int) (A1_4 : Option Addr) (c1_4 : Nat) (l1_4 : List Int) (A1_5 : Option Addr) (c1_5 : Nat) (l1_5 : List Int) (A1_6 : Option Addr) (c1_6 : Nat) (l1_6 : List Int) (A1_7 : Option Addr) (c1_7 : Nat) (l1_7 : List Int) (A1_8 : Option Addr) (c1_8 : Nat) (l1_8 : List Int) (r : Bool) (w : World) (hr0_1 : Kd.C (Kd.int .i64) w A0_1 l0_1.length l0_1) (hc0_1 : l0_1.length ≤ c0_1) (hr0_2 : Kd.C (Kd.int .i64) w A0_2 l0_2.length l0_2) (hc0_2 : l0_2.length ≤ c0_2) (hr0_3 : Kd.C (Kd.int .i64) w A0_3 l0_3.length l0_3) (hc0_3 : l0_3.length ≤ c0_3) (hr0_4 : Kd.C (Kd.int .i64) w A0_4 l0_4.length l0_4) (hc0_4 : l0_4.length ≤ c0_4) (hr0_5 : Kd.C (Kd.int .i64) w A0_5 l0_5.length l0_5) (hc0_5 : l0_5.length ≤ c0_5) (hr0_6 : Kd.C (Kd.int .i64) w A0_6 l0_6.length l0_6) (hc0_6 : l0_6.length ≤ c0_6) (hr0_7 : Kd.C (Kd.int .i64) w A0_7 l0_7.length l0_7) (hc0_7 : l0_7.length ≤ c0_7) (hr0_8 : Kd.C (Kd.int .i64) w A0_8 l0_8.length l0_8) (hc0_8 : l0_8.length ≤ c0_8) (hr1_1 : Kd.C (Kd.int .i64) w A1_1 l1_1.length l1_1) (hc1_1 : l1_1.length ≤ c1_1) (hr1_2 : Kd.C (Kd.int .i64) w A1_2 l1_2.length l1_2) (hc1_2 : l1_2.length ≤ c1_2) (hr1_3 : Kd.C (Kd.int .i64) w A1_3 l1_3.length l1_3) (hc1_3 : l1_3.length ≤ c1_3) (hr1_4 : Kd.C (Kd.int .i64) w A1_4 l1_4.length l1_4) (hc1_4 : l1_4.length ≤ c1_4) (hr1_5 : Kd.C (Kd.int .i64) w A1_5 l1_5.length l1_5) (hc1_5 : l1_5.length ≤ c1_5) (hr1_6 : Kd.C (Kd.int .i64) w A1_6 l1_6.length l1_6) (hc1_6 : l1_6.length ≤ c1_6) (hr1_7 : Kd.C (Kd.int .i64) w A1_7 l1_7.length l1_7) (hc1_7 : l1_7.length ≤ c1_7) (hr1_8 : Kd.C (Kd.int .i64) w A1_8 l1_8.length l1_8) (hc1_8 : l1_8.length ≤ c1_8) (h : laws_FnExactBookSame.f k a0_0 l0_1 l0_2 l0_3 l0_4 l0_5 l0_6 l0_7 l0_8 a1_0 l1_1 l1_2 l1_3 l1_4 l1_5 l1_6 l1_7 l1_8 = some r) :
    Calls Try.prog 4 #[.agg #[.int .i64 a0_0, .slice A0_1 l0_1.length c0_1, .slice A0_2 l0_2.length c0_2, .slice A0_3 l0_3.length c0_3, .slice A0_4 l0_4.length c0_4, .slice A0_5 l0_5.length c0_5, .slice A0_6 l0_6.length c0_6, .slice A0_7 l0_7.length c0_7, .slice A0_8 l0_8.length c0_8], .agg #[.int .i64 a1_0, .slice A1_1 l1_1.length c1_1, .slice A1_2 l1_2.length c1_2, .slice A1_3 l1_3.length c1_3, .slice A1_4 l1_4.length c1_4, .slice A1_5 l1_5.length c1_5, .slice A1_6 l1_6.length c1_6, .slice A1_7 l1_7.length c1_7, .slice A1_8 l1_8.length c1_8]] w fun e w' => e = .returned (.bool r) ∧ Below w.heap.size w w' := by
  have hu34 := Try.underlying34
  have hu27 := Try.underlying27
  have HR0_1 := Aside0.mk hr0_1
  have HC0_1 := Aside0.mk hc0_1
  clear hr0_1 hc0_1
  have HR0_2 := Aside0.mk hr0_2
  have HC0_2 := Aside0.mk hc0_2
  clear hr0_2 hc0_2
  have HR0_3 := Aside0.mk hr0_3
  have HC0_3 := Aside0.mk hc0_3
  clear hr0_3 hc0_3
  have HR0_4 := Aside0.mk hr0_4
  have HC0_4 := Aside0.mk hc0_4
  clear hr0_4 hc0_4
  have HR0_5 := Aside0.mk hr0_5
  have HC0_5 := Aside0.mk hc0_5
  clear hr0_5 hc0_5
  have HR0_6 := Aside0.mk hr0_6
  have HC0_6 := Aside0.mk hc0_6
  clear hr0_6 hc0_6
  have HR0_7 := Aside0.mk hr0_7
  have HC0_7 := Aside0.mk hc0_7
  clear hr0_7 hc0_7
  have HR0_8 := Aside0.mk hr0_8
  have HC0_8 := Aside0.mk hc0_8
  clear hr0_8 hc0_8
  have HR1_1 := Aside0.mk hr1_1
  have HC1_1 := Aside0.mk hc1_1
  clear hr1_1 hc1_1
  have HR1_2 := Aside0.mk hr1_2
  have HC1_2 := Aside0.mk hc1_2
  clear hr1_2 hc1_2
  have HR1_3 := Aside0.mk hr1_3
  have HC1_3 := Aside0.mk hc1_3
  clear hr1_3 hc1_3
  have HR1_4 := Aside0.mk hr1_4
  have HC1_4 := Aside0.mk hc1_4
  clear hr1_4 hc1_4
  have HR1_5 := Aside0.mk hr1_5
  have HC1_5 := Aside0.mk hc1_5
  clear hr1_5 hc1_5
  have HR1_6 := Aside0.mk hr1_6
  have HC1_6 := Aside0.mk hc1_6
  clear hr1_6 hc1_6
  have HR1_7 := Aside0.mk hr1_7
  have HC1_7 := Aside0.mk hc1_7
  clear hr1_7 hc1_7
  have HR1_8 := Aside0.mk hr1_8
  have HC1_8 := Aside0.mk hc1_8
  clear hr1_8 hc1_8
  have HB := Aside0.mk (Below.refl w.heap.size w)
  have H : ((laws_szBook.f k a0_0 l0_1 l0_2 l0_3 l0_4 l0_5 l0_6 l0_7 l0_8 1048576).bind fun t200 => (if t200 < 0 then (some true) else ((laws_szBook.f k a1_0 l1_1 l1_2 l1_3 l1_4 l1_5 l1_6 l1_7 l1_8 t200).bind fun t201 => (if t201 < 0 then (some true) else ((laws_toBook.f k a0_0 l0_1 l0_2 l0_3 l0_4 l0_5 l0_6 l0_7 l0_8).bind fun bt202 => ((laws_toBook.f k a1_0 l1_1 l1_2 l1_3 l1_4 l1_5 l1_6 l1_7 l1_8).bind fun bt227 => ((spec_BookSame.f k bt202.1 bt202.2.1 bt202.2.2.1 bt202.2.2.2.1 bt202.2.2.2.2.1 bt202.2.2.2.2.2.1 bt202.2.2.2.2.2.2.1 bt202.2.2.2.2.2.2.2.1 bt202.2.2.2.2.2.2.2.2 bt227.1 bt227.2.1 bt227.2.2.1 bt227.2.2.2.1 bt227.2.2.2.2.1 bt227.2.2.2.2.2.1 bt227.2.2.2.2.2.2.1 bt227.2.2.2.2.2.2.2.1 bt227.2.2.2.2.2.2.2.2).bind fun t252 => ((laws_toBook.f k a0_0 l0_1 l0_2 l0_3 l0_4 l0_5 l0_6 l0_7 l0_8).bind fun bt253 => ((laws_toBook.f k a1_0 l1_1 l1_2 l1_3 l1_4 l1_5 l1_6 l1_7 l1_8).bind fun bt279 => ((impl_BookSame.f k bt253.1 bt253.2.1 bt253.2.2.1 bt253.2.2.2.1 bt253.2.2.2.2.1 bt253.2.2.2.2.2.1 bt253.2.2.2.2.2.2.1 bt253.2.2.2.2.2.2.2.1 bt253.2.2.2.2.2.2.2.2 bt279.1 bt279.2.1 bt279.2.2.1 bt279.2.2.2.1 bt279.2.2.2.2.1 bt279.2.2.2.2.2.1 bt279.2.2.2.2.2.2.1 bt279.2.2.2.2.2.2.2.1 bt279.2.2.2.2.2.2.2.2).bind fun t305 => (if (t305 != t252) = true then (none) else ((laws_toBook.f k a0_0 l0_1 l0_2 l0_3 l0_4 l0_5 l0_6 l0_7 l0_8).bind fun bt306 => ((laws_eqBook.f k bt253.1 bt253.2.1 bt253.2.2.1 bt253.2.2.2.1 bt253.2.2.2.2.1 bt253.2.2.2.2.2.1 bt253.2.2.2.2.2.2.1 bt253.2.2.2.2.2.2.2.1 bt253.2.2.2.2.2.2.2.2 bt306.1 bt306.2.1 bt306.2.2.1 bt306.2.2.2.1 bt306.2.2.2.2.1 bt306.2.2.2.2.2.1 bt306.2.2.2.2.2.2.1 bt306.2.2.2.2.2.2.2.1 bt306.2.2.2.2.2.2.2.2).bind fun t331 => (if t331 = true then ((laws_toBook.f k a1_0 l1_1 l1_2 l1_3 l1_4 l1_5 l1_6 l1_7 l1_8).bind fun bt332 => ((laws_eqBook.f k bt279.1 bt279.2.1 bt279.2.2.1 bt279.2.2.2.1 bt279.2.2.2.2.1 bt279.2.2.2.2.2.1 bt279.2.2.2.2.2.2.1 bt279.2.2.2.2.2.2.2.1 bt279.2.2.2.2.2.2.2.2 bt332.1 bt332.2.1 bt332.2.2.1 bt332.2.2.2.1 bt332.2.2.2.2.1 bt332.2.2.2.2.2.1 bt332.2.2.2.2.2.2.1 bt332.2.2.2.2.2.2.2.1 bt332.2.2.2.2.2.2.2.2).bind fun t357 => (if t357 = true then (some true) else (none)))) else (none))))))))))))))) = some r := h
  clear h
  replace H := Option.bind_eq_some_iff.mp H
  obtain ⟨t200, A30, H⟩ := H
  replace H : (if t200 < 0 then (some true) else ((laws_szBook.f k a1_0 l1_1 l1_2 l1_3 l1_4 l1_5 l1_6 l1_7 l1_8 t200).bind fun t201 => (if t201 < 0 then (some true) else ((laws_toBook.f k a0_0 l0_1 l0_2 l0_3 l0_4 l0_5 l0_6 l0_7 l0_8).bind fun bt202 => ((laws_toBook.f k a1_0 l1_1 l1_2 l1_3 l1_4 l1_5 l1_6 l1_7 l1_8).bind fun bt227 => ((spec_BookSame.f k bt202.1 bt202.2.1 bt202.2.2.1 bt202.2.2.2.1 bt202.2.2.2.2.1 bt202.2.2.2.2.2.1 bt202.2.2.2.2.2.2.1 bt202.2.2.2.2.2.2.2.1 bt202.2.2.2.2.2.2.2.2 bt227.1 bt227.2.1 bt227.2.2.1 bt227.2.2.2.1 bt227.2.2.2.2.1 bt227.2.2.2.2.2.1 bt227.2.2.2.2.2.2.1 bt227.2.2.2.2.2.2.2.1 bt227.2.2.2.2.2.2.2.2).bind fun t252 => ((laws_toBook.f k a0_0 l0_1 l0_2 l0_3 l0_4 l0_5 l0_6 l0_7 l0_8).bind fun bt253 => ((laws_toBook.f k a1_0 l1_1 l1_2 l1_3 l1_4 l1_5 l1_6 l1_7 l1_8).bind fun bt279 => ((impl_BookSame.f k bt253.1 bt253.2.1 bt253.2.2.1 bt253.2.2.2.1 bt253.2.2.2.2.1 bt253.2.2.2.2.2.1 bt253.2.2.2.2.2.2.1 bt253.2.2.2.2.2.2.2.1 bt253.2.2.2.2.2.2.2.2 bt279.1 bt279.2.1 bt279.2.2.1 bt279.2.2.2.1 bt279.2.2.2.2.1 bt279.2.2.2.2.2.1 bt279.2.2.2.2.2.2.1 bt279.2.2.2.2.2.2.2.1 bt279.2.2.2.2.2.2.2.2).bind fun t305 => (if (t305 != t252) = true then (none) else ((laws_toBook.f k a0_0 l0_1 l0_2 l0_3 l0_4 l0_5 l0_6 l0_7 l0_8).bind fun bt306 => ((laws_eqBook.f k bt253.1 bt253.2.1 bt253.2.2.1 bt253.2.2.2.1 bt253.2.2.2.2.1 bt253.2.2.2.2.2.1 bt253.2.2.2.2.2.2.1 bt253.2.2.2.2.2.2.2.1 bt253.2.2.2.2.2.2.2.2 bt306.1 bt306.2.1 bt306.2.2.1 bt306.2.2.2.1 bt306.2.2.2.2.1 bt306.2.2.2.2.2.1 bt306.2.2.2.2.2.2.1 bt306.2.2.2.2.2.2.2.1 bt306.2.2.2.2.2.2.2.2).bind fun t331 => (if t331 = true then ((laws_toBook.f k a1_0 l1_1 l1_2 l1_3 l1_4 l1_5 l1_6 l1_7 l1_8).bind fun bt332 => ((laws_eqBook.f k bt279.1 bt279.2.1 bt279.2.2.1 bt279.2.2.2.1 bt279.2.2.2.2.1 bt279.2.2.2.2.2.1 bt279.2.2.2.2.2.2.1 bt279.2.2.2.2.2.2.2.1 bt279.2.2.2.2.2.2.2.2 bt332.1 bt332.2.1 bt332.2.2.1 bt332.2.2.2.1 bt332.2.2.2.2.1 bt332.2.2.2.2.2.1 bt332.2.2.2.2.2.2.1 bt332.2.2.2.2.2.2.2.1 bt332.2.2.2.2.2.2.2.2).bind fun t357 => (if t357 = true then (some true) else (none)))) else (none)))))))))))))) = some r := H
  have A3 := Aside0.mk A30
  clear A30
  by_cases c4 : t200 < 0
  · rw [if_pos c4] at H
    have c4b0 : decide (t200 < 0) = true := decide_eq_true c4
    clear c4
    obtain rfl := Option.some.inj H
    go_enter Try.func4, Try.ntmps4
    go_wp2_with (first | ((with_reducible refine gate_dst (N := 2) rfl ?_); refine box_event ?hg (N := 2) ?hd (cs := #[.int .i64 a0_0, .slice A0_1 l0_1.length c0_1, .slice A0_2 l0_2.length c0_2, .slice A0_3 l0_3.length c0_3, .slice A0_4 l0_4.length c0_4, .slice A0_5 l0_5.length c0_5, .slice A0_6 l0_6.length c0_6, .slice A0_7 l0_7.length c0_7, .slice A0_8 l0_8.length c0_8]) (t := 34) ?hr ?_; (case hd => rfl); (case hg => rfl); (case hr => first | (go_simp; done) | (go_simp; rfl)); intro gb198 hg w5 hbox hb; have n0_ := Aside0.mk (below_step HB.out hb); have n1_ := Aside0.mk (hbox); have n2_ := Aside0.mk ((by rw [hg]; exact (below_size HB.out) : w.heap.size ≤ gb198)); have n3_ := Aside0.mk ((by rw [hg]; exact (below_size HB.out) : w.heap.size ≤ gb198)); clear HB; have HB := n0_; have BK198 := n1_; have GW198 := n2_; have GE198 := n3_; clear n0_ n1_ n2_ n3_; clear hb hbox hg) | ((with_reducible refine gate_dst (N := 3) rfl ?_); refine box_event ?hg (N := 3) ?hd (cs := #[.int .i64 a1_0, .slice A1_1 l1_1.length c1_1, .slice A1_2 l1_2.length c1_2, .slice A1_3 l1_3.length c1_3, .slice A1_4 l1_4.length c1_4, .slice A1_5 l1_5.length c1_5, .slice A1_6 l1_6.length c1_6, .slice A1_7 l1_7.length c1_7, .slice A1_8 l1_8.length c1_8]) (t := 34) ?hr ?_; (case hd => rfl); (case hg => rfl); (case hr => first | (go_simp; done) | (go_simp; rfl)); intro gb199 hg w6 hbox hb; have n0_ := Aside0.mk (blk_below BK198.out hb); have n1_ := Aside0.mk (below_step HB.out hb); have n2_ := Aside0.mk (hbox); have n3_ := Aside0.mk ((by rw [hg]; exact (below_size HB.out) : w.heap.size ≤ gb199)); have n4_ := Aside0.mk ((by rw [hg]; exact (below_size HB.out) : w.heap.size ≤ gb199)); have n5_ := Aside0.mk ((by rw [hg]; exact Nat.ne_of_lt (blk_lt BK198.out) : gb198 ≠ gb199)); have n6_ := Aside0.mk ((by rw [hg]; exact Nat.ne_of_gt (blk_lt BK198.out) : gb199 ≠ gb198)); clear BK198; clear HB; have BK198 := n0_; have HB := n1_; have BK199 := n2_; have GW199 := n3_; have GE199 := n4_; have NB198_199 := n5_; have NB199_198 := n6_; clear n0_ n1_ n2_ n3_ n4_ n5_ n6_; clear hb hbox hg) | ((with_reducible refine gate_dst (N := 10) rfl ?_); refine Kd.event_run rfl (Row.load_row_run (g := gb198) (t := 34) (cells := #[.int .i64 a0_0, .slice A0_1 l0_1.length c0_1, .slice A0_2 l0_2.length c0_2, .slice A0_3 l0_3.length c0_3, .slice A0_4 l0_4.length c0_4, .slice A0_5 l0_5.length c0_5, .slice A0_6 l0_6.length c0_6, .slice A0_7 l0_7.length c0_7, .slice A0_8 l0_8.length c0_8]) rfl (by first | rfl | (go_simp; done)) BK198.out Try.underlying34 rfl (by kernel_rfl)) ?_) | ((with_reducible refine gate_callee (f := 17) rfl ?_); refine goesL_ (some 12) rfl rfl Try.func17 (by kernel_rfl) rfl #[.agg #[.int .i64 a0_0, .slice A0_1 l0_1.length c0_1, .slice A0_2 l0_2.length c0_2, .slice A0_3 l0_3.length c0_3, .slice A0_4 l0_4.length c0_4, .slice A0_5 l0_5.length c0_5, .slice A0_6 l0_6.length c0_6, .slice A0_7 l0_7.length c0_7, .slice A0_8 l0_8.length c0_8], .int .i64 1048576] rfl (by (try simp only [List.map_toArray, List.map_cons, List.map_nil]); first | done | rfl | (simp only [List.length_drop, List.length_take]; rfl)) ?_; (with_reducible refine (laws_szBook.calls k a0_0 _ _ l0_1 _ _ l0_2 _ _ l0_3 _ _ l0_4 _ _ l0_5 _ _ l0_6 _ _ l0_7 _ _ l0_8 1048576 t200 _ ?side1 ?side2 ?side3 ?side4 ?side5 ?side6 ?side7 ?side8 ?side9 ?side10 ?side11 ?side12 ?side13 ?side14 ?side15 ?side16 A3.out).mono ?_); (case side1 => exact Kd.C_below HR0_1.out HB.out); (case side2 => exact HC0_1.out); (case side3 => exact Kd.C_below HR0_2.out HB.out); (case side4 => exact HC0_2.out); (case side5 => exact Kd.C_below HR0_3.out HB.out); (case side6 => exact HC0_3.out); (case side7 => exact Kd.C_below HR0_4.out HB.out); (case side8 => exact HC0_4.out); (case side9 => exact Kd.C_below HR0_5.out HB.out); (case side10 => exact HC0_5.out); (case side11 => exact Kd.C_below HR0_6.out HB.out); (case side12 => exact HC0_6.out); (case side13 => exact Kd.C_below HR0_7.out HB.out); (case side14 => exact HC0_7.out); (case side15 => exact Kd.C_below HR0_8.out HB.out); (case side16 => exact HC0_8.out); rintro e w7 ⟨rfl, hb⟩; refine ⟨_, rfl, ?_⟩; have n0_ := Aside0.mk (blk_below BK198.out hb); have n1_ := Aside0.mk (blk_below BK199.out hb); have n2_ := Aside0.mk (below_step HB.out hb); clear BK198; clear BK199; clear HB; have BK198 := n0_; have BK199 := n1_; have HB := n2_; clear n0_ n1_ n2_; (try clear hb); (try clear hb2); (try clear hk); (try clear hi)))
    go_ret
    exact ⟨by first | rfl | (simp [errW_none, errW_some] <;> rfl) | (simp [*, errW_none, errW_some] <;> rfl), by repeat (first | (with_reducible first | exact HB.out | apply below_alloc | apply pw_below_drewN | apply below_drew1 | refine below_set ?_ GE198.out | refine below_set ?_ GE199.out) | exact HB.out)⟩
  · rw [if_neg c4] at H
    have c4b0 : decide (t200 < 0) = false := decide_eq_false c4
    clear c4
    replace H := Option.bind_eq_some_iff.mp H
    obtain ⟨t201, A80, H⟩ := H
    replace H : (if t201 < 0 then (some true) else ((laws_toBook.f k a0_0 l0_1 l0_2 l0_3 l0_4 l0_5 l0_6 l0_7 l0_8).bind fun bt202 => ((laws_toBook.f k a1_0 l1_1 l1_2 l1_3 l1_4 l1_5 l1_6 l1_7 l1_8).bind fun bt227 => ((spec_BookSame.f k bt202.1 bt202.2.1 bt202.2.2.1 bt202.2.2.2.1 bt202.2.2.2.2.1 bt202.2.2.2.2.2.1 bt202.2.2.2.2.2.2.1 bt202.2.2.2.2.2.2.2.1 bt202.2.2.2.2.2.2.2.2 bt227.1 bt227.2.1 bt227.2.2.1 bt227.2.2.2.1 bt227.2.2.2.2.1 bt227.2.2.2.2.2.1 bt227.2.2.2.2.2.2.1 bt227.2.2.2.2.2.2.2.1 bt227.2.2.2.2.2.2.2.2).bind fun t252 => ((laws_toBook.f k a0_0 l0_1 l0_2 l0_3 l0_4 l0_5 l0_6 l0_7 l0_8).bind fun bt253 => ((laws_toBook.f k a1_0 l1_1 l1_2 l1_3 l1_4 l1_5 l1_6 l1_7 l1_8).bind fun bt279 => ((impl_BookSame.f k bt253.1 bt253.2.1 bt253.2.2.1 bt253.2.2.2.1 bt253.2.2.2.2.1 bt253.2.2.2.2.2.1 bt253.2.2.2.2.2.2.1 bt253.2.2.2.2.2.2.2.1 bt253.2.2.2.2.2.2.2.2 bt279.1 bt279.2.1 bt279.2.2.1 bt279.2.2.2.1 bt279.2.2.2.2.1 bt279.2.2.2.2.2.1 bt279.2.2.2.2.2.2.1 bt279.2.2.2.2.2.2.2.1 bt279.2.2.2.2.2.2.2.2).bind fun t305 => (if (t305 != t252) = true then (none) else ((laws_toBook.f k a0_0 l0_1 l0_2 l0_3 l0_4 l0_5 l0_6 l0_7 l0_8).bind fun bt306 => ((laws_eqBook.f k bt253.1 bt253.2.1 bt253.2.2.1 bt253.2.2.2.1 bt253.2.2.2.2.1 bt253.2.2.2.2.2.1 bt253.2.2.2.2.2.2.1 bt253.2.2.2.2.2.2.2.1 bt253.2.2.2.2.2.2.2.2 bt306.1 bt306.2.1 bt306.2.2.1 bt306.2.2.2.1 bt306.2.2.2.2.1 bt306.2.2.2.2.2.1 bt306.2.2.2.2.2.2.1 bt306.2.2.2.2.2.2.2.1 bt306.2.2.2.2.2.2.2.2).bind fun t331 => (if t331 = true then ((laws_toBook.f k a1_0 l1_1 l1_2 l1_3 l1_4 l1_5 l1_6 l1_7 l1_8).bind fun bt332 => ((laws_eqBook.f k bt279.1 bt279.2.1 bt279.2.2.1 bt279.2.2.2.1 bt279.2.2.2.2.1 bt279.2.2.2.2.2.1 bt279.2.2.2.2.2.2.1 bt279.2.2.2.2.2.2.2.1 bt279.2.2.2.2.2.2.2.2 bt332.1 bt332.2.1 bt332.2.2.1 bt332.2.2.2.1 bt332.2.2.2.2.1 bt332.2.2.2.2.2.1 bt332.2.2.2.2.2.2.1 bt332.2.2.2.2.2.2.2.1 bt332.2.2.2.2.2.2.2.2).bind fun t357 => (if t357 = true then (some true) else (none)))) else (none)))))))))))) = some r := H
    have A8 := Aside0.mk A80
    clear A80
    by_cases c9 : t201 < 0
    · rw [if_pos c9] at H
      have c9b0 : decide (t201 < 0) = true := decide_eq_true c9
      clear c9
      obtain rfl := Option.some.inj H
      go_enter Try.func4, Try.ntmps4
      go_wp2_with (first | ((with_reducible refine gate_dst (N := 2) rfl ?_); refine box_event ?hg (N := 2) ?hd (cs := #[.int .i64 a0_0, .slice A0_1 l0_1.length c0_1, .slice A0_2 l0_2.length c0_2, .slice A0_3 l0_3.length c0_3, .slice A0_4 l0_4.length c0_4, .slice A0_5 l0_5.length c0_5, .slice A0_6 l0_6.length c0_6, .slice A0_7 l0_7.length c0_7, .slice A0_8 l0_8.length c0_8]) (t := 34) ?hr ?_; (case hd => rfl); (case hg => rfl); (case hr => first | (go_simp; done) | (go_simp; rfl)); intro gb198 hg w10 hbox hb; have n0_ := Aside0.mk (below_step HB.out hb); have n1_ := Aside0.mk (hbox); have n2_ := Aside0.mk ((by rw [hg]; exact (below_size HB.out) : w.heap.size ≤ gb198)); have n3_ := Aside0.mk ((by rw [hg]; exact (below_size HB.out) : w.heap.size ≤ gb198)); clear HB; have HB := n0_; have BK198 := n1_; have GW198 := n2_; have GE198 := n3_; clear n0_ n1_ n2_ n3_; clear hb hbox hg) | ((with_reducible refine gate_dst (N := 3) rfl ?_); refine box_event ?hg (N := 3) ?hd (cs := #[.int .i64 a1_0, .slice A1_1 l1_1.length c1_1, .slice A1_2 l1_2.length c1_2, .slice A1_3 l1_3.length c1_3, .slice A1_4 l1_4.length c1_4, .slice A1_5 l1_5.length c1_5, .slice A1_6 l1_6.length c1_6, .slice A1_7 l1_7.length c1_7, .slice A1_8 l1_8.length c1_8]) (t := 34) ?hr ?_; (case hd => rfl); (case hg => rfl); (case hr => first | (go_simp; done) | (go_simp; rfl)); intro gb199 hg w11 hbox hb; have n0_ := Aside0.mk (blk_below BK198.out hb); have n1_ := Aside0.mk (below_step HB.out hb); have n2_ := Aside0.mk (hbox); have n3_ := Aside0.mk ((by rw [hg]; exact (below_size HB.out) : w.heap.size ≤ gb199)); have n4_ := Aside0.mk ((by rw [hg]; exact (below_size HB.out) : w.heap.size ≤ gb199)); have n5_ := Aside0.mk ((by rw [hg]; exact Nat.ne_of_lt (blk_lt BK198.out) : gb198 ≠ gb199)); have n6_ := Aside0.mk ((by rw [hg]; exact Nat.ne_of_gt (blk_lt BK198.out) : gb199 ≠ gb198)); clear BK198; clear HB; have BK198 := n0_; have HB := n1_; have BK199 := n2_; have GW199 := n3_; have GE199 := n4_; have NB198_199 := n5_; have NB199_198 := n6_; clear n0_ n1_ n2_ n3_ n4_ n5_ n6_; clear hb hbox hg) | ((with_reducible refine gate_dst (N := 10) rfl ?_); refine Kd.event_run rfl (Row.load_row_run (g := gb198) (t := 34) (cells := #[.int .i64 a0_0, .slice A0_1 l0_1.length c0_1, .slice A0_2 l0_2.length c0_2, .slice A0_3 l0_3.length c0_3, .slice A0_4 l0_4.length c0_4, .slice A0_5 l0_5.length c0_5, .slice A0_6 l0_6.length c0_6, .slice A0_7 l0_7.length c0_7, .slice A0_8 l0_8.length c0_8]) rfl (by first | rfl | (go_simp; done)) BK198.out Try.underlying34 rfl (by kernel_rfl)) ?_) | ((with_reducible refine gate_callee (f := 17) rfl ?_); refine goesL_ (some 12) rfl rfl Try.func17 (by kernel_rfl) rfl #[.agg #[.int .i64 a0_0, .slice A0_1 l0_1.length c0_1, .slice A0_2 l0_2.length c0_2, .slice A0_3 l0_3.length c0_3, .slice A0_4 l0_4.length c0_4, .slice A0_5 l0_5.length c0_5, .slice A0_6 l0_6.length c0_6, .slice A0_7 l0_7.length c0_7, .slice A0_8 l0_8.length c0_8], .int .i64 1048576] rfl (by (try simp only [List.map_toArray, List.map_cons, List.map_nil]); first | done | rfl | (simp only [List.length_drop, List.length_take]; rfl)) ?_; (with_reducible refine (laws_szBook.calls k a0_0 _ _ l0_1 _ _ l0_2 _ _ l0_3 _ _ l0_4 _ _ l0_5 _ _ l0_6 _ _ l0_7 _ _ l0_8 1048576 t200 _ ?side1 ?side2 ?side3 ?side4 ?side5 ?side6 ?side7 ?side8 ?side9 ?side10 ?side11 ?side12 ?side13 ?side14 ?side15 ?side16 A3.out).mono ?_); (case side1 => exact Kd.C_below HR0_1.out HB.out); (case side2 => exact HC0_1.out); (case side3 => exact Kd.C_below HR0_2.out HB.out); (case side4 => exact HC0_2.out); (case side5 => exact Kd.C_below HR0_3.out HB.out); (case side6 => exact HC0_3.out); (case side7 => exact Kd.C_below HR0_4.out HB.out); (case side8 => exact HC0_4.out); (case side9 => exact Kd.C_below HR0_5.out HB.out); (case side10 => exact HC0_5.out); (case side11 => exact Kd.C_below HR0_6.out HB.out); (case side12 => exact HC0_6.out); (case side13 => exact Kd.C_below HR0_7.out HB.out); (case side14 => exact HC0_7.out); (case side15 => exact Kd.C_below HR0_8.out HB.out); (case side16 => exact HC0_8.out); rintro e w12 ⟨rfl, hb⟩; refine ⟨_, rfl, ?_⟩; have n0_ := Aside0.mk (blk_below BK198.out hb); have n1_ := Aside0.mk (blk_below BK199.out hb); have n2_ := Aside0.mk (below_step HB.out hb); clear BK198; clear BK199; clear HB; have BK198 := n0_; have BK199 := n1_; have HB := n2_; clear n0_ n1_ n2_; (try clear hb); (try clear hb2); (try clear hk); (try clear hi)) | ((with_reducible refine gate_dst (N := 15) rfl ?_); refine Kd.event_run rfl (Row.load_row_run (g := gb199) (t := 34) (cells := #[.int .i64 a1_0, .slice A1_1 l1_1.length c1_1, .slice A1_2 l1_2.length c1_2, .slice A1_3 l1_3.length c1_3, .slice A1_4 l1_4.length c1_4, .slice A1_5 l1_5.length c1_5, .slice A1_6 l1_6.length c1_6, .slice A1_7 l1_7.length c1_7, .slice A1_8 l1_8.length c1_8]) rfl (by first | rfl | (go_simp; done)) BK199.out Try.underlying34 rfl (by kernel_rfl)) ?_) | ((with_reducible refine gate_callee (f := 17) rfl ?_); refine goesL_ (some 17) rfl rfl Try.func17 (by kernel_rfl) rfl #[.agg #[.int .i64 a1_0, .slice A1_1 l1_1.length c1_1, .slice A1_2 l1_2.length c1_2, .slice A1_3 l1_3.length c1_3, .slice A1_4 l1_4.length c1_4, .slice A1_5 l1_5.length c1_5, .slice A1_6 l1_6.length c1_6, .slice A1_7 l1_7.length c1_7, .slice A1_8 l1_8.length c1_8], .int .i64 t200] rfl (by (try simp only [List.map_toArray, List.map_cons, List.map_nil]); first | done | rfl | (simp only [List.length_drop, List.length_take]; rfl)) ?_; (with_reducible refine (laws_szBook.calls k a1_0 _ _ l1_1 _ _ l1_2 _ _ l1_3 _ _ l1_4 _ _ l1_5 _ _ l1_6 _ _ l1_7 _ _ l1_8 t200 t201 _ ?side1 ?side2 ?side3 ?side4 ?side5 ?side6 ?side7 ?side8 ?side9 ?side10 ?side11 ?side12 ?side13 ?side14 ?side15 ?side16 A8.out).mono ?_); (case side1 => exact Kd.C_below HR1_1.out HB.out); (case side2 => exact HC1_1.out); (case side3 => exact Kd.C_below HR1_2.out HB.out); (case side4 => exact HC1_2.out); (case side5 => exact Kd.C_below HR1_3.out HB.out); (case side6 => exact HC1_3.out); (case side7 => exact Kd.C_below HR1_4.out HB.out); (case side8 => exact HC1_4.out); (case side9 => exact Kd.C_below HR1_5.out HB.out); (case side10 => exact HC1_5.out); (case side11 => exact Kd.C_below HR1_6.out HB.out); (case side12 => exact HC1_6.out); (case side13 => exact Kd.C_below HR1_7.out HB.out); (case side14 => exact HC1_7.out); (case side15 => exact Kd.C_below HR1_8.out HB.out); (case side16 => exact HC1_8.out); rintro e w13 ⟨rfl, hb⟩; refine ⟨_, rfl, ?_⟩; have n0_ := Aside0.mk (blk_below BK198.out hb); have n1_ := Aside0.mk (blk_below BK199.out hb); have n2_ := Aside0.mk (below_step HB.out hb); clear BK198; clear BK199; clear HB; have BK198 := n0_; have BK199 := n1_; have HB := n2_; clear n0_ n1_ n2_; (try clear hb); (try clear hb2); (try clear hk); (try clear hi)))
      go_ret
      exact ⟨by first | rfl | (simp [errW_none, errW_some] <;> rfl) | (simp [*, errW_none, errW_some] <;> rfl), by repeat (first | (with_reducible first | exact HB.out | apply below_alloc | apply pw_below_drewN | apply below_drew1 | refine below_set ?_ GE198.out | refine below_set ?_ GE199.out) | exact HB.out)⟩
    · rw [if_neg c9] at H
      have c9b0 : decide (t201 < 0) = false := decide_eq_false c9
      clear c9
      replace H := Option.bind_eq_some_iff.mp H
      obtain ⟨⟨t202, t203, t206, t209, t212, t215, t218, t221, t224⟩, A140, H⟩ := H
      replace H : ((laws_toBook.f k a1_0 l1_1 l1_2 l1_3 l1_4 l1_5 l1_6 l1_7 l1_8).bind fun bt227 => ((spec_BookSame.f k t202 t203 t206 t209 t212 t215 t218 t221 t224 bt227.1 bt227.2.1 bt227.2.2.1 bt227.2.2.2.1 bt227.2.2.2.2.1 bt227.2.2.2.2.2.1 bt227.2.2.2.2.2.2.1 bt227.2.2.2.2.2.2.2.1 bt227.2.2.2.2.2.2.2.2).bind fun t252 => ((laws_toBook.f k a0_0 l0_1 l0_2 l0_3 l0_4 l0_5 l0_6 l0_7 l0_8).bind fun bt253 => ((laws_toBook.f k a1_0 l1_1 l1_2 l1_3 l1_4 l1_5 l1_6 l1_7 l1_8).bind fun bt279 => ((impl_BookSame.f k bt253.1 bt253.2.1 bt253.2.2.1 bt253.2.2.2.1 bt253.2.2.2.2.1 bt253.2.2.2.2.2.1 bt253.2.2.2.2.2.2.1 bt253.2.2.2.2.2.2.2.1 bt253.2.2.2.2.2.2.2.2 bt279.1 bt279.2.1 bt279.2.2.1 bt279.2.2.2.1 bt279.2.2.2.2.1 bt279.2.2.2.2.2.1 bt279.2.2.2.2.2.2.1 bt279.2.2.2.2.2.2.2.1 bt279.2.2.2.2.2.2.2.2).bind fun t305 => (if (t305 != t252) = true then (none) else ((laws_toBook.f k a0_0 l0_1 l0_2 l0_3 l0_4 l0_5 l0_6 l0_7 l0_8).bind fun bt306 => ((laws_eqBook.f k bt253.1 bt253.2.1 bt253.2.2.1 bt253.2.2.2.1 bt253.2.2.2.2.1 bt253.2.2.2.2.2.1 bt253.2.2.2.2.2.2.1 bt253.2.2.2.2.2.2.2.1 bt253.2.2.2.2.2.2.2.2 bt306.1 bt306.2.1 bt306.2.2.1 bt306.2.2.2.1 bt306.2.2.2.2.1 bt306.2.2.2.2.2.1 bt306.2.2.2.2.2.2.1 bt306.2.2.2.2.2.2.2.1 bt306.2.2.2.2.2.2.2.2).bind fun t331 => (if t331 = true then ((laws_toBook.f k a1_0 l1_1 l1_2 l1_3 l1_4 l1_5 l1_6 l1_7 l1_8).bind fun bt332 => ((laws_eqBook.f k bt279.1 bt279.2.1 bt279.2.2.1 bt279.2.2.2.1 bt279.2.2.2.2.1 bt279.2.2.2.2.2.1 bt279.2.2.2.2.2.2.1 bt279.2.2.2.2.2.2.2.1 bt279.2.2.2.2.2.2.2.2 bt332.1 bt332.2.1 bt332.2.2.1 bt332.2.2.2.1 bt332.2.2.2.2.1 bt332.2.2.2.2.2.1 bt332.2.2.2.2.2.2.1 bt332.2.2.2.2.2.2.2.1 bt332.2.2.2.2.2.2.2.2).bind fun t357 => (if t357 = true then (some true) else (none)))) else (none)))))))))) = some r := H
      have A14 := Aside0.mk A140
      clear A140
      replace H := Option.bind_eq_some_iff.mp H
      obtain ⟨⟨t227, t228, t231, t234, t237, t240, t243, t246, t249⟩, A150, H⟩ := H
      replace H : ((spec_BookSame.f k t202 t203 t206 t209 t212 t215 t218 t221 t224 t227 t228 t231 t234 t237 t240 t243 t246 t249).bind fun t252 => ((laws_toBook.f k a0_0 l0_1 l0_2 l0_3 l0_4 l0_5 l0_6 l0_7 l0_8).bind fun bt253 => ((laws_toBook.f k a1_0 l1_1 l1_2 l1_3 l1_4 l1_5 l1_6 l1_7 l1_8).bind fun bt279 => ((impl_BookSame.f k bt253.1 bt253.2.1 bt253.2.2.1 bt253.2.2.2.1 bt253.2.2.2.2.1 bt253.2.2.2.2.2.1 bt253.2.2.2.2.2.2.1 bt253.2.2.2.2.2.2.2.1 bt253.2.2.2.2.2.2.2.2 bt279.1 bt279.2.1 bt279.2.2.1 bt279.2.2.2.1 bt279.2.2.2.2.1 bt279.2.2.2.2.2.1 bt279.2.2.2.2.2.2.1 bt279.2.2.2.2.2.2.2.1 bt279.2.2.2.2.2.2.2.2).bind fun t305 => (if (t305 != t252) = true then (none) else ((laws_toBook.f k a0_0 l0_1 l0_2 l0_3 l0_4 l0_5 l0_6 l0_7 l0_8).bind fun bt306 => ((laws_eqBook.f k bt253.1 bt253.2.1 bt253.2.2.1 bt253.2.2.2.1 bt253.2.2.2.2.1 bt253.2.2.2.2.2.1 bt253.2.2.2.2.2.2.1 bt253.2.2.2.2.2.2.2.1 bt253.2.2.2.2.2.2.2.2 bt306.1 bt306.2.1 bt306.2.2.1 bt306.2.2.2.1 bt306.2.2.2.2.1 bt306.2.2.2.2.2.1 bt306.2.2.2.2.2.2.1 bt306.2.2.2.2.2.2.2.1 bt306.2.2.2.2.2.2.2.2).bind fun t331 => (if t331 = true then ((laws_toBook.f k a1_0 l1_1 l1_2 l1_3 l1_4 l1_5 l1_6 l1_7 l1_8).bind fun bt332 => ((laws_eqBook.f k bt279.1 bt279.2.1 bt279.2.2.1 bt279.2.2.2.1 bt279.2.2.2.2.1 bt279.2.2.2.2.2.1 bt279.2.2.2.2.2.2.1 bt279.2.2.2.2.2.2.2.1 bt279.2.2.2.2.2.2.2.2 bt332.1 bt332.2.1 bt332.2.2.1 bt332.2.2.2.1 bt332.2.2.2.2.1 bt332.2.2.2.2.2.1 bt332.2.2.2.2.2.2.1 bt332.2.2.2.2.2.2.2.1 bt332.2.2.2.2.2.2.2.2).bind fun t357 => (if t357 = true then (some true) else (none)))) else (none))))))))) = some r := H
      have A15 := Aside0.mk A150
      clear A150
      replace H := Option.bind_eq_some_iff.mp H
      obtain ⟨t252, A160, H⟩ := H
      replace H : ((laws_toBook.f k a0_0 l0_1 l0_2 l0_3 l0_4 l0_5 l0_6 l0_7 l0_8).bind fun bt253 => ((laws_toBook.f k a1_0 l1_1 l1_2 l1_3 l1_4 l1_5 l1_6 l1_7 l1_8).bind fun bt279 => ((impl_BookSame.f k bt253.1 bt253.2.1 bt253.2.2.1 bt253.2.2.2.1 bt253.2.2.2.2.1 bt253.2.2.2.2.2.1 bt253.2.2.2.2.2.2.1 bt253.2.2.2.2.2.2.2.1 bt253.2.2.2.2.2.2.2.2 bt279.1 bt279.2.1 bt279.2.2.1 bt279.2.2.2.1 bt279.2.2.2.2.1 bt279.2.2.2.2.2.1 bt279.2.2.2.2.2.2.1 bt279.2.2.2.2.2.2.2.1 bt279.2.2.2.2.2.2.2.2).bind fun t305 => (if (t305 != t252) = true then (none) else ((laws_toBook.f k a0_0 l0_1 l0_2 l0_3 l0_4 l0_5 l0_6 l0_7 l0_8).bind fun bt306 => ((laws_eqBook.f k bt253.1 bt253.2.1 bt253.2.2.1 bt253.2.2.2.1 bt253.2.2.2.2.1 bt253.2.2.2.2.2.1 bt253.2.2.2.2.2.2.1 bt253.2.2.2.2.2.2.2.1 bt253.2.2.2.2.2.2.2.2 bt306.1 bt306.2.1 bt306.2.2.1 bt306.2.2.2.1 bt306.2.2.2.2.1 bt306.2.2.2.2.2.1 bt306.2.2.2.2.2.2.1 bt306.2.2.2.2.2.2.2.1 bt306.2.2.2.2.2.2.2.2).bind fun t331 => (if t331 = true then ((laws_toBook.f k a1_0 l1_1 l1_2 l1_3 l1_4 l1_5 l1_6 l1_7 l1_8).bind fun bt332 => ((laws_eqBook.f k bt279.1 bt279.2.1 bt279.2.2.1 bt279.2.2.2.1 bt279.2.2.2.2.1 bt279.2.2.2.2.2.1 bt279.2.2.2.2.2.2.1 bt279.2.2.2.2.2.2.2.1 bt279.2.2.2.2.2.2.2.2 bt332.1 bt332.2.1 bt332.2.2.1 bt332.2.2.2.1 bt332.2.2.2.2.1 bt332.2.2.2.2.2.1 bt332.2.2.2.2.2.2.1 bt332.2.2.2.2.2.2.2.1 bt332.2.2.2.2.2.2.2.2).bind fun t357 => (if t357 = true then (some true) else (none)))) else (none)))))))) = some r := H
      have A16 := Aside0.mk A160
      clear A160
      replace H := Option.bind_eq_some_iff.mp H
      obtain ⟨⟨t253, t254, t257, t260, t263, t266, t269, t272, t275⟩, A170, H⟩ := H
      replace H : ((laws_toBook.f k a1_0 l1_1 l1_2 l1_3 l1_4 l1_5 l1_6 l1_7 l1_8).bind fun bt279 => ((impl_BookSame.f k t253 t254 t257 t260 t263 t266 t269 t272 t275 bt279.1 bt279.2.1 bt279.2.2.1 bt279.2.2.2.1 bt279.2.2.2.2.1 bt279.2.2.2.2.2.1 bt279.2.2.2.2.2.2.1 bt279.2.2.2.2.2.2.2.1 bt279.2.2.2.2.2.2.2.2).bind fun t305 => (if (t305 != t252) = true then (none) else ((laws_toBook.f k a0_0 l0_1 l0_2 l0_3 l0_4 l0_5 l0_6 l0_7 l0_8).bind fun bt306 => ((laws_eqBook.f k t253 t254 t257 t260 t263 t266 t269 t272 t275 bt306.1 bt306.2.1 bt306.2.2.1 bt306.2.2.2.1 bt306.2.2.2.2.1 bt306.2.2.2.2.2.1 bt306.2.2.2.2.2.2.1 bt306.2.2.2.2.2.2.2.1 bt306.2.2.2.2.2.2.2.2).bind fun t331 => (if t331 = true then ((laws_toBook.f k a1_0 l1_1 l1_2 l1_3 l1_4 l1_5 l1_6 l1_7 l1_8).bind fun bt332 => ((laws_eqBook.f k bt279.1 bt279.2.1 bt279.2.2.1 bt279.2.2.2.1 bt279.2.2.2.2.1 bt279.2.2.2.2.2.1 bt279.2.2.2.2.2.2.1 bt279.2.2.2.2.2.2.2.1 bt279.2.2.2.2.2.2.2.2 bt332.1 bt332.2.1 bt332.2.2.1 bt332.2.2.2.1 bt332.2.2.2.2.1 bt332.2.2.2.2.2.1 bt332.2.2.2.2.2.2.1 bt332.2.2.2.2.2.2.2.1 bt332.2.2.2.2.2.2.2.2).bind fun t357 => (if t357 = true then (some true) else (none)))) else (none))))))) = some r := H
      have A17 := Aside0.mk A170
      clear A170
      replace H := Option.bind_eq_some_iff.mp H
      obtain ⟨⟨t279, t280, t283, t286, t289, t292, t295, t298, t301⟩, A180, H⟩ := H
      replace H : ((impl_BookSame.f k t253 t254 t257 t260 t263 t266 t269 t272 t275 t279 t280 t283 t286 t289 t292 t295 t298 t301).bind fun t305 => (if (t305 != t252) = true then (none) else ((laws_toBook.f k a0_0 l0_1 l0_2 l0_3 l0_4 l0_5 l0_6 l0_7 l0_8).bind fun bt306 => ((laws_eqBook.f k t253 t254 t257 t260 t263 t266 t269 t272 t275 bt306.1 bt306.2.1 bt306.2.2.1 bt306.2.2.2.1 bt306.2.2.2.2.1 bt306.2.2.2.2.2.1 bt306.2.2.2.2.2.2.1 bt306.2.2.2.2.2.2.2.1 bt306.2.2.2.2.2.2.2.2).bind fun t331 => (if t331 = true then ((laws_toBook.f k a1_0 l1_1 l1_2 l1_3 l1_4 l1_5 l1_6 l1_7 l1_8).bind fun bt332 => ((laws_eqBook.f k t279 t280 t283 t286 t289 t292 t295 t298 t301 bt332.1 bt332.2.1 bt332.2.2.1 bt332.2.2.2.1 bt332.2.2.2.2.1 bt332.2.2.2.2.2.1 bt332.2.2.2.2.2.2.1 bt332.2.2.2.2.2.2.2.1 bt332.2.2.2.2.2.2.2.2).bind fun t357 => (if t357 = true then (some true) else (none)))) else (none)))))) = some r := H
      have A18 := Aside0.mk A180
      clear A180
      replace H := Option.bind_eq_some_iff.mp H
      obtain ⟨t305, A190, H⟩ := H
      replace H : (if (t305 != t252) = true then (none) else ((laws_toBook.f k a0_0 l0_1 l0_2 l0_3 l0_4 l0_5 l0_6 l0_7 l0_8).bind fun bt306 => ((laws_eqBook.f k t253 t254 t257 t260 t263 t266 t269 t272 t275 bt306.1 bt306.2.1 bt306.2.2.1 bt306.2.2.2.1 bt306.2.2.2.2.1 bt306.2.2.2.2.2.1 bt306.2.2.2.2.2.2.1 bt306.2.2.2.2.2.2.2.1 bt306.2.2.2.2.2.2.2.2).bind fun t331 => (if t331 = true then ((laws_toBook.f k a1_0 l1_1 l1_2 l1_3 l1_4 l1_5 l1_6 l1_7 l1_8).bind fun bt332 => ((laws_eqBook.f k t279 t280 t283 t286 t289 t292 t295 t298 t301 bt332.1 bt332.2.1 bt332.2.2.1 bt332.2.2.2.1 bt332.2.2.2.2.1 bt332.2.2.2.2.2.1 bt332.2.2.2.2.2.2.1 bt332.2.2.2.2.2.2.2.1 bt332.2.2.2.2.2.2.2.2).bind fun t357 => (if t357 = true then (some true) else (none)))) else (none))))) = some r := H
      have A19 := Aside0.mk A190
      clear A190
      by_cases c20 : (t305 != t252) = true
      · rw [if_pos c20] at H
        exact absurd H (by simp)
      · rw [if_neg c20] at H
        have c20b0 : (t305 != t252) = false := by simpa using c20
        (try (have c20b1 : decide (t305 = t252) = true := by simpa using c20))
        (try (have c20b2 : (t305 == t252) = true := by simpa using c20))
        clear c20
        replace H := Option.bind_eq_some_iff.mp H
        obtain ⟨⟨t306, t307, t310, t313, t316, t319, t322, t325, t328⟩, A210, H⟩ := H
        replace H : ((laws_eqBook.f k t253 t254 t257 t260 t263 t266 t269 t272 t275 t306 t307 t310 t313 t316 t319 t322 t325 t328).bind fun t331 => (if t331 = true then ((laws_toBook.f k a1_0 l1_1 l1_2 l1_3 l1_4 l1_5 l1_6 l1_7 l1_8).bind fun bt332 => ((laws_eqBook.f k t279 t280 t283 t286 t289 t292 t295 t298 t301 bt332.1 bt332.2.1 bt332.2.2.1 bt332.2.2.2.1 bt332.2.2.2.2.1 bt332.2.2.2.2.2.1 bt332.2.2.2.2.2.2.1 bt332.2.2.2.2.2.2.2.1 bt332.2.2.2.2.2.2.2.2).bind fun t357 => (if t357 = true then (some true) else (none)))) else (none))) = some r := H
        have A21 := Aside0.mk A210
        clear A210
        replace H := Option.bind_eq_some_iff.mp H
        obtain ⟨t331, A220, H⟩ := H
        replace H : (if t331 = true then ((laws_toBook.f k a1_0 l1_1 l1_2 l1_3 l1_4 l1_5 l1_6 l1_7 l1_8).bind fun bt332 => ((laws_eqBook.f k t279 t280 t283 t286 t289 t292 t295 t298 t301 bt332.1 bt332.2.1 bt332.2.2.1 bt332.2.2.2.1 bt332.2.2.2.2.1 bt332.2.2.2.2.2.1 bt332.2.2.2.2.2.2.1 bt332.2.2.2.2.2.2.2.1 bt332.2.2.2.2.2.2.2.2).bind fun t357 => (if t357 = true then (some true) else (none)))) else (none)) = some r := H
        have A22 := Aside0.mk A220
        clear A220
        by_cases c23 : t331 = true
        · subst c23
          have H1 : ((laws_toBook.f k a1_0 l1_1 l1_2 l1_3 l1_4 l1_5 l1_6 l1_7 l1_8).bind fun bt332 => ((laws_eqBook.f k t279 t280 t283 t286 t289 t292 t295 t298 t301 bt332.1 bt332.2.1 bt332.2.2.1 bt332.2.2.2.1 bt332.2.2.2.2.1 bt332.2.2.2.2.2.1 bt332.2.2.2.2.2.2.1 bt332.2.2.2.2.2.2.2.1 bt332.2.2.2.2.2.2.2.2).bind fun t357 => (if t357 = true then (some true) else (none)))) = some r := by rw [if_pos rfl] at H; exact H
          clear H
          have H := H1
          clear H1
          replace H := Option.bind_eq_some_iff.mp H
          obtain ⟨⟨t332, t333, t336, t339, t342, t345, t348, t351, t354⟩, A240, H⟩ := H
          replace H : ((laws_eqBook.f k t279 t280 t283 t286 t289 t292 t295 t298 t301 t332 t333 t336 t339 t342 t345 t348 t351 t354).bind fun t357 => (if t357 = true then (some true) else (none))) = some r := H
          have A24 := Aside0.mk A240
          clear A240
          replace H := Option.bind_eq_some_iff.mp H
          obtain ⟨t357, A250, H⟩ := H
          replace H : (if t357 = true then (some true) else (none)) = some r := H
          have A25 := Aside0.mk A250
          clear A250
          by_cases c26 : t357 = true
          · subst c26
            have H1 : (some true) = some r := by rw [if_pos rfl] at H; exact H
            clear H
            have H := H1
            clear H1
            obtain rfl := Option.some.inj H
            go_enter Try.func4, Try.ntmps4
            try go_wp2_with (first | ((with_reducible refine gate_dst (N := 2) rfl ?_); refine box_event ?hg (N := 2) ?hd (cs := #[.int .i64 a0_0, .slice A0_1 l0_1.length c0_1, .slice A0_2 l0_2.length c0_2, .slice A0_3 l0_3.length c0_3, .slice A0_4 l0_4.length c0_4, .slice A0_5 l0_5.length c0_5, .slice A0_6 l0_6.length c0_6, .slice A0_7 l0_7.length c0_7, .slice A0_8 l0_8.length c0_8]) (t := 34) ?hr ?_; (case hd => rfl); (case hg => rfl); (case hr => first | (go_simp; done) | (go_simp; rfl)); intro gb198 hg w27 hbox hb; have n0_ := Aside0.mk (below_step HB.out hb); have n1_ := Aside0.mk (hbox); have n2_ := Aside0.mk ((by rw [hg]; exact (below_size HB.out) : w.heap.size ≤ gb198)); have n3_ := Aside0.mk ((by rw [hg]; exact (below_size HB.out) : w.heap.size ≤ gb198)); clear HB; have HB := n0_; have BK198 := n1_; have GW198 := n2_; have GE198 := n3_; clear n0_ n1_ n2_ n3_; clear hb hbox hg) | ((with_reducible refine gate_dst (N := 3) rfl ?_); refine box_event ?hg (N := 3) ?hd (cs := #[.int .i64 a1_0, .slice A1_1 l1_1.length c1_1, .slice A1_2 l1_2.length c1_2, .slice A1_3 l1_3.length c1_3, .slice A1_4 l1_4.length c1_4, .slice A1_5 l1_5.length c1_5, .slice A1_6 l1_6.length c1_6, .slice A1_7 l1_7.length c1_7, .slice A1_8 l1_8.length c1_8]) (t := 34) ?hr ?_; (case hd => rfl); (case hg => rfl); (case hr => first | (go_simp; done) | (go_simp; rfl)); intro gb199 hg w28 hbox hb; have n0_ := Aside0.mk (blk_below BK198.out hb); have n1_ := Aside0.mk (below_step HB.out hb); have n2_ := Aside0.mk (hbox); have n3_ := Aside0.mk ((by rw [hg]; exact (below_size HB.out) : w.heap.size ≤ gb199)); have n4_ := Aside0.mk ((by rw [hg]; exact (below_size HB.out) : w.heap.size ≤ gb199)); have n5_ := Aside0.mk ((by rw [hg]; exact Nat.ne_of_lt (blk_lt BK198.out) : gb198 ≠ gb199)); have n6_ := Aside0.mk ((by rw [hg]; exact Nat.ne_of_gt (blk_lt BK198.out) : gb199 ≠ gb198)); clear BK198; clear HB; have BK198 := n0_; have HB := n1_; have BK199 := n2_; have GW199 := n3_; have GE199 := n4_; have NB198_199 := n5_; have NB199_198 := n6_; clear n0_ n1_ n2_ n3_ n4_ n5_ n6_; clear hb hbox hg) | ((with_reducible refine gate_dst (N := 10) rfl ?_); refine Kd.event_run rfl (Row.load_row_run (g := gb198) (t := 34) (cells := #[.int .i64 a0_0, .slice A0_1 l0_1.length c0_1, .slice A0_2 l0_2.length c0_2, .slice A0_3 l0_3.length c0_3, .slice A0_4 l0_4.length c0_4, .slice A0_5 l0_5.length c0_5, .slice A0_6 l0_6.length c0_6, .slice A0_7 l0_7.length c0_7, .slice A0_8 l0_8.length c0_8]) rfl (by first | rfl | (go_simp; done)) BK198.out Try.underlying34 rfl (by kernel_rfl)) ?_) | ((with_reducible refine gate_callee (f := 17) rfl ?_); refine goesL_ (some 12) rfl rfl Try.func17 (by kernel_rfl) rfl #[.agg #[.int .i64 a0_0, .slice A0_1 l0_1.length c0_1, .slice A0_2 l0_2.length c0_2, .slice A0_3 l0_3.length c0_3, .slice A0_4 l0_4.length c0_4, .slice A0_5 l0_5.length c0_5, .slice A0_6 l0_6.length c0_6, .slice A0_7 l0_7.length c0_7, .slice A0_8 l0_8.length c0_8], .int .i64 1048576] rfl (by (try simp only [List.map_toArray, List.map_cons, List.map_nil]); first | done | rfl | (simp only [List.length_drop, List.length_take]; rfl)) ?_; (with_reducible refine (laws_szBook.calls k a0_0 _ _ l0_1 _ _ l0_2 _ _ l0_3 _ _ l0_4 _ _ l0_5 _ _ l0_6 _ _ l0_7 _ _ l0_8 1048576 t200 _ ?side1 ?side2 ?side3 ?side4 ?side5 ?side6 ?side7 ?side8 ?side9 ?side10 ?side11 ?side12 ?side13 ?side14 ?side15 ?side16 A3.out).mono ?_); (case side1 => exact Kd.C_below HR0_1.out HB.out); (case side2 => exact HC0_1.out); (case side3 => exact Kd.C_below HR0_2.out HB.out); (case side4 => exact HC0_2.out); (case side5 => exact Kd.C_below HR0_3.out HB.out); (case side6 => exact HC0_3.out); (case side7 => exact Kd.C_below HR0_4.out HB.out); (case side8 => exact HC0_4.out); (case side9 => exact Kd.C_below HR0_5.out HB.out); (case side10 => exact HC0_5.out); (case side11 => exact Kd.C_below HR0_6.out HB.out); (case side12 => exact HC0_6.out); (case side13 => exact Kd.C_below HR0_7.out HB.out); (case side14 => exact HC0_7.out); (case side15 => exact Kd.C_below HR0_8.out HB.out); (case side16 => exact HC0_8.out); rintro e w29 ⟨rfl, hb⟩; refine ⟨_, rfl, ?_⟩; have n0_ := Aside0.mk (blk_below BK198.out hb); have n1_ := Aside0.mk (blk_below BK199.out hb); have n2_ := Aside0.mk (below_step HB.out hb); clear BK198; clear BK199; clear HB; have BK198 := n0_; have BK199 := n1_; have HB := n2_; clear n0_ n1_ n2_; (try clear hb); (try clear hb2); (try clear hk); (try clear hi)) | ((with_reducible refine gate_dst (N := 15) rfl ?_); refine Kd.event_run rfl (Row.load_row_run (g := gb199) (t := 34) (cells := #[.int .i64 a1_0, .slice A1_1 l1_1.length c1_1, .slice A1_2 l1_2.length c1_2, .slice A1_3 l1_3.length c1_3, .slice A1_4 l1_4.length c1_4, .slice A1_5 l1_5.length c1_5, .slice A1_6 l1_6.length c1_6, .slice A1_7 l1_7.length c1_7, .slice A1_8 l1_8.length c1_8]) rfl (by first | rfl | (go_simp; done)) BK199.out Try.underlying34 rfl (by kernel_rfl)) ?_) | ((with_reducible refine gate_callee (f := 17) rfl ?_); refine goesL_ (some 17) rfl rfl Try.func17 (by kernel_rfl) rfl #[.agg #[.int .i64 a1_0, .slice A1_1 l1_1.length c1_1, .slice A1_2 l1_2.length c1_2, .slice A1_3 l1_3.length c1_3, .slice A1_4 l1_4.length c1_4, .slice A1_5 l1_5.length c1_5, .slice A1_6 l1_6.length c1_6, .slice A1_7 l1_7.length c1_7, .slice A1_8 l1_8.length c1_8], .int .i64 t200] rfl (by (try simp only [List.map_toArray, List.map_cons, List.map_nil]); first | done | rfl | (simp only [List.length_drop, List.length_take]; rfl)) ?_; (with_reducible refine (laws_szBook.calls k a1_0 _ _ l1_1 _ _ l1_2 _ _ l1_3 _ _ l1_4 _ _ l1_5 _ _ l1_6 _ _ l1_7 _ _ l1_8 t200 t201 _ ?side1 ?side2 ?side3 ?side4 ?side5 ?side6 ?side7 ?side8 ?side9 ?side10 ?side11 ?side12 ?side13 ?side14 ?side15 ?side16 A8.out).mono ?_); (case side1 => exact Kd.C_below HR1_1.out HB.out); (case side2 => exact HC1_1.out); (case side3 => exact Kd.C_below HR1_2.out HB.out); (case side4 => exact HC1_2.out); (case side5 => exact Kd.C_below HR1_3.out HB.out); (case side6 => exact HC1_3.out); (case side7 => exact Kd.C_below HR1_4.out HB.out); (case side8 => exact HC1_4.out); (case side9 => exact Kd.C_below HR1_5.out HB.out); (case side10 => exact HC1_5.out); (case side11 => exact Kd.C_below HR1_6.out HB.out); (case side12 => exact HC1_6.out); (case side13 => exact Kd.C_below HR1_7.out HB.out); (case side14 => exact HC1_7.out); (case side15 => exact Kd.C_below HR1_8.out HB.out); (case side16 => exact HC1_8.out); rintro e w30 ⟨rfl, hb⟩; refine ⟨_, rfl, ?_⟩; have n0_ := Aside0.mk (blk_below BK198.out hb); have n1_ := Aside0.mk (blk_below BK199.out hb); have n2_ := Aside0.mk (below_step HB.out hb); clear BK198; clear BK199; clear HB; have BK198 := n0_; have BK199 := n1_; have HB := n2_; clear n0_ n1_ n2_; (try clear hb); (try clear hb2); (try clear hk); (try clear hi)))
            have n0_ := Aside0.mk (blk_drew BK198.out)
            have n1_ := Aside0.mk (blk_drew BK199.out)
            have n2_ := Aside0.mk (below_drew1 HB.out)
            clear BK198
            clear BK199
            clear HB
            have BK198 := n0_
            have BK199 := n1_
            have HB := n2_
            clear n0_ n1_ n2_
            refine start_ (n := 6) (S := fun w' => w'.cell? ⟨gb198, 0, none⟩ = some (.int .i64 a0_0) ∧ w'.cell? ⟨gb198, 1, none⟩ = some (.slice A0_1 l0_1.length c0_1) ∧ w'.cell? ⟨gb198, 2, none⟩ = some (.slice A0_2 l0_2.length c0_2) ∧ w'.cell? ⟨gb198, 3, none⟩ = some (.slice A0_3 l0_3.length c0_3) ∧ w'.cell? ⟨gb198, 4, none⟩ = some (.slice A0_4 l0_4.length c0_4) ∧ w'.cell? ⟨gb198, 5, none⟩ = some (.slice A0_5 l0_5.length c0_5) ∧ w'.cell? ⟨gb198, 6, none⟩ = some (.slice A0_6 l0_6.length c0_6) ∧ w'.cell? ⟨gb198, 7, none⟩ = some (.slice A0_7 l0_7.length c0_7) ∧ w'.cell? ⟨gb198, 8, none⟩ = some (.slice A0_8 l0_8.length c0_8) ∧ w'.cell? ⟨gb199, 0, none⟩ = some (.int .i64 a1_0) ∧ w'.cell? ⟨gb199, 1, none⟩ = some (.slice A1_1 l1_1.length c1_1) ∧ w'.cell? ⟨gb199, 2, none⟩ = some (.slice A1_2 l1_2.length c1_2) ∧ w'.cell? ⟨gb199, 3, none⟩ = some (.slice A1_3 l1_3.length c1_3) ∧ w'.cell? ⟨gb199, 4, none⟩ = some (.slice A1_4 l1_4.length c1_4) ∧ w'.cell? ⟨gb199, 5, none⟩ = some (.slice A1_5 l1_5.length c1_5) ∧ w'.cell? ⟨gb199, 6, none⟩ = some (.slice A1_6 l1_6.length c1_6) ∧ w'.cell? ⟨gb199, 7, none⟩ = some (.slice A1_7 l1_7.length c1_7) ∧ w'.cell? ⟨gb199, 8, none⟩ = some (.slice A1_8 l1_8.length c1_8)) (ds := []) #[false, false, false, false, false, false] (by kernel_rfl) rfl rfl ⟨(blk_cell BK198.out 0).trans rfl, (blk_cell BK198.out 1).trans rfl, (blk_cell BK198.out 2).trans rfl, (blk_cell BK198.out 3).trans rfl, (blk_cell BK198.out 4).trans rfl, (blk_cell BK198.out 5).trans rfl, (blk_cell BK198.out 6).trans rfl, (blk_cell BK198.out 7).trans rfl, (blk_cell BK198.out 8).trans rfl, (blk_cell BK199.out 0).trans rfl, (blk_cell BK199.out 1).trans rfl, (blk_cell BK199.out 2).trans rfl, (blk_cell BK199.out 3).trans rfl, (blk_cell BK199.out 4).trans rfl, (blk_cell BK199.out 5).trans rfl, (blk_cell BK199.out 6).trans rfl, (blk_cell BK199.out 7).trans rfl, (blk_cell BK199.out 8).trans rfl⟩ (fun hHeld => ?_)
            generalize w30.drew = w31 at BK198 BK199 HB hHeld ⊢
            refine take_ (i := 0) (N := some 20) (v := ?_) (a' := ?_) #[true, false, false, false, false, false] rfl rfl (by kernel_rfl) (fun _ _ _ h => h) (Or.inl ⟨by rfl, ?_⟩) hHeld ?_ ?_
            rotate_left
            · rintro w' ⟨s0, s1, s2, s3, s4, s5, s6, s7, s8, s9, s10, s11, s12, s13, s14, s15, s16, s17⟩
              go_simp
              with_reducible rfl
            rotate_left
            · simp only [Act.put, List.setIfInBounds_toArray, List.set_cons_zero, List.set_cons_succ, i64_w, i32_w]
              rfl
            refine take_ (i := 2) (N := some 22) (v := ?_) (a' := ?_) #[true, false, true, false, false, false] rfl rfl (by kernel_rfl) (fun _ _ _ h => h) (Or.inl ⟨by rfl, ?_⟩) hHeld ?_ ?_
            rotate_left
            · rintro w' ⟨s0, s1, s2, s3, s4, s5, s6, s7, s8, s9, s10, s11, s12, s13, s14, s15, s16, s17⟩
              go_simp
              with_reducible rfl
            rotate_left
            · simp only [Act.put, List.setIfInBounds_toArray, List.set_cons_zero, List.set_cons_succ, i64_w, i32_w]
              rfl
            refine one_ (i := 1) (N := some 21) #[true, true, true, false, false, false] rfl rfl (by kernel_rfl) (by decide) (fun K hK => ?_)
            refine goes_ Try.func19 (by kernel_rfl) rfl #[.agg #[.int .i64 a0_0, .slice A0_1 l0_1.length c0_1, .slice A0_2 l0_2.length c0_2, .slice A0_3 l0_3.length c0_3, .slice A0_4 l0_4.length c0_4, .slice A0_5 l0_5.length c0_5, .slice A0_6 l0_6.length c0_6, .slice A0_7 l0_7.length c0_7, .slice A0_8 l0_8.length c0_8]] (by rfl) rfl rfl (by (try simp only [List.map_toArray, List.map_cons, List.map_nil]); first | done | rfl | (simp only [List.length_drop, List.length_take]; rfl)) ?_
            with_reducible refine (laws_toBook.calls k a0_0 _ _ l0_1 _ _ l0_2 _ _ l0_3 _ _ l0_4 _ _ l0_5 _ _ l0_6 _ _ l0_7 _ _ l0_8 t202 t203 t206 t209 t212 t215 t218 t221 t224 _ ?side1 ?side2 ?side3 ?side4 ?side5 ?side6 ?side7 ?side8 ?side9 ?side10 ?side11 ?side12 ?side13 ?side14 ?side15 ?side16 A14.out).mono ?_
            (case side1 => exact Kd.C_below HR0_1.out HB.out)
            (case side2 => exact HC0_1.out)
            (case side3 => exact Kd.C_below HR0_2.out HB.out)
            (case side4 => exact HC0_2.out)
            (case side5 => exact Kd.C_below HR0_3.out HB.out)
            (case side6 => exact HC0_3.out)
            (case side7 => exact Kd.C_below HR0_4.out HB.out)
            (case side8 => exact HC0_4.out)
            (case side9 => exact Kd.C_below HR0_5.out HB.out)
            (case side10 => exact HC0_5.out)
            (case side11 => exact Kd.C_below HR0_6.out HB.out)
            (case side12 => exact HC0_6.out)
            (case side13 => exact Kd.C_below HR0_7.out HB.out)
            (case side14 => exact HC0_7.out)
            (case side15 => exact Kd.C_below HR0_8.out HB.out)
            (case side16 => exact HC0_8.out)
            rintro e w32 ⟨v204, v207, v210, v213, v216, v219, v222, v225, rfl, ho0, ho1, ho2, ho3, ho4, ho5, ho6, ho7, hb⟩
            refine ⟨_, rfl, ?_⟩
            have n0_ := Aside0.mk (Kd.R_lower ho0 (below_size HB.out))
            have n1_ := Aside0.mk (Kd.R_lower ho1 (below_size HB.out))
            have n2_ := Aside0.mk (Kd.R_lower ho2 (below_size HB.out))
            have n3_ := Aside0.mk (Kd.R_lower ho3 (below_size HB.out))
            have n4_ := Aside0.mk (Kd.R_lower ho4 (below_size HB.out))
            have n5_ := Aside0.mk (Kd.R_lower ho5 (below_size HB.out))
            have n6_ := Aside0.mk (Kd.R_lower ho6 (below_size HB.out))
            have n7_ := Aside0.mk (Kd.R_lower ho7 (below_size HB.out))
            have n8_ := Aside0.mk (blk_below BK198.out hb)
            have n9_ := Aside0.mk (blk_below BK199.out hb)
            have n10_ := Aside0.mk (below_step HB.out hb)
            clear BK198
            clear BK199
            clear HB
            have HO205 := n0_
            have HO208 := n1_
            have HO211 := n2_
            have HO214 := n3_
            have HO217 := n4_
            have HO220 := n5_
            have HO223 := n6_
            have HO226 := n7_
            have BK198 := n8_
            have BK199 := n9_
            have HB := n10_
            clear n0_ n1_ n2_ n3_ n4_ n5_ n6_ n7_ n8_ n9_ n10_
            (try clear hb)
            (try clear hb2)
            (try clear hk)
            (try clear hi)
            (try clear ho0)
            (try clear ho1)
            (try clear ho2)
            (try clear ho3)
            (try clear ho4)
            (try clear ho5)
            (try clear ho6)
            (try clear ho7)
            refine hK.out _ _ ⟨(blk_cell BK198.out 0).trans rfl, (blk_cell BK198.out 1).trans rfl, (blk_cell BK198.out 2).trans rfl, (blk_cell BK198.out 3).trans rfl, (blk_cell BK198.out 4).trans rfl, (blk_cell BK198.out 5).trans rfl, (blk_cell BK198.out 6).trans rfl, (blk_cell BK198.out 7).trans rfl, (blk_cell BK198.out 8).trans rfl, (blk_cell BK199.out 0).trans rfl, (blk_cell BK199.out 1).trans rfl, (blk_cell BK199.out 2).trans rfl, (blk_cell BK199.out 3).trans rfl, (blk_cell BK199.out 4).trans rfl, (blk_cell BK199.out 5).trans rfl, (blk_cell BK199.out 6).trans rfl, (blk_cell BK199.out 7).trans rfl, (blk_cell BK199.out 8).trans rfl⟩ (fun hHeld => ?_)
            clear hK K
            refine norm_ (a' := ?_) ?_ ?_
            rotate_left
            · show Act.put _ (some 21) _ = _
              simp only [Act.put, List.setIfInBounds_toArray, List.set_cons_zero, List.set_cons_succ, i64_w, i32_w]
              rfl
            refine one_ (i := 3) (N := some 23) #[true, true, true, true, false, false] rfl rfl (by kernel_rfl) (by decide) (fun K hK => ?_)
            refine goes_ Try.func19 (by kernel_rfl) rfl #[.agg #[.int .i64 a1_0, .slice A1_1 l1_1.length c1_1, .slice A1_2 l1_2.length c1_2, .slice A1_3 l1_3.length c1_3, .slice A1_4 l1_4.length c1_4, .slice A1_5 l1_5.length c1_5, .slice A1_6 l1_6.length c1_6, .slice A1_7 l1_7.length c1_7, .slice A1_8 l1_8.length c1_8]] (by rfl) rfl rfl (by (try simp only [List.map_toArray, List.map_cons, List.map_nil]); first | done | rfl | (simp only [List.length_drop, List.length_take]; rfl)) ?_
            with_reducible refine (laws_toBook.calls k a1_0 _ _ l1_1 _ _ l1_2 _ _ l1_3 _ _ l1_4 _ _ l1_5 _ _ l1_6 _ _ l1_7 _ _ l1_8 t227 t228 t231 t234 t237 t240 t243 t246 t249 _ ?side1 ?side2 ?side3 ?side4 ?side5 ?side6 ?side7 ?side8 ?side9 ?side10 ?side11 ?side12 ?side13 ?side14 ?side15 ?side16 A15.out).mono ?_
            (case side1 => exact Kd.C_below HR1_1.out HB.out)
            (case side2 => exact HC1_1.out)
            (case side3 => exact Kd.C_below HR1_2.out HB.out)
            (case side4 => exact HC1_2.out)
            (case side5 => exact Kd.C_below HR1_3.out HB.out)
            (case side6 => exact HC1_3.out)
            (case side7 => exact Kd.C_below HR1_4.out HB.out)
            (case side8 => exact HC1_4.out)
            (case side9 => exact Kd.C_below HR1_5.out HB.out)
            (case side10 => exact HC1_5.out)
            (case side11 => exact Kd.C_below HR1_6.out HB.out)
            (case side12 => exact HC1_6.out)
            (case side13 => exact Kd.C_below HR1_7.out HB.out)
            (case side14 => exact HC1_7.out)
            (case side15 => exact Kd.C_below HR1_8.out HB.out)
            (case side16 => exact HC1_8.out)
            rintro e w33 ⟨v229, v232, v235, v238, v241, v244, v247, v250, rfl, ho0, ho1, ho2, ho3, ho4, ho5, ho6, ho7, hb⟩
            refine ⟨_, rfl, ?_⟩
            have n0_ := Aside0.mk (Kd.R_mono (Kd.R_told (Kd.R_told (Kd.R_told (Kd.R_told (Kd.R_told (Kd.R_told (Kd.R_told (Kd.R_told (Kd.R_old HO205.out hb) (Kd.R_base ho0)) (Kd.R_base ho1)) (Kd.R_base ho2)) (Kd.R_base ho3)) (Kd.R_base ho4)) (Kd.R_base ho5)) (Kd.R_base ho6)) (Kd.R_base ho7)) (fun _ h_ => h_.1))
            have n1_ := Aside0.mk (Kd.R_mono (Kd.R_told (Kd.R_told (Kd.R_told (Kd.R_told (Kd.R_told (Kd.R_told (Kd.R_told (Kd.R_told (Kd.R_old HO208.out hb) (Kd.R_base ho0)) (Kd.R_base ho1)) (Kd.R_base ho2)) (Kd.R_base ho3)) (Kd.R_base ho4)) (Kd.R_base ho5)) (Kd.R_base ho6)) (Kd.R_base ho7)) (fun _ h_ => h_.1))
            have n2_ := Aside0.mk (Kd.R_mono (Kd.R_told (Kd.R_told (Kd.R_told (Kd.R_told (Kd.R_told (Kd.R_told (Kd.R_told (Kd.R_told (Kd.R_old HO211.out hb) (Kd.R_base ho0)) (Kd.R_base ho1)) (Kd.R_base ho2)) (Kd.R_base ho3)) (Kd.R_base ho4)) (Kd.R_base ho5)) (Kd.R_base ho6)) (Kd.R_base ho7)) (fun _ h_ => h_.1))
            have n3_ := Aside0.mk (Kd.R_mono (Kd.R_told (Kd.R_told (Kd.R_told (Kd.R_told (Kd.R_told (Kd.R_told (Kd.R_told (Kd.R_told (Kd.R_old HO214.out hb) (Kd.R_base ho0)) (Kd.R_base ho1)) (Kd.R_base ho2)) (Kd.R_base ho3)) (Kd.R_base ho4)) (Kd.R_base ho5)) (Kd.R_base ho6)) (Kd.R_base ho7)) (fun _ h_ => h_.1))
            have n4_ := Aside0.mk (Kd.R_mono (Kd.R_told (Kd.R_told (Kd.R_told (Kd.R_told (Kd.R_told (Kd.R_told (Kd.R_told (Kd.R_told (Kd.R_old HO217.out hb) (Kd.R_base ho0)) (Kd.R_base ho1)) (Kd.R_base ho2)) (Kd.R_base ho3)) (Kd.R_base ho4)) (Kd.R_base ho5)) (Kd.R_base ho6)) (Kd.R_base ho7)) (fun _ h_ => h_.1))
            have n5_ := Aside0.mk (Kd.R_mono (Kd.R_told (Kd.R_told (Kd.R_told (Kd.R_told (Kd.R_told (Kd.R_told (Kd.R_told (Kd.R_told (Kd.R_old HO220.out hb) (Kd.R_base ho0)) (Kd.R_base ho1)) (Kd.R_base ho2)) (Kd.R_base ho3)) (Kd.R_base ho4)) (Kd.R_base ho5)) (Kd.R_base ho6)) (Kd.R_base ho7)) (fun _ h_ => h_.1))
            have n6_ := Aside0.mk (Kd.R_mono (Kd.R_told (Kd.R_told (Kd.R_told (Kd.R_told (Kd.R_told (Kd.R_told (Kd.R_told (Kd.R_told (Kd.R_old HO223.out hb) (Kd.R_base ho0)) (Kd.R_base ho1)) (Kd.R_base ho2)) (Kd.R_base ho3)) (Kd.R_base ho4)) (Kd.R_base ho5)) (Kd.R_base ho6)) (Kd.R_base ho7)) (fun _ h_ => h_.1))
            have n7_ := Aside0.mk (Kd.R_mono (Kd.R_told (Kd.R_told (Kd.R_told (Kd.R_told (Kd.R_told (Kd.R_told (Kd.R_told (Kd.R_told (Kd.R_old HO226.out hb) (Kd.R_base ho0)) (Kd.R_base ho1)) (Kd.R_base ho2)) (Kd.R_base ho3)) (Kd.R_base ho4)) (Kd.R_base ho5)) (Kd.R_base ho6)) (Kd.R_base ho7)) (fun _ h_ => h_.1))
            have n8_ := Aside0.mk (Kd.R_lower (Kd.R_new' (Kd.R_new' (Kd.R_new' (Kd.R_new' (Kd.R_new' (Kd.R_new' (Kd.R_new' (Kd.R_new' ho0 (Kd.R_lt HO205.out)) (Kd.R_lt HO208.out)) (Kd.R_lt HO211.out)) (Kd.R_lt HO214.out)) (Kd.R_lt HO217.out)) (Kd.R_lt HO220.out)) (Kd.R_lt HO223.out)) (Kd.R_lt HO226.out)) (below_size HB.out))
            have n9_ := Aside0.mk (Kd.R_lower (Kd.R_new' (Kd.R_new' (Kd.R_new' (Kd.R_new' (Kd.R_new' (Kd.R_new' (Kd.R_new' (Kd.R_new' ho1 (Kd.R_lt HO205.out)) (Kd.R_lt HO208.out)) (Kd.R_lt HO211.out)) (Kd.R_lt HO214.out)) (Kd.R_lt HO217.out)) (Kd.R_lt HO220.out)) (Kd.R_lt HO223.out)) (Kd.R_lt HO226.out)) (below_size HB.out))
            have n10_ := Aside0.mk (Kd.R_lower (Kd.R_new' (Kd.R_new' (Kd.R_new' (Kd.R_new' (Kd.R_new' (Kd.R_new' (Kd.R_new' (Kd.R_new' ho2 (Kd.R_lt HO205.out)) (Kd.R_lt HO208.out)) (Kd.R_lt HO211.out)) (Kd.R_lt HO214.out)) (Kd.R_lt HO217.out)) (Kd.R_lt HO220.out)) (Kd.R_lt HO223.out)) (Kd.R_lt HO226.out)) (below_size HB.out))
            have n11_ := Aside0.mk (Kd.R_lower (Kd.R_new' (Kd.R_new' (Kd.R_new' (Kd.R_new' (Kd.R_new' (Kd.R_new' (Kd.R_new' (Kd.R_new' ho3 (Kd.R_lt HO205.out)) (Kd.R_lt HO208.out)) (Kd.R_lt HO211.out)) (Kd.R_lt HO214.out)) (Kd.R_lt HO217.out)) (Kd.R_lt HO220.out)) (Kd.R_lt HO223.out)) (Kd.R_lt HO226.out)) (below_size HB.out))
            have n12_ := Aside0.mk (Kd.R_lower (Kd.R_new' (Kd.R_new' (Kd.R_new' (Kd.R_new' (Kd.R_new' (Kd.R_new' (Kd.R_new' (Kd.R_new' ho4 (Kd.R_lt HO205.out)) (Kd.R_lt HO208.out)) (Kd.R_lt HO211.out)) (Kd.R_lt HO214.out)) (Kd.R_lt HO217.out)) (Kd.R_lt HO220.out)) (Kd.R_lt HO223.out)) (Kd.R_lt HO226.out)) (below_size HB.out))
            have n13_ := Aside0.mk (Kd.R_lower (Kd.R_new' (Kd.R_new' (Kd.R_new' (Kd.R_new' (Kd.R_new' (Kd.R_new' (Kd.R_new' (Kd.R_new' ho5 (Kd.R_lt HO205.out)) (Kd.R_lt HO208.out)) (Kd.R_lt HO211.out)) (Kd.R_lt HO214.out)) (Kd.R_lt HO217.out)) (Kd.R_lt HO220.out)) (Kd.R_lt HO223.out)) (Kd.R_lt HO226.out)) (below_size HB.out))
            have n14_ := Aside0.mk (Kd.R_lower (Kd.R_new' (Kd.R_new' (Kd.R_new' (Kd.R_new' (Kd.R_new' (Kd.R_new' (Kd.R_new' (Kd.R_new' ho6 (Kd.R_lt HO205.out)) (Kd.R_lt HO208.out)) (Kd.R_lt HO211.out)) (Kd.R_lt HO214.out)) (Kd.R_lt HO217.out)) (Kd.R_lt HO220.out)) (Kd.R_lt HO223.out)) (Kd.R_lt HO226.out)) (below_size HB.out))
            have n15_ := Aside0.mk (Kd.R_lower (Kd.R_new' (Kd.R_new' (Kd.R_new' (Kd.R_new' (Kd.R_new' (Kd.R_new' (Kd.R_new' (Kd.R_new' ho7 (Kd.R_lt HO205.out)) (Kd.R_lt HO208.out)) (Kd.R_lt HO211.out)) (Kd.R_lt HO214.out)) (Kd.R_lt HO217.out)) (Kd.R_lt HO220.out)) (Kd.R_lt HO223.out)) (Kd.R_lt HO226.out)) (below_size HB.out))
            have n16_ := Aside0.mk (blk_below BK198.out hb)
            have n17_ := Aside0.mk (blk_below BK199.out hb)
            have n18_ := Aside0.mk (below_step HB.out hb)
            clear HO205
            clear HO208
            clear HO211
            clear HO214
            clear HO217
            clear HO220
            clear HO223
            clear HO226
            clear BK198
            clear BK199
            clear HB
            have HO205 := n0_
            have HO208 := n1_
            have HO211 := n2_
            have HO214 := n3_
            have HO217 := n4_
            have HO220 := n5_
            have HO223 := n6_
            have HO226 := n7_
            have HO230 := n8_
            have HO233 := n9_
            have HO236 := n10_
            have HO239 := n11_
            have HO242 := n12_
            have HO245 := n13_
            have HO248 := n14_
            have HO251 := n15_
            have BK198 := n16_
            have BK199 := n17_
            have HB := n18_
            clear n0_ n1_ n2_ n3_ n4_ n5_ n6_ n7_ n8_ n9_ n10_ n11_ n12_ n13_ n14_ n15_ n16_ n17_ n18_
            (try clear hb)
            (try clear hb2)
            (try clear hk)
            (try clear hi)
            (try clear ho0)
            (try clear ho1)
            (try clear ho2)
            (try clear ho3)
            (try clear ho4)
            (try clear ho5)
            (try clear ho6)
            (try clear ho7)
            obtain ⟨Ao34, co34, eo34⟩ := Kd.R_slice HO205.out
            (first | subst eo34 | (injection eo34 with f1_ f2_ f3_; have f4_ := f1_.symm; have f5_ := f3_.symm; clear f1_ f2_ f3_; subst f4_; subst f5_))
            obtain ⟨Ao35, co35, eo35⟩ := Kd.R_slice HO208.out
            (first | subst eo35 | (injection eo35 with f1_ f2_ f3_; have f4_ := f1_.symm; have f5_ := f3_.symm; clear f1_ f2_ f3_; subst f4_; subst f5_))
            obtain ⟨Ao36, co36, eo36⟩ := Kd.R_slice HO211.out
            (first | subst eo36 | (injection eo36 with f1_ f2_ f3_; have f4_ := f1_.symm; have f5_ := f3_.symm; clear f1_ f2_ f3_; subst f4_; subst f5_))
            obtain ⟨Ao37, co37, eo37⟩ := Kd.R_slice HO214.out
            (first | subst eo37 | (injection eo37 with f1_ f2_ f3_; have f4_ := f1_.symm; have f5_ := f3_.symm; clear f1_ f2_ f3_; subst f4_; subst f5_))
            obtain ⟨Ao38, co38, eo38⟩ := Kd.R_slice HO217.out
            (first | subst eo38 | (injection eo38 with f1_ f2_ f3_; have f4_ := f1_.symm; have f5_ := f3_.symm; clear f1_ f2_ f3_; subst f4_; subst f5_))
            obtain ⟨Ao39, co39, eo39⟩ := Kd.R_slice HO220.out
            (first | subst eo39 | (injection eo39 with f1_ f2_ f3_; have f4_ := f1_.symm; have f5_ := f3_.symm; clear f1_ f2_ f3_; subst f4_; subst f5_))
            obtain ⟨Ao40, co40, eo40⟩ := Kd.R_slice HO223.out
            (first | subst eo40 | (injection eo40 with f1_ f2_ f3_; have f4_ := f1_.symm; have f5_ := f3_.symm; clear f1_ f2_ f3_; subst f4_; subst f5_))
            obtain ⟨Ao41, co41, eo41⟩ := Kd.R_slice HO226.out
            (first | subst eo41 | (injection eo41 with f1_ f2_ f3_; have f4_ := f1_.symm; have f5_ := f3_.symm; clear f1_ f2_ f3_; subst f4_; subst f5_))
            obtain ⟨Ao42, co42, eo42⟩ := Kd.R_slice HO230.out
            (first | subst eo42 | (injection eo42 with f1_ f2_ f3_; have f4_ := f1_.symm; have f5_ := f3_.symm; clear f1_ f2_ f3_; subst f4_; subst f5_))
            obtain ⟨Ao43, co43, eo43⟩ := Kd.R_slice HO233.out
            (first | subst eo43 | (injection eo43 with f1_ f2_ f3_; have f4_ := f1_.symm; have f5_ := f3_.symm; clear f1_ f2_ f3_; subst f4_; subst f5_))
            obtain ⟨Ao44, co44, eo44⟩ := Kd.R_slice HO236.out
            (first | subst eo44 | (injection eo44 with f1_ f2_ f3_; have f4_ := f1_.symm; have f5_ := f3_.symm; clear f1_ f2_ f3_; subst f4_; subst f5_))
            obtain ⟨Ao45, co45, eo45⟩ := Kd.R_slice HO239.out
            (first | subst eo45 | (injection eo45 with f1_ f2_ f3_; have f4_ := f1_.symm; have f5_ := f3_.symm; clear f1_ f2_ f3_; subst f4_; subst f5_))
            obtain ⟨Ao46, co46, eo46⟩ := Kd.R_slice HO242.out
            (first | subst eo46 | (injection eo46 with f1_ f2_ f3_; have f4_ := f1_.symm; have f5_ := f3_.symm; clear f1_ f2_ f3_; subst f4_; subst f5_))
            obtain ⟨Ao47, co47, eo47⟩ := Kd.R_slice HO245.out
            (first | subst eo47 | (injection eo47 with f1_ f2_ f3_; have f4_ := f1_.symm; have f5_ := f3_.symm; clear f1_ f2_ f3_; subst f4_; subst f5_))
            obtain ⟨Ao48, co48, eo48⟩ := Kd.R_slice HO248.out
            (first | subst eo48 | (injection eo48 with f1_ f2_ f3_; have f4_ := f1_.symm; have f5_ := f3_.symm; clear f1_ f2_ f3_; subst f4_; subst f5_))
            obtain ⟨Ao49, co49, eo49⟩ := Kd.R_slice HO251.out
            (first | subst eo49 | (injection eo49 with f1_ f2_ f3_; have f4_ := f1_.symm; have f5_ := f3_.symm; clear f1_ f2_ f3_; subst f4_; subst f5_))
            refine hK.out _ _ ⟨(blk_cell BK198.out 0).trans rfl, (blk_cell BK198.out 1).trans rfl, (blk_cell BK198.out 2).trans rfl, (blk_cell BK198.out 3).trans rfl, (blk_cell BK198.out 4).trans rfl, (blk_cell BK198.out 5).trans rfl, (blk_cell BK198.out 6).trans rfl, (blk_cell BK198.out 7).trans rfl, (blk_cell BK198.out 8).trans rfl, (blk_cell BK199.out 0).trans rfl, (blk_cell BK199.out 1).trans rfl, (blk_cell BK199.out 2).trans rfl, (blk_cell BK199.out 3).trans rfl, (blk_cell BK199.out 4).trans rfl, (blk_cell BK199.out 5).trans rfl, (blk_cell BK199.out 6).trans rfl, (blk_cell BK199.out 7).trans rfl, (blk_cell BK199.out 8).trans rfl⟩ (fun hHeld => ?_)
            clear hK K
            refine norm_ (a' := ?_) ?_ ?_
            rotate_left
            · show Act.put _ (some 23) _ = _
              simp only [Act.put, List.setIfInBounds_toArray, List.set_cons_zero, List.set_cons_succ, i64_w, i32_w]
              rfl
            refine one_ (i := 4) (N := some 24) #[true, true, true, true, true, false] rfl rfl (by kernel_rfl) (by decide) (fun K hK => ?_)
            refine goes_ Try.func18 (by kernel_rfl) rfl #[.agg #[.int .i64 t202, .slice Ao34 t203.length co34, .slice Ao35 t206.length co35, .slice Ao36 t209.length co36, .slice Ao37 t212.length co37, .slice Ao38 t215.length co38, .slice Ao39 t218.length co39, .slice Ao40 t221.length co40, .slice Ao41 t224.length co41], .agg #[.int .i64 t227, .slice Ao42 t228.length co42, .slice Ao43 t231.length co43, .slice Ao44 t234.length co44, .slice Ao45 t237.length co45, .slice Ao46 t240.length co46, .slice Ao47 t243.length co47, .slice Ao48 t246.length co48, .slice Ao49 t249.length co49]] (by rfl) rfl rfl (by (try simp only [List.map_toArray, List.map_cons, List.map_nil]); first | done | rfl | (simp only [List.length_drop, List.length_take]; rfl)) ?_
            with_reducible refine (spec_BookSame.calls k t202 _ _ t203 _ _ t206 _ _ t209 _ _ t212 _ _ t215 _ _ t218 _ _ t221 _ _ t224 t227 _ _ t228 _ _ t231 _ _ t234 _ _ t237 _ _ t240 _ _ t243 _ _ t246 _ _ t249 t252 _ ?side1 ?side2 ?side3 ?side4 ?side5 ?side6 ?side7 ?side8 ?side9 ?side10 ?side11 ?side12 ?side13 ?side14 ?side15 ?side16 ?side17 ?side18 ?side19 ?side20 ?side21 ?side22 ?side23 ?side24 ?side25 ?side26 ?side27 ?side28 ?side29 ?side30 ?side31 ?side32 A16.out).mono ?_
            (case side1 => repeat (first | exact (Kd.R_reads' HO205.out).2.2 | (with_reducible refine Kd.C_alloc ?_ _) | (with_reducible refine Kd.C_drewN ?_ _) | (with_reducible refine Kd.C_drew ?_)))
            (case side2 => exact (Kd.R_reads' HO205.out).2.1)
            (case side3 => repeat (first | exact (Kd.R_reads' HO208.out).2.2 | (with_reducible refine Kd.C_alloc ?_ _) | (with_reducible refine Kd.C_drewN ?_ _) | (with_reducible refine Kd.C_drew ?_)))
            (case side4 => exact (Kd.R_reads' HO208.out).2.1)
            (case side5 => repeat (first | exact (Kd.R_reads' HO211.out).2.2 | (with_reducible refine Kd.C_alloc ?_ _) | (with_reducible refine Kd.C_drewN ?_ _) | (with_reducible refine Kd.C_drew ?_)))
            (case side6 => exact (Kd.R_reads' HO211.out).2.1)
            (case side7 => repeat (first | exact (Kd.R_reads' HO214.out).2.2 | (with_reducible refine Kd.C_alloc ?_ _) | (with_reducible refine Kd.C_drewN ?_ _) | (with_reducible refine Kd.C_drew ?_)))
            (case side8 => exact (Kd.R_reads' HO214.out).2.1)
            (case side9 => repeat (first | exact (Kd.R_reads' HO217.out).2.2 | (with_reducible refine Kd.C_alloc ?_ _) | (with_reducible refine Kd.C_drewN ?_ _) | (with_reducible refine Kd.C_drew ?_)))
            (case side10 => exact (Kd.R_reads' HO217.out).2.1)
            (case side11 => repeat (first | exact (Kd.R_reads' HO220.out).2.2 | (with_reducible refine Kd.C_alloc ?_ _) | (with_reducible refine Kd.C_drewN ?_ _) | (with_reducible refine Kd.C_drew ?_)))
            (case side12 => exact (Kd.R_reads' HO220.out).2.1)
            (case side13 => repeat (first | exact (Kd.R_reads' HO223.out).2.2 | (with_reducible refine Kd.C_alloc ?_ _) | (with_reducible refine Kd.C_drewN ?_ _) | (with_reducible refine Kd.C_drew ?_)))
            (case side14 => exact (Kd.R_reads' HO223.out).2.1)
            (case side15 => repeat (first | exact (Kd.R_reads' HO226.out).2.2 | (with_reducible refine Kd.C_alloc ?_ _) | (with_reducible refine Kd.C_drewN ?_ _) | (with_reducible refine Kd.C_drew ?_)))
            (case side16 => exact (Kd.R_reads' HO226.out).2.1)
            (case side17 => repeat (first | exact (Kd.R_reads' HO230.out).2.2 | (with_reducible refine Kd.C_alloc ?_ _) | (with_reducible refine Kd.C_drewN ?_ _) | (with_reducible refine Kd.C_drew ?_)))
            (case side18 => exact (Kd.R_reads' HO230.out).2.1)
            (case side19 => repeat (first | exact (Kd.R_reads' HO233.out).2.2 | (with_reducible refine Kd.C_alloc ?_ _) | (with_reducible refine Kd.C_drewN ?_ _) | (with_reducible refine Kd.C_drew ?_)))
            (case side20 => exact (Kd.R_reads' HO233.out).2.1)
            (case side21 => repeat (first | exact (Kd.R_reads' HO236.out).2.2 | (with_reducible refine Kd.C_alloc ?_ _) | (with_reducible refine Kd.C_drewN ?_ _) | (with_reducible refine Kd.C_drew ?_)))
            (case side22 => exact (Kd.R_reads' HO236.out).2.1)
            (case side23 => repeat (first | exact (Kd.R_reads' HO239.out).2.2 | (with_reducible refine Kd.C_alloc ?_ _) | (with_reducible refine Kd.C_drewN ?_ _) | (with_reducible refine Kd.C_drew ?_)))
            (case side24 => exact (Kd.R_reads' HO239.out).2.1)
            (case side25 => repeat (first | exact (Kd.R_reads' HO242.out).2.2 | (with_reducible refine Kd.C_alloc ?_ _) | (with_reducible refine Kd.C_drewN ?_ _) | (with_reducible refine Kd.C_drew ?_)))
            (case side26 => exact (Kd.R_reads' HO242.out).2.1)
            (case side27 => repeat (first | exact (Kd.R_reads' HO245.out).2.2 | (with_reducible refine Kd.C_alloc ?_ _) | (with_reducible refine Kd.C_drewN ?_ _) | (with_reducible refine Kd.C_drew ?_)))
            (case side28 => exact (Kd.R_reads' HO245.out).2.1)
            (case side29 => repeat (first | exact (Kd.R_reads' HO248.out).2.2 | (with_reducible refine Kd.C_alloc ?_ _) | (with_reducible refine Kd.C_drewN ?_ _) | (with_reducible refine Kd.C_drew ?_)))
            (case side30 => exact (Kd.R_reads' HO248.out).2.1)
            (case side31 => repeat (first | exact (Kd.R_reads' HO251.out).2.2 | (with_reducible refine Kd.C_alloc ?_ _) | (with_reducible refine Kd.C_drewN ?_ _) | (with_reducible refine Kd.C_drew ?_)))
            (case side32 => exact (Kd.R_reads' HO251.out).2.1)
            rintro e w50 ⟨rfl, hb⟩
            refine ⟨_, rfl, ?_⟩
            have n0_ := Aside0.mk (Kd.R_below HO205.out hb)
            have n1_ := Aside0.mk (Kd.R_below HO208.out hb)
            have n2_ := Aside0.mk (Kd.R_below HO211.out hb)
            have n3_ := Aside0.mk (Kd.R_below HO214.out hb)
            have n4_ := Aside0.mk (Kd.R_below HO217.out hb)
            have n5_ := Aside0.mk (Kd.R_below HO220.out hb)
            have n6_ := Aside0.mk (Kd.R_below HO223.out hb)
            have n7_ := Aside0.mk (Kd.R_below HO226.out hb)
            have n8_ := Aside0.mk (Kd.R_below HO230.out hb)
            have n9_ := Aside0.mk (Kd.R_below HO233.out hb)
            have n10_ := Aside0.mk (Kd.R_below HO236.out hb)
            have n11_ := Aside0.mk (Kd.R_below HO239.out hb)
            have n12_ := Aside0.mk (Kd.R_below HO242.out hb)
            have n13_ := Aside0.mk (Kd.R_below HO245.out hb)
            have n14_ := Aside0.mk (Kd.R_below HO248.out hb)
            have n15_ := Aside0.mk (Kd.R_below HO251.out hb)
            have n16_ := Aside0.mk (blk_below BK198.out hb)
            have n17_ := Aside0.mk (blk_below BK199.out hb)
            have n18_ := Aside0.mk (below_step HB.out hb)
            clear HO205
            clear HO208
            clear HO211
            clear HO214
            clear HO217
            clear HO220
            clear HO223
            clear HO226
            clear HO230
            clear HO233
            clear HO236
            clear HO239
            clear HO242
            clear HO245
            clear HO248
            clear HO251
            clear BK198
            clear BK199
            clear HB
            have HO205 := n0_
            have HO208 := n1_
            have HO211 := n2_
            have HO214 := n3_
            have HO217 := n4_
            have HO220 := n5_
            have HO223 := n6_
            have HO226 := n7_
            have HO230 := n8_
            have HO233 := n9_
            have HO236 := n10_
            have HO239 := n11_
            have HO242 := n12_
            have HO245 := n13_
            have HO248 := n14_
            have HO251 := n15_
            have BK198 := n16_
            have BK199 := n17_
            have HB := n18_
            clear n0_ n1_ n2_ n3_ n4_ n5_ n6_ n7_ n8_ n9_ n10_ n11_ n12_ n13_ n14_ n15_ n16_ n17_ n18_
            (try clear hb)
            (try clear hb2)
            (try clear hk)
            (try clear hi)
            refine hK.out _ _ ⟨(blk_cell BK198.out 0).trans rfl, (blk_cell BK198.out 1).trans rfl, (blk_cell BK198.out 2).trans rfl, (blk_cell BK198.out 3).trans rfl, (blk_cell BK198.out 4).trans rfl, (blk_cell BK198.out 5).trans rfl, (blk_cell BK198.out 6).trans rfl, (blk_cell BK198.out 7).trans rfl, (blk_cell BK198.out 8).trans rfl, (blk_cell BK199.out 0).trans rfl, (blk_cell BK199.out 1).trans rfl, (blk_cell BK199.out 2).trans rfl, (blk_cell BK199.out 3).trans rfl, (blk_cell BK199.out 4).trans rfl, (blk_cell BK199.out 5).trans rfl, (blk_cell BK199.out 6).trans rfl, (blk_cell BK199.out 7).trans rfl, (blk_cell BK199.out 8).trans rfl⟩ (fun hHeld => ?_)
            clear hK K
            refine norm_ (a' := ?_) ?_ ?_
            rotate_left
            · show Act.put _ (some 24) _ = _
              simp only [Act.put, List.setIfInBounds_toArray, List.set_cons_zero, List.set_cons_succ, i64_w, i32_w]
              rfl
            refine pure_ (i := 5) (N := some 6) (v := ?_) (a' := ?_) #[true, true, true, true, true, true] rfl rfl (by kernel_rfl) (fun _ _ _ h => h) (Or.inl ⟨by rfl, ?_⟩) ?_ ?_
            rotate_left
            · intro w'
              go_simp
              with_reducible rfl
            rotate_left
            · simp only [Act.put, List.setIfInBounds_toArray, List.set_cons_zero, List.set_cons_succ, i64_w, i32_w]
              rfl
            refine done_ (by kernel_rfl) ?_
            try go_wp2_with (first | ((with_reducible refine gate_dst (N := 25) rfl ?_); refine Kd.event_run rfl (Row.load_row_run (g := gb198) (t := 34) (cells := #[.int .i64 a0_0, .slice A0_1 l0_1.length c0_1, .slice A0_2 l0_2.length c0_2, .slice A0_3 l0_3.length c0_3, .slice A0_4 l0_4.length c0_4, .slice A0_5 l0_5.length c0_5, .slice A0_6 l0_6.length c0_6, .slice A0_7 l0_7.length c0_7, .slice A0_8 l0_8.length c0_8]) rfl (by first | rfl | (go_simp; done)) BK198.out Try.underlying34 rfl (by kernel_rfl)) ?_) | ((with_reducible refine gate_callee (f := 19) rfl ?_); refine goesL_ (some 26) rfl rfl Try.func19 (by kernel_rfl) rfl #[.agg #[.int .i64 a0_0, .slice A0_1 l0_1.length c0_1, .slice A0_2 l0_2.length c0_2, .slice A0_3 l0_3.length c0_3, .slice A0_4 l0_4.length c0_4, .slice A0_5 l0_5.length c0_5, .slice A0_6 l0_6.length c0_6, .slice A0_7 l0_7.length c0_7, .slice A0_8 l0_8.length c0_8]] rfl (by (try simp only [List.map_toArray, List.map_cons, List.map_nil]); first | done | rfl | (simp only [List.length_drop, List.length_take]; rfl)) ?_; (with_reducible refine (laws_toBook.calls k a0_0 _ _ l0_1 _ _ l0_2 _ _ l0_3 _ _ l0_4 _ _ l0_5 _ _ l0_6 _ _ l0_7 _ _ l0_8 t253 t254 t257 t260 t263 t266 t269 t272 t275 _ ?side1 ?side2 ?side3 ?side4 ?side5 ?side6 ?side7 ?side8 ?side9 ?side10 ?side11 ?side12 ?side13 ?side14 ?side15 ?side16 A17.out).mono ?_); (case side1 => exact Kd.C_below HR0_1.out HB.out); (case side2 => exact HC0_1.out); (case side3 => exact Kd.C_below HR0_2.out HB.out); (case side4 => exact HC0_2.out); (case side5 => exact Kd.C_below HR0_3.out HB.out); (case side6 => exact HC0_3.out); (case side7 => exact Kd.C_below HR0_4.out HB.out); (case side8 => exact HC0_4.out); (case side9 => exact Kd.C_below HR0_5.out HB.out); (case side10 => exact HC0_5.out); (case side11 => exact Kd.C_below HR0_6.out HB.out); (case side12 => exact HC0_6.out); (case side13 => exact Kd.C_below HR0_7.out HB.out); (case side14 => exact HC0_7.out); (case side15 => exact Kd.C_below HR0_8.out HB.out); (case side16 => exact HC0_8.out); rintro e w51 ⟨v255, v258, v261, v264, v267, v270, v273, v276, rfl, ho0, ho1, ho2, ho3, ho4, ho5, ho6, ho7, hb⟩; refine ⟨_, rfl, ?_⟩; have n0_ := Aside0.mk (Kd.R_mono (Kd.R_told (Kd.R_told (Kd.R_told (Kd.R_told (Kd.R_told (Kd.R_told (Kd.R_told (Kd.R_told (Kd.R_old HO205.out hb) (Kd.R_base ho0)) (Kd.R_base ho1)) (Kd.R_base ho2)) (Kd.R_base ho3)) (Kd.R_base ho4)) (Kd.R_base ho5)) (Kd.R_base ho6)) (Kd.R_base ho7)) (fun _ h_ => h_.1)); have n1_ := Aside0.mk (Kd.R_mono (Kd.R_told (Kd.R_told (Kd.R_told (Kd.R_told (Kd.R_told (Kd.R_told (Kd.R_told (Kd.R_told (Kd.R_old HO208.out hb) (Kd.R_base ho0)) (Kd.R_base ho1)) (Kd.R_base ho2)) (Kd.R_base ho3)) (Kd.R_base ho4)) (Kd.R_base ho5)) (Kd.R_base ho6)) (Kd.R_base ho7)) (fun _ h_ => h_.1)); have n2_ := Aside0.mk (Kd.R_mono (Kd.R_told (Kd.R_told (Kd.R_told (Kd.R_told (Kd.R_told (Kd.R_told (Kd.R_told (Kd.R_told (Kd.R_old HO211.out hb) (Kd.R_base ho0)) (Kd.R_base ho1)) (Kd.R_base ho2)) (Kd.R_base ho3)) (Kd.R_base ho4)) (Kd.R_base ho5)) (Kd.R_base ho6)) (Kd.R_base ho7)) (fun _ h_ => h_.1)); have n3_ := Aside0.mk (Kd.R_mono (Kd.R_told (Kd.R_told (Kd.R_told (Kd.R_told (Kd.R_told (Kd.R_told (Kd.R_told (Kd.R_told (Kd.R_old HO214.out hb) (Kd.R_base ho0)) (Kd.R_base ho1)) (Kd.R_base ho2)) (Kd.R_base ho3)) (Kd.R_base ho4)) (Kd.R_base ho5)) (Kd.R_base ho6)) (Kd.R_base ho7)) (fun _ h_ => h_.1)); have n4_ := Aside0.mk (Kd.R_mono (Kd.R_told (Kd.R_told (Kd.R_told (Kd.R_told (Kd.R_told (Kd.R_told (Kd.R_told (Kd.R_told (Kd.R_old HO217.out hb) (Kd.R_base ho0)) (Kd.R_base ho1)) (Kd.R_base ho2)) (Kd.R_base ho3)) (Kd.R_base ho4)) (Kd.R_base ho5)) (Kd.R_base ho6)) (Kd.R_base ho7)) (fun _ h_ => h_.1)); have n5_ := Aside0.mk (Kd.R_mono (Kd.R_told (Kd.R_told (Kd.R_told (Kd.R_told (Kd.R_told (Kd.R_told (Kd.R_told (Kd.R_told (Kd.R_old HO220.out hb) (Kd.R_base ho0)) (Kd.R_base ho1)) (Kd.R_base ho2)) (Kd.R_base ho3)) (Kd.R_base ho4)) (Kd.R_base ho5)) (Kd.R_base ho6)) (Kd.R_base ho7)) (fun _ h_ => h_.1)); have n6_ := Aside0.mk (Kd.R_mono (Kd.R_told (Kd.R_told (Kd.R_told (Kd.R_told (Kd.R_told (Kd.R_told (Kd.R_told (Kd.R_told (Kd.R_old HO223.out hb) (Kd.R_base ho0)) (Kd.R_base ho1)) (Kd.R_base ho2)) (Kd.R_base ho3)) (Kd.R_base ho4)) (Kd.R_base ho5)) (Kd.R_base ho6)) (Kd.R_base ho7)) (fun _ h_ => h_.1)); have n7_ := Aside0.mk (Kd.R_mono (Kd.R_told (Kd.R_told (Kd.R_told (Kd.R_told (Kd.R_told (Kd.R_told (Kd.R_told (Kd.R_told (Kd.R_old HO226.out hb) (Kd.R_base ho0)) (Kd.R_base ho1)) (Kd.R_base ho2)) (Kd.R_base ho3)) (Kd.R_base ho4)) (Kd.R_base ho5)) (Kd.R_base ho6)) (Kd.R_base ho7)) (fun _ h_ => h_.1)); have n8_ := Aside0.mk (Kd.R_mono (Kd.R_told (Kd.R_told (Kd.R_told (Kd.R_told (Kd.R_told (Kd.R_told (Kd.R_told (Kd.R_told (Kd.R_old HO230.out hb) (Kd.R_base ho0)) (Kd.R_base ho1)) (Kd.R_base ho2)) (Kd.R_base ho3)) (Kd.R_base ho4)) (Kd.R_base ho5)) (Kd.R_base ho6)) (Kd.R_base ho7)) (fun _ h_ => h_.1)); have n9_ := Aside0.mk (Kd.R_mono (Kd.R_told (Kd.R_told (Kd.R_told (Kd.R_told (Kd.R_told (Kd.R_told (Kd.R_told (Kd.R_told (Kd.R_old HO233.out hb) (Kd.R_base ho0)) (Kd.R_base ho1)) (Kd.R_base ho2)) (Kd.R_base ho3)) (Kd.R_base ho4)) (Kd.R_base ho5)) (Kd.R_base ho6)) (Kd.R_base ho7)) (fun _ h_ => h_.1)); have n10_ := Aside0.mk (Kd.R_mono (Kd.R_told (Kd.R_told (Kd.R_told (Kd.R_told (Kd.R_told (Kd.R_told (Kd.R_told (Kd.R_told (Kd.R_old HO236.out hb) (Kd.R_base ho0)) (Kd.R_base ho1)) (Kd.R_base ho2)) (Kd.R_base ho3)) (Kd.R_base ho4)) (Kd.R_base ho5)) (Kd.R_base ho6)) (Kd.R_base ho7)) (fun _ h_ => h_.1)); have n11_ := Aside0.mk (Kd.R_mono (Kd.R_told (Kd.R_told (Kd.R_told (Kd.R_told (Kd.R_told (Kd.R_told (Kd.R_told (Kd.R_told (Kd.R_old HO239.out hb) (Kd.R_base ho0)) (Kd.R_base ho1)) (Kd.R_base ho2)) (Kd.R_base ho3)) (Kd.R_base ho4)) (Kd.R_base ho5)) (Kd.R_base ho6)) (Kd.R_base ho7)) (fun _ h_ => h_.1)); have n12_ := Aside0.mk (Kd.R_mono (Kd.R_told (Kd.R_told (Kd.R_told (Kd.R_told (Kd.R_told (Kd.R_told (Kd.R_told (Kd.R_told (Kd.R_old HO242.out hb) (Kd.R_base ho0)) (Kd.R_base ho1)) (Kd.R_base ho2)) (Kd.R_base ho3)) (Kd.R_base ho4)) (Kd.R_base ho5)) (Kd.R_base ho6)) (Kd.R_base ho7)) (fun _ h_ => h_.1)); have n13_ := Aside0.mk (Kd.R_mono (Kd.R_told (Kd.R_told (Kd.R_told (Kd.R_told (Kd.R_told (Kd.R_told (Kd.R_told (Kd.R_told (Kd.R_old HO245.out hb) (Kd.R_base ho0)) (Kd.R_base ho1)) (Kd.R_base ho2)) (Kd.R_base ho3)) (Kd.R_base ho4)) (Kd.R_base ho5)) (Kd.R_base ho6)) (Kd.R_base ho7)) (fun _ h_ => h_.1)); have n14_ := Aside0.mk (Kd.R_mono (Kd.R_told (Kd.R_told (Kd.R_told (Kd.R_told (Kd.R_told (Kd.R_told (Kd.R_told (Kd.R_told (Kd.R_old HO248.out hb) (Kd.R_base ho0)) (Kd.R_base ho1)) (Kd.R_base ho2)) (Kd.R_base ho3)) (Kd.R_base ho4)) (Kd.R_base ho5)) (Kd.R_base ho6)) (Kd.R_base ho7)) (fun _ h_ => h_.1)); have n15_ := Aside0.mk (Kd.R_mono (Kd.R_told (Kd.R_told (Kd.R_told (Kd.R_told (Kd.R_told (Kd.R_told (Kd.R_told (Kd.R_told (Kd.R_old HO251.out hb) (Kd.R_base ho0)) (Kd.R_base ho1)) (Kd.R_base ho2)) (Kd.R_base ho3)) (Kd.R_base ho4)) (Kd.R_base ho5)) (Kd.R_base ho6)) (Kd.R_base ho7)) (fun _ h_ => h_.1)); have n16_ := Aside0.mk (Kd.R_lower (Kd.R_new' (Kd.R_new' (Kd.R_new' (Kd.R_new' (Kd.R_new' (Kd.R_new' (Kd.R_new' (Kd.R_new' (Kd.R_new' (Kd.R_new' (Kd.R_new' (Kd.R_new' (Kd.R_new' (Kd.R_new' (Kd.R_new' (Kd.R_new' ho0 (Kd.R_lt HO205.out)) (Kd.R_lt HO208.out)) (Kd.R_lt HO211.out)) (Kd.R_lt HO214.out)) (Kd.R_lt HO217.out)) (Kd.R_lt HO220.out)) (Kd.R_lt HO223.out)) (Kd.R_lt HO226.out)) (Kd.R_lt HO230.out)) (Kd.R_lt HO233.out)) (Kd.R_lt HO236.out)) (Kd.R_lt HO239.out)) (Kd.R_lt HO242.out)) (Kd.R_lt HO245.out)) (Kd.R_lt HO248.out)) (Kd.R_lt HO251.out)) (below_size HB.out)); have n17_ := Aside0.mk (Kd.R_lower (Kd.R_new' (Kd.R_new' (Kd.R_new' (Kd.R_new' (Kd.R_new' (Kd.R_new' (Kd.R_new' (Kd.R_new' (Kd.R_new' (Kd.R_new' (Kd.R_new' (Kd.R_new' (Kd.R_new' (Kd.R_new' (Kd.R_new' (Kd.R_new' ho1 (Kd.R_lt HO205.out)) (Kd.R_lt HO208.out)) (Kd.R_lt HO211.out)) (Kd.R_lt HO214.out)) (Kd.R_lt HO217.out)) (Kd.R_lt HO220.out)) (Kd.R_lt HO223.out)) (Kd.R_lt HO226.out)) (Kd.R_lt HO230.out)) (Kd.R_lt HO233.out)) (Kd.R_lt HO236.out)) (Kd.R_lt HO239.out)) (Kd.R_lt HO242.out)) (Kd.R_lt HO245.out)) (Kd.R_lt HO248.out)) (Kd.R_lt HO251.out)) (below_size HB.out)); have n18_ := Aside0.mk (Kd.R_lower (Kd.R_new' (Kd.R_new' (Kd.R_new' (Kd.R_new' (Kd.R_new' (Kd.R_new' (Kd.R_new' (Kd.R_new' (Kd.R_new' (Kd.R_new' (Kd.R_new' (Kd.R_new' (Kd.R_new' (Kd.R_new' (Kd.R_new' (Kd.R_new' ho2 (Kd.R_lt HO205.out)) (Kd.R_lt HO208.out)) (Kd.R_lt HO211.out)) (Kd.R_lt HO214.out)) (Kd.R_lt HO217.out)) (Kd.R_lt HO220.out)) (Kd.R_lt HO223.out)) (Kd.R_lt HO226.out)) (Kd.R_lt HO230.out)) (Kd.R_lt HO233.out)) (Kd.R_lt HO236.out)) (Kd.R_lt HO239.out)) (Kd.R_lt HO242.out)) (Kd.R_lt HO245.out)) (Kd.R_lt HO248.out)) (Kd.R_lt HO251.out)) (below_size HB.out)); have n19_ := Aside0.mk (Kd.R_lower (Kd.R_new' (Kd.R_new' (Kd.R_new' (Kd.R_new' (Kd.R_new' (Kd.R_new' (Kd.R_new' (Kd.R_new' (Kd.R_new' (Kd.R_new' (Kd.R_new' (Kd.R_new' (Kd.R_new' (Kd.R_new' (Kd.R_new' (Kd.R_new' ho3 (Kd.R_lt HO205.out)) (Kd.R_lt HO208.out)) (Kd.R_lt HO211.out)) (Kd.R_lt HO214.out)) (Kd.R_lt HO217.out)) (Kd.R_lt HO220.out)) (Kd.R_lt HO223.out)) (Kd.R_lt HO226.out)) (Kd.R_lt HO230.out)) (Kd.R_lt HO233.out)) (Kd.R_lt HO236.out)) (Kd.R_lt HO239.out)) (Kd.R_lt HO242.out)) (Kd.R_lt HO245.out)) (Kd.R_lt HO248.out)) (Kd.R_lt HO251.out)) (below_size HB.out)); have n20_ := Aside0.mk (Kd.R_lower (Kd.R_new' (Kd.R_new' (Kd.R_new' (Kd.R_new' (Kd.R_new' (Kd.R_new' (Kd.R_new' (Kd.R_new' (Kd.R_new' (Kd.R_new' (Kd.R_new' (Kd.R_new' (Kd.R_new' (Kd.R_new' (Kd.R_new' (Kd.R_new' ho4 (Kd.R_lt HO205.out)) (Kd.R_lt HO208.out)) (Kd.R_lt HO211.out)) (Kd.R_lt HO214.out)) (Kd.R_lt HO217.out)) (Kd.R_lt HO220.out)) (Kd.R_lt HO223.out)) (Kd.R_lt HO226.out)) (Kd.R_lt HO230.out)) (Kd.R_lt HO233.out)) (Kd.R_lt HO236.out)) (Kd.R_lt HO239.out)) (Kd.R_lt HO242.out)) (Kd.R_lt HO245.out)) (Kd.R_lt HO248.out)) (Kd.R_lt HO251.out)) (below_size HB.out)); have n21_ := Aside0.mk (Kd.R_lower (Kd.R_new' (Kd.R_new' (Kd.R_new' (Kd.R_new' (Kd.R_new' (Kd.R_new' (Kd.R_new' (Kd.R_new' (Kd.R_new' (Kd.R_new' (Kd.R_new' (Kd.R_new' (Kd.R_new' (Kd.R_new' (Kd.R_new' (Kd.R_new' ho5 (Kd.R_lt HO205.out)) (Kd.R_lt HO208.out)) (Kd.R_lt HO211.out)) (Kd.R_lt HO214.out)) (Kd.R_lt HO217.out)) (Kd.R_lt HO220.out)) (Kd.R_lt HO223.out)) (Kd.R_lt HO226.out)) (Kd.R_lt HO230.out)) (Kd.R_lt HO233.out)) (Kd.R_lt HO236.out)) (Kd.R_lt HO239.out)) (Kd.R_lt HO242.out)) (Kd.R_lt HO245.out)) (Kd.R_lt HO248.out)) (Kd.R_lt HO251.out)) (below_size HB.out)); have n22_ := Aside0.mk (Kd.R_lower (Kd.R_new' (Kd.R_new' (Kd.R_new' (Kd.R_new' (Kd.R_new' (Kd.R_new' (Kd.R_new' (Kd.R_new' (Kd.R_new' (Kd.R_new' (Kd.R_new' (Kd.R_new' (Kd.R_new' (Kd.R_new' (Kd.R_new' (Kd.R_new' ho6 (Kd.R_lt HO205.out)) (Kd.R_lt HO208.out)) (Kd.R_lt HO211.out)) (Kd.R_lt HO214.out)) (Kd.R_lt HO217.out)) (Kd.R_lt HO220.out)) (Kd.R_lt HO223.out)) (Kd.R_lt HO226.out)) (Kd.R_lt HO230.out)) (Kd.R_lt HO233.out)) (Kd.R_lt HO236.out)) (Kd.R_lt HO239.out)) (Kd.R_lt HO242.out)) (Kd.R_lt HO245.out)) (Kd.R_lt HO248.out)) (Kd.R_lt HO251.out)) (below_size HB.out)); have n23_ := Aside0.mk (Kd.R_lower (Kd.R_new' (Kd.R_new' (Kd.R_new' (Kd.R_new' (Kd.R_new' (Kd.R_new' (Kd.R_new' (Kd.R_new' (Kd.R_new' (Kd.R_new' (Kd.R_new' (Kd.R_new' (Kd.R_new' (Kd.R_new' (Kd.R_new' (Kd.R_new' ho7 (Kd.R_lt HO205.out)) (Kd.R_lt HO208.out)) (Kd.R_lt HO211.out)) (Kd.R_lt HO214.out)) (Kd.R_lt HO217.out)) (Kd.R_lt HO220.out)) (Kd.R_lt HO223.out)) (Kd.R_lt HO226.out)) (Kd.R_lt HO230.out)) (Kd.R_lt HO233.out)) (Kd.R_lt HO236.out)) (Kd.R_lt HO239.out)) (Kd.R_lt HO242.out)) (Kd.R_lt HO245.out)) (Kd.R_lt HO248.out)) (Kd.R_lt HO251.out)) (below_size HB.out)); have n24_ := Aside0.mk (blk_below BK198.out hb); have n25_ := Aside0.mk (blk_below BK199.out hb); have n26_ := Aside0.mk (below_step HB.out hb); clear HO205; clear HO208; clear HO211; clear HO214; clear HO217; clear HO220; clear HO223; clear HO226; clear HO230; clear HO233; clear HO236; clear HO239; clear HO242; clear HO245; clear HO248; clear HO251; clear BK198; clear BK199; clear HB; have HO205 := n0_; have HO208 := n1_; have HO211 := n2_; have HO214 := n3_; have HO217 := n4_; have HO220 := n5_; have HO223 := n6_; have HO226 := n7_; have HO230 := n8_; have HO233 := n9_; have HO236 := n10_; have HO239 := n11_; have HO242 := n12_; have HO245 := n13_; have HO248 := n14_; have HO251 := n15_; have HO256 := n16_; have HO259 := n17_; have HO262 := n18_; have HO265 := n19_; have HO268 := n20_; have HO271 := n21_; have HO274 := n22_; have HO277 := n23_; have BK198 := n24_; have BK199 := n25_; have HB := n26_; clear n0_ n1_ n2_ n3_ n4_ n5_ n6_ n7_ n8_ n9_ n10_ n11_ n12_ n13_ n14_ n15_ n16_ n17_ n18_ n19_ n20_ n21_ n22_ n23_ n24_ n25_ n26_; (try clear hb); (try clear hb2); (try clear hk); (try clear hi); (try clear ho0); (try clear ho1); (try clear ho2); (try clear ho3); (try clear ho4); (try clear ho5); (try clear ho6); (try clear ho7)) | ((with_reducible refine gate_dst (N := 7) rfl ?_); refine box_event ?hg (N := 7) ?hd (cs := #[.int .i64 0, .slice none 0 0, .slice none 0 0, .slice none 0 0, .slice none 0 0, .slice none 0 0, .slice none 0 0, .slice none 0 0, .slice none 0 0]) (t := 27) ?hr ?_; (case hd => rfl); (case hg => rfl); (case hr => first | (go_simp; done) | (go_simp; rfl)); intro gb278 hg w52 hbox hb; have n0_ := Aside0.mk (Kd.R_below HO205.out hb); have n1_ := Aside0.mk (Kd.R_below HO208.out hb); have n2_ := Aside0.mk (Kd.R_below HO211.out hb); have n3_ := Aside0.mk (Kd.R_below HO214.out hb); have n4_ := Aside0.mk (Kd.R_below HO217.out hb); have n5_ := Aside0.mk (Kd.R_below HO220.out hb); have n6_ := Aside0.mk (Kd.R_below HO223.out hb); have n7_ := Aside0.mk (Kd.R_below HO226.out hb); have n8_ := Aside0.mk (Kd.R_below HO230.out hb); have n9_ := Aside0.mk (Kd.R_below HO233.out hb); have n10_ := Aside0.mk (Kd.R_below HO236.out hb); have n11_ := Aside0.mk (Kd.R_below HO239.out hb); have n12_ := Aside0.mk (Kd.R_below HO242.out hb); have n13_ := Aside0.mk (Kd.R_below HO245.out hb); have n14_ := Aside0.mk (Kd.R_below HO248.out hb); have n15_ := Aside0.mk (Kd.R_below HO251.out hb); have n16_ := Aside0.mk (Kd.R_below HO256.out hb); have n17_ := Aside0.mk (Kd.R_below HO259.out hb); have n18_ := Aside0.mk (Kd.R_below HO262.out hb); have n19_ := Aside0.mk (Kd.R_below HO265.out hb); have n20_ := Aside0.mk (Kd.R_below HO268.out hb); have n21_ := Aside0.mk (Kd.R_below HO271.out hb); have n22_ := Aside0.mk (Kd.R_below HO274.out hb); have n23_ := Aside0.mk (Kd.R_below HO277.out hb); have n24_ := Aside0.mk (blk_below BK198.out hb); have n25_ := Aside0.mk (blk_below BK199.out hb); have n26_ := Aside0.mk (below_step HB.out hb); have n27_ := Aside0.mk (hbox); have n28_ := Aside0.mk ((by rw [hg]; exact (below_size HB.out) : w.heap.size ≤ gb278)); have n29_ := Aside0.mk ((by rw [hg]; exact (below_size HB.out) : w.heap.size ≤ gb278)); have n30_ := Aside0.mk ((by rw [hg]; exact Nat.ne_of_lt (blk_lt BK198.out) : gb198 ≠ gb278)); have n31_ := Aside0.mk ((by rw [hg]; exact Nat.ne_of_gt (blk_lt BK198.out) : gb278 ≠ gb198)); have n32_ := Aside0.mk ((by rw [hg]; exact Nat.ne_of_lt (blk_lt BK199.out) : gb199 ≠ gb278)); have n33_ := Aside0.mk ((by rw [hg]; exact Nat.ne_of_gt (blk_lt BK199.out) : gb278 ≠ gb199)); clear HO205; clear HO208; clear HO211; clear HO214; clear HO217; clear HO220; clear HO223; clear HO226; clear HO230; clear HO233; clear HO236; clear HO239; clear HO242; clear HO245; clear HO248; clear HO251; clear HO256; clear HO259; clear HO262; clear HO265; clear HO268; clear HO271; clear HO274; clear HO277; clear BK198; clear BK199; clear HB; have HO205 := n0_; have HO208 := n1_; have HO211 := n2_; have HO214 := n3_; have HO217 := n4_; have HO220 := n5_; have HO223 := n6_; have HO226 := n7_; have HO230 := n8_; have HO233 := n9_; have HO236 := n10_; have HO239 := n11_; have HO242 := n12_; have HO245 := n13_; have HO248 := n14_; have HO251 := n15_; have HO256 := n16_; have HO259 := n17_; have HO262 := n18_; have HO265 := n19_; have HO268 := n20_; have HO271 := n21_; have HO274 := n22_; have HO277 := n23_; have BK198 := n24_; have BK199 := n25_; have HB := n26_; have BK278 := n27_; have GW278 := n28_; have GE278 := n29_; have NB198_278 := n30_; have NB278_198 := n31_; have NB199_278 := n32_; have NB278_199 := n33_; clear n0_ n1_ n2_ n3_ n4_ n5_ n6_ n7_ n8_ n9_ n10_ n11_ n12_ n13_ n14_ n15_ n16_ n17_ n18_ n19_ n20_ n21_ n22_ n23_ n24_ n25_ n26_ n27_ n28_ n29_ n30_ n31_ n32_ n33_; clear hb hbox hg; obtain ⟨Ao53, co53, eo53⟩ := Kd.R_slice HO256.out; subst eo53; obtain ⟨Ao54, co54, eo54⟩ := Kd.R_slice HO259.out; subst eo54; obtain ⟨Ao55, co55, eo55⟩ := Kd.R_slice HO262.out; subst eo55; obtain ⟨Ao56, co56, eo56⟩ := Kd.R_slice HO265.out; subst eo56; obtain ⟨Ao57, co57, eo57⟩ := Kd.R_slice HO268.out; subst eo57; obtain ⟨Ao58, co58, eo58⟩ := Kd.R_slice HO271.out; subst eo58; obtain ⟨Ao59, co59, eo59⟩ := Kd.R_slice HO274.out; subst eo59; obtain ⟨Ao60, co60, eo60⟩ := Kd.R_slice HO277.out; subst eo60) | ((with_reducible refine gate_store (t := 27) (p := 7) rfl ?_); refine store_event (t := 27) (p := 7) (v := ?vo_w61) (w1 := (w52.setRow gb278 #[.int .i64 t253, .slice Ao53 t254.length co53, .slice Ao54 t257.length co54, .slice Ao55 t260.length co55, .slice Ao56 t263.length co56, .slice Ao57 t266.length co57, .slice Ao58 t269.length co58, .slice Ao59 t272.length co59, .slice Ao60 t275.length co60])) ?hg ?ho ?hn ?hr ?_; (case ho => rfl); (case hg => rfl); (case hn => rfl); (case hr => exact Row.store_row_run (g := gb278) (cells := #[.int .i64 t253, .slice Ao53 t254.length co53, .slice Ao54 t257.length co54, .slice Ao55 t260.length co55, .slice Ao56 t263.length co56, .slice Ao57 t266.length co57, .slice Ao58 t269.length co58, .slice Ao59 t272.length co59, .slice Ao60 t275.length co60]) (t := 27) (old := #[.int .i64 0, .slice none 0 0, .slice none 0 0, .slice none 0 0, .slice none 0 0, .slice none 0 0, .slice none 0 0, .slice none 0 0, .slice none 0 0]) rfl (by first | rfl | (go_simp; done)) (by first | rfl | (go_simp; done) | (go_simp; rfl)) BK278.out (by kernel_rfl) rfl (by first | rfl | (simp [Value.oneCell']; done))); intro w61 hw; have n0_ := Aside0.mk (Row.row_R hw HO205.out BK278.out (by decide)); have n1_ := Aside0.mk (Row.row_R hw HO208.out BK278.out (by decide)); have n2_ := Aside0.mk (Row.row_R hw HO211.out BK278.out (by decide)); have n3_ := Aside0.mk (Row.row_R hw HO214.out BK278.out (by decide)); have n4_ := Aside0.mk (Row.row_R hw HO217.out BK278.out (by decide)); have n5_ := Aside0.mk (Row.row_R hw HO220.out BK278.out (by decide)); have n6_ := Aside0.mk (Row.row_R hw HO223.out BK278.out (by decide)); have n7_ := Aside0.mk (Row.row_R hw HO226.out BK278.out (by decide)); have n8_ := Aside0.mk (Row.row_R hw HO230.out BK278.out (by decide)); have n9_ := Aside0.mk (Row.row_R hw HO233.out BK278.out (by decide)); have n10_ := Aside0.mk (Row.row_R hw HO236.out BK278.out (by decide)); have n11_ := Aside0.mk (Row.row_R hw HO239.out BK278.out (by decide)); have n12_ := Aside0.mk (Row.row_R hw HO242.out BK278.out (by decide)); have n13_ := Aside0.mk (Row.row_R hw HO245.out BK278.out (by decide)); have n14_ := Aside0.mk (Row.row_R hw HO248.out BK278.out (by decide)); have n15_ := Aside0.mk (Row.row_R hw HO251.out BK278.out (by decide)); have n16_ := Aside0.mk (Row.row_R hw HO256.out BK278.out (by decide)); have n17_ := Aside0.mk (Row.row_R hw HO259.out BK278.out (by decide)); have n18_ := Aside0.mk (Row.row_R hw HO262.out BK278.out (by decide)); have n19_ := Aside0.mk (Row.row_R hw HO265.out BK278.out (by decide)); have n20_ := Aside0.mk (Row.row_R hw HO268.out BK278.out (by decide)); have n21_ := Aside0.mk (Row.row_R hw HO271.out BK278.out (by decide)); have n22_ := Aside0.mk (Row.row_R hw HO274.out BK278.out (by decide)); have n23_ := Aside0.mk (Row.row_R hw HO277.out BK278.out (by decide)); have n24_ : Aside0 (w61.heap[gb198]? = some (.cells #[.int .i64 a0_0, .slice A0_1 l0_1.length c0_1, .slice A0_2 l0_2.length c0_2, .slice A0_3 l0_3.length c0_3, .slice A0_4 l0_4.length c0_4, .slice A0_5 l0_5.length c0_5, .slice A0_6 l0_6.length c0_6, .slice A0_7 l0_7.length c0_7, .slice A0_8 l0_8.length c0_8] 34 (0, 0))) := ⟨(by exact Row.row_there hw BK198.out NB198_278.out)⟩; have n25_ : Aside0 (w61.heap[gb199]? = some (.cells #[.int .i64 a1_0, .slice A1_1 l1_1.length c1_1, .slice A1_2 l1_2.length c1_2, .slice A1_3 l1_3.length c1_3, .slice A1_4 l1_4.length c1_4, .slice A1_5 l1_5.length c1_5, .slice A1_6 l1_6.length c1_6, .slice A1_7 l1_7.length c1_7, .slice A1_8 l1_8.length c1_8] 34 (0, 0))) := ⟨(by exact Row.row_there hw BK199.out NB199_278.out)⟩; have n26_ : Aside0 (w61.heap[gb278]? = some (.cells #[.int .i64 t253, .slice Ao53 t254.length co53, .slice Ao54 t257.length co54, .slice Ao55 t260.length co55, .slice Ao56 t263.length co56, .slice Ao57 t266.length co57, .slice Ao58 t269.length co58, .slice Ao59 t272.length co59, .slice Ao60 t275.length co60] 27 (0, 0))) := ⟨(by exact Row.row_here (old := #[.int .i64 0, .slice none 0 0, .slice none 0 0, .slice none 0 0, .slice none 0 0, .slice none 0 0, .slice none 0 0, .slice none 0 0, .slice none 0 0]) (t := 27) hw BK278.out)⟩; have n27_ : Aside0 (Below w.heap.size w w61) := ⟨(by exact Row.row_below hw HB.out GE278.out)⟩; clear hw; clear HO205; clear HO208; clear HO211; clear HO214; clear HO217; clear HO220; clear HO223; clear HO226; clear HO230; clear HO233; clear HO236; clear HO239; clear HO242; clear HO245; clear HO248; clear HO251; clear HO256; clear HO259; clear HO262; clear HO265; clear HO268; clear HO271; clear HO274; clear HO277; clear BK198; clear BK199; clear BK278; clear HB; have HO205 := n0_; have HO208 := n1_; have HO211 := n2_; have HO214 := n3_; have HO217 := n4_; have HO220 := n5_; have HO223 := n6_; have HO226 := n7_; have HO230 := n8_; have HO233 := n9_; have HO236 := n10_; have HO239 := n11_; have HO242 := n12_; have HO245 := n13_; have HO248 := n14_; have HO251 := n15_; have HO256 := n16_; have HO259 := n17_; have HO262 := n18_; have HO265 := n19_; have HO268 := n20_; have HO271 := n21_; have HO274 := n22_; have HO277 := n23_; have BK198 := n24_; have BK199 := n25_; have BK278 := n26_; have HB := n27_; clear n0_ n1_ n2_ n3_ n4_ n5_ n6_ n7_ n8_ n9_ n10_ n11_ n12_ n13_ n14_ n15_ n16_ n17_ n18_ n19_ n20_ n21_ n22_ n23_ n24_ n25_ n26_ n27_) | ((with_reducible refine gate_dst (N := 27) rfl ?_); refine Kd.event_run rfl (Row.load_row_run (g := gb199) (t := 34) (cells := #[.int .i64 a1_0, .slice A1_1 l1_1.length c1_1, .slice A1_2 l1_2.length c1_2, .slice A1_3 l1_3.length c1_3, .slice A1_4 l1_4.length c1_4, .slice A1_5 l1_5.length c1_5, .slice A1_6 l1_6.length c1_6, .slice A1_7 l1_7.length c1_7, .slice A1_8 l1_8.length c1_8]) rfl (by first | rfl | (go_simp; done)) BK199.out Try.underlying34 rfl (by kernel_rfl)) ?_) | ((with_reducible refine gate_callee (f := 19) rfl ?_); refine goesL_ (some 28) rfl rfl Try.func19 (by kernel_rfl) rfl #[.agg #[.int .i64 a1_0, .slice A1_1 l1_1.length c1_1, .slice A1_2 l1_2.length c1_2, .slice A1_3 l1_3.length c1_3, .slice A1_4 l1_4.length c1_4, .slice A1_5 l1_5.length c1_5, .slice A1_6 l1_6.length c1_6, .slice A1_7 l1_7.length c1_7, .slice A1_8 l1_8.length c1_8]] rfl (by (try simp only [List.map_toArray, List.map_cons, List.map_nil]); first | done | rfl | (simp only [List.length_drop, List.length_take]; rfl)) ?_; (with_reducible refine (laws_toBook.calls k a1_0 _ _ l1_1 _ _ l1_2 _ _ l1_3 _ _ l1_4 _ _ l1_5 _ _ l1_6 _ _ l1_7 _ _ l1_8 t279 t280 t283 t286 t289 t292 t295 t298 t301 _ ?side1 ?side2 ?side3 ?side4 ?side5 ?side6 ?side7 ?side8 ?side9 ?side10 ?side11 ?side12 ?side13 ?side14 ?side15 ?side16 A18.out).mono ?_); (case side1 => exact Kd.C_below HR1_1.out HB.out); (case side2 => exact HC1_1.out); (case side3 => exact Kd.C_below HR1_2.out HB.out); (case side4 => exact HC1_2.out); (case side5 => exact Kd.C_below HR1_3.out HB.out); (case side6 => exact HC1_3.out); (case side7 => exact Kd.C_below HR1_4.out HB.out); (case side8 => exact HC1_4.out); (case side9 => exact Kd.C_below HR1_5.out HB.out); (case side10 => exact HC1_5.out); (case side11 => exact Kd.C_below HR1_6.out HB.out); (case side12 => exact HC1_6.out); (case side13 => exact Kd.C_below HR1_7.out HB.out); (case side14 => exact HC1_7.out); (case side15 => exact Kd.C_below HR1_8.out HB.out); (case side16 => exact HC1_8.out); rintro e w62 ⟨v281, v284, v287, v290, v293, v296, v299, v302, rfl, ho0, ho1, ho2, ho3, ho4, ho5, ho6, ho7, hb⟩; refine ⟨_, rfl, ?_⟩; have n0_ := Aside0.mk (Kd.R_mono (Kd.R_told (Kd.R_told (Kd.R_told (Kd.R_told (Kd.R_told (Kd.R_told (Kd.R_told (Kd.R_told (Kd.R_old HO205.out hb) (Kd.R_base ho0)) (Kd.R_base ho1)) (Kd.R_base ho2)) (Kd.R_base ho3)) (Kd.R_base ho4)) (Kd.R_base ho5)) (Kd.R_base ho6)) (Kd.R_base ho7)) (fun _ h_ => h_.1)); have n1_ := Aside0.mk (Kd.R_mono (Kd.R_told (Kd.R_told (Kd.R_told (Kd.R_told (Kd.R_told (Kd.R_told (Kd.R_told (Kd.R_told (Kd.R_old HO208.out hb) (Kd.R_base ho0)) (Kd.R_base ho1)) (Kd.R_base ho2)) (Kd.R_base ho3)) (Kd.R_base ho4)) (Kd.R_base ho5)) (Kd.R_base ho6)) (Kd.R_base ho7)) (fun _ h_ => h_.1)); have n2_ := Aside0.mk (Kd.R_mono (Kd.R_told (Kd.R_told (Kd.R_told (Kd.R_told (Kd.R_told (Kd.R_told (Kd.R_told (Kd.R_told (Kd.R_old HO211.out hb) (Kd.R_base ho0)) (Kd.R_base ho1)) (Kd.R_base ho2)) (Kd.R_base ho3)) (Kd.R_base ho4)) (Kd.R_base ho5)) (Kd.R_base ho6)) (Kd.R_base ho7)) (fun _ h_ => h_.1)); have n3_ := Aside0.mk (Kd.R_mono (Kd.R_told (Kd.R_told (Kd.R_told (Kd.R_told (Kd.R_told (Kd.R_told (Kd.R_told (Kd.R_told (Kd.R_old HO214.out hb) (Kd.R_base ho0)) (Kd.R_base ho1)) (Kd.R_base ho2)) (Kd.R_base ho3)) (Kd.R_base ho4)) (Kd.R_base ho5)) (Kd.R_base ho6)) (Kd.R_base ho7)) (fun _ h_ => h_.1)); have n4_ := Aside0.mk (Kd.R_mono (Kd.R_told (Kd.R_told (Kd.R_told (Kd.R_told (Kd.R_told (Kd.R_told (Kd.R_told (Kd.R_told (Kd.R_old HO217.out hb) (Kd.R_base ho0)) (Kd.R_base ho1)) (Kd.R_base ho2)) (Kd.R_base ho3)) (Kd.R_base ho4)) (Kd.R_base ho5)) (Kd.R_base ho6)) (Kd.R_base ho7)) (fun _ h_ => h_.1)); have n5_ := Aside0.mk (Kd.R_mono (Kd.R_told (Kd.R_told (Kd.R_told (Kd.R_told (Kd.R_told (Kd.R_told (Kd.R_told (Kd.R_told (Kd.R_old HO220.out hb) (Kd.R_base ho0)) (Kd.R_base ho1)) (Kd.R_base ho2)) (Kd.R_base ho3)) (Kd.R_base ho4)) (Kd.R_base ho5)) (Kd.R_base ho6)) (Kd.R_base ho7)) (fun _ h_ => h_.1)); have n6_ := Aside0.mk (Kd.R_mono (Kd.R_told (Kd.R_told (Kd.R_told (Kd.R_told (Kd.R_told (Kd.R_told (Kd.R_told (Kd.R_told (Kd.R_old HO223.out hb) (Kd.R_base ho0)) (Kd.R_base ho1)) (Kd.R_base ho2)) (Kd.R_base ho3)) (Kd.R_base ho4)) (Kd.R_base ho5)) (Kd.R_base ho6)) (Kd.R_base ho7)) (fun _ h_ => h_.1)); have n7_ := Aside0.mk (Kd.R_mono (Kd.R_told (Kd.R_told (Kd.R_told (Kd.R_told (Kd.R_told (Kd.R_told (Kd.R_told (Kd.R_told (Kd.R_old HO226.out hb) (Kd.R_base ho0)) (Kd.R_base ho1)) (Kd.R_base ho2)) (Kd.R_base ho3)) (Kd.R_base ho4)) (Kd.R_base ho5)) (Kd.R_base ho6)) (Kd.R_base ho7)) (fun _ h_ => h_.1)); have n8_ := Aside0.mk (Kd.R_mono (Kd.R_told (Kd.R_told (Kd.R_told (Kd.R_told (Kd.R_told (Kd.R_told (Kd.R_told (Kd.R_told (Kd.R_old HO230.out hb) (Kd.R_base ho0)) (Kd.R_base ho1)) (Kd.R_base ho2)) (Kd.R_base ho3)) (Kd.R_base ho4)) (Kd.R_base ho5)) (Kd.R_base ho6)) (Kd.R_base ho7)) (fun _ h_ => h_.1)); have n9_ := Aside0.mk (Kd.R_mono (Kd.R_told (Kd.R_told (Kd.R_told (Kd.R_told (Kd.R_told (Kd.R_told (Kd.R_told (Kd.R_told (Kd.R_old HO233.out hb) (Kd.R_base ho0)) (Kd.R_base ho1)) (Kd.R_base ho2)) (Kd.R_base ho3)) (Kd.R_base ho4)) (Kd.R_base ho5)) (Kd.R_base ho6)) (Kd.R_base ho7)) (fun _ h_ => h_.1)); have n10_ := Aside0.mk (Kd.R_mono (Kd.R_told (Kd.R_told (Kd.R_told (Kd.R_told (Kd.R_told (Kd.R_told (Kd.R_told (Kd.R_told (Kd.R_old HO236.out hb) (Kd.R_base ho0)) (Kd.R_base ho1)) (Kd.R_base ho2)) (Kd.R_base ho3)) (Kd.R_base ho4)) (Kd.R_base ho5)) (Kd.R_base ho6)) (Kd.R_base ho7)) (fun _ h_ => h_.1)); have n11_ := Aside0.mk (Kd.R_mono (Kd.R_told (Kd.R_told (Kd.R_told (Kd.R_told (Kd.R_told (Kd.R_told (Kd.R_told (Kd.R_told (Kd.R_old HO239.out hb) (Kd.R_base ho0)) (Kd.R_base ho1)) (Kd.R_base ho2)) (Kd.R_base ho3)) (Kd.R_base ho4)) (Kd.R_base ho5)) (Kd.R_base ho6)) (Kd.R_base ho7)) (fun _ h_ => h_.1)); have n12_ := Aside0.mk (Kd.R_mono (Kd.R_told (Kd.R_told (Kd.R_told (Kd.R_told (Kd.R_told (Kd.R_told (Kd.R_told (Kd.R_told (Kd.R_old HO242.out hb) (Kd.R_base ho0)) (Kd.R_base ho1)) (Kd.R_base ho2)) (Kd.R_base ho3)) (Kd.R_base ho4)) (Kd.R_base ho5)) (Kd.R_base ho6)) (Kd.R_base ho7)) (fun _ h_ => h_.1)); have n13_ := Aside0.mk (Kd.R_mono (Kd.R_told (Kd.R_told (Kd.R_told (Kd.R_told (Kd.R_told (Kd.R_told (Kd.R_told (Kd.R_told (Kd.R_old HO245.out hb) (Kd.R_base ho0)) (Kd.R_base ho1)) (Kd.R_base ho2)) (Kd.R_base ho3)) (Kd.R_base ho4)) (Kd.R_base ho5)) (Kd.R_base ho6)) (Kd.R_base ho7)) (fun _ h_ => h_.1)); have n14_ := Aside0.mk (Kd.R_mono (Kd.R_told (Kd.R_told (Kd.R_told (Kd.R_told (Kd.R_told (Kd.R_told (Kd.R_told (Kd.R_told (Kd.R_old HO248.out hb) (Kd.R_base ho0)) (Kd.R_base ho1)) (Kd.R_base ho2)) (Kd.R_base ho3)) (Kd.R_base ho4)) (Kd.R_base ho5)) (Kd.R_base ho6)) (Kd.R_base ho7)) (fun _ h_ => h_.1)); have n15_ := Aside0.mk (Kd.R_mono (Kd.R_told (Kd.R_told (Kd.R_told (Kd.R_told (Kd.R_told (Kd.R_told (Kd.R_told (Kd.R_told (Kd.R_old HO251.out hb) (Kd.R_base ho0)) (Kd.R_base ho1)) (Kd.R_base ho2)) (Kd.R_base ho3)) (Kd.R_base ho4)) (Kd.R_base ho5)) (Kd.R_base ho6)) (Kd.R_base ho7)) (fun _ h_ => h_.1)); have n16_ := Aside0.mk (Kd.R_mono (Kd.R_told (Kd.R_told (Kd.R_told (Kd.R_told (Kd.R_told (Kd.R_told (Kd.R_told (Kd.R_told (Kd.R_old HO256.out hb) (Kd.R_base ho0)) (Kd.R_base ho1)) (Kd.R_base ho2)) (Kd.R_base ho3)) (Kd.R_base ho4)) (Kd.R_base ho5)) (Kd.R_base ho6)) (Kd.R_base ho7)) (fun _ h_ => h_.1)); have n17_ := Aside0.mk (Kd.R_mono (Kd.R_told (Kd.R_told (Kd.R_told (Kd.R_told (Kd.R_told (Kd.R_told (Kd.R_told (Kd.R_told (Kd.R_old HO259.out hb) (Kd.R_base ho0)) (Kd.R_base ho1)) (Kd.R_base ho2)) (Kd.R_base ho3)) (Kd.R_base ho4)) (Kd.R_base ho5)) (Kd.R_base ho6)) (Kd.R_base ho7)) (fun _ h_ => h_.1)); have n18_ := Aside0.mk (Kd.R_mono (Kd.R_told (Kd.R_told (Kd.R_told (Kd.R_told (Kd.R_told (Kd.R_told (Kd.R_told (Kd.R_told (Kd.R_old HO262.out hb) (Kd.R_base ho0)) (Kd.R_base ho1)) (Kd.R_base ho2)) (Kd.R_base ho3)) (Kd.R_base ho4)) (Kd.R_base ho5)) (Kd.R_base ho6)) (Kd.R_base ho7)) (fun _ h_ => h_.1)); have n19_ := Aside0.mk (Kd.R_mono (Kd.R_told (Kd.R_told (Kd.R_told (Kd.R_told (Kd.R_told (Kd.R_told (Kd.R_told (Kd.R_told (Kd.R_old HO265.out hb) (Kd.R_base ho0)) (Kd.R_base ho1)) (Kd.R_base ho2)) (Kd.R_base ho3)) (Kd.R_base ho4)) (Kd.R_base ho5)) (Kd.R_base ho6)) (Kd.R_base ho7)) (fun _ h_ => h_.1)); have n20_ := Aside0.mk (Kd.R_mono (Kd.R_told (Kd.R_told (Kd.R_told (Kd.R_told (Kd.R_told (Kd.R_told (Kd.R_told (Kd.R_told (Kd.R_old HO268.out hb) (Kd.R_base ho0)) (Kd.R_base ho1)) (Kd.R_base ho2)) (Kd.R_base ho3)) (Kd.R_base ho4)) (Kd.R_base ho5)) (Kd.R_base ho6)) (Kd.R_base ho7)) (fun _ h_ => h_.1)); have n21_ := Aside0.mk (Kd.R_mono (Kd.R_told (Kd.R_told (Kd.R_told (Kd.R_told (Kd.R_told (Kd.R_told (Kd.R_told (Kd.R_told (Kd.R_old HO271.out hb) (Kd.R_base ho0)) (Kd.R_base ho1)) (Kd.R_base ho2)) (Kd.R_base ho3)) (Kd.R_base ho4)) (Kd.R_base ho5)) (Kd.R_base ho6)) (Kd.R_base ho7)) (fun _ h_ => h_.1)); have n22_ := Aside0.mk (Kd.R_mono (Kd.R_told (Kd.R_told (Kd.R_told (Kd.R_told (Kd.R_told (Kd.R_told (Kd.R_told (Kd.R_told (Kd.R_old HO274.out hb) (Kd.R_base ho0)) (Kd.R_base ho1)) (Kd.R_base ho2)) (Kd.R_base ho3)) (Kd.R_base ho4)) (Kd.R_base ho5)) (Kd.R_base ho6)) (Kd.R_base ho7)) (fun _ h_ => h_.1)); have n23_ := Aside0.mk (Kd.R_mono (Kd.R_told (Kd.R_told (Kd.R_told (Kd.R_told (Kd.R_told (Kd.R_told (Kd.R_told (Kd.R_told (Kd.R_old HO277.out hb) (Kd.R_base ho0)) (Kd.R_base ho1)) (Kd.R_base ho2)) (Kd.R_base ho3)) (Kd.R_base ho4)) (Kd.R_base ho5)) (Kd.R_base ho6)) (Kd.R_base ho7)) (fun _ h_ => h_.1)); have n24_ := Aside0.mk (Kd.R_lower (Kd.R_new' (Kd.R_new' (Kd.R_new' (Kd.R_new' (Kd.R_new' (Kd.R_new' (Kd.R_new' (Kd.R_new' (Kd.R_new' (Kd.R_new' (Kd.R_new' (Kd.R_new' (Kd.R_new' (Kd.R_new' (Kd.R_new' (Kd.R_new' (Kd.R_new' (Kd.R_new' (Kd.R_new' (Kd.R_new' (Kd.R_new' (Kd.R_new' (Kd.R_new' (Kd.R_new' ho0 (Kd.R_lt HO205.out)) (Kd.R_lt HO208.out)) (Kd.R_lt HO211.out)) (Kd.R_lt HO214.out)) (Kd.R_lt HO217.out)) (Kd.R_lt HO220.out)) (Kd.R_lt HO223.out)) (Kd.R_lt HO226.out)) (Kd.R_lt HO230.out)) (Kd.R_lt HO233.out)) (Kd.R_lt HO236.out)) (Kd.R_lt HO239.out)) (Kd.R_lt HO242.out)) (Kd.R_lt HO245.out)) (Kd.R_lt HO248.out)) (Kd.R_lt HO251.out)) (Kd.R_lt HO256.out)) (Kd.R_lt HO259.out)) (Kd.R_lt HO262.out)) (Kd.R_lt HO265.out)) (Kd.R_lt HO268.out)) (Kd.R_lt HO271.out)) (Kd.R_lt HO274.out)) (Kd.R_lt HO277.out)) (below_size HB.out)); have n25_ := Aside0.mk (Kd.R_lower (Kd.R_new' (Kd.R_new' (Kd.R_new' (Kd.R_new' (Kd.R_new' (Kd.R_new' (Kd.R_new' (Kd.R_new' (Kd.R_new' (Kd.R_new' (Kd.R_new' (Kd.R_new' (Kd.R_new' (Kd.R_new' (Kd.R_new' (Kd.R_new' (Kd.R_new' (Kd.R_new' (Kd.R_new' (Kd.R_new' (Kd.R_new' (Kd.R_new' (Kd.R_new' (Kd.R_new' ho1 (Kd.R_lt HO205.out)) (Kd.R_lt HO208.out)) (Kd.R_lt HO211.out)) (Kd.R_lt HO214.out)) (Kd.R_lt HO217.out)) (Kd.R_lt HO220.out)) (Kd.R_lt HO223.out)) (Kd.R_lt HO226.out)) (Kd.R_lt HO230.out)) (Kd.R_lt HO233.out)) (Kd.R_lt HO236.out)) (Kd.R_lt HO239.out)) (Kd.R_lt HO242.out)) (Kd.R_lt HO245.out)) (Kd.R_lt HO248.out)) (Kd.R_lt HO251.out)) (Kd.R_lt HO256.out)) (Kd.R_lt HO259.out)) (Kd.R_lt HO262.out)) (Kd.R_lt HO265.out)) (Kd.R_lt HO268.out)) (Kd.R_lt HO271.out)) (Kd.R_lt HO274.out)) (Kd.R_lt HO277.out)) (below_size HB.out)); have n26_ := Aside0.mk (Kd.R_lower (Kd.R_new' (Kd.R_new' (Kd.R_new' (Kd.R_new' (Kd.R_new' (Kd.R_new' (Kd.R_new' (Kd.R_new' (Kd.R_new' (Kd.R_new' (Kd.R_new' (Kd.R_new' (Kd.R_new' (Kd.R_new' (Kd.R_new' (Kd.R_new' (Kd.R_new' (Kd.R_new' (Kd.R_new' (Kd.R_new' (Kd.R_new' (Kd.R_new' (Kd.R_new' (Kd.R_new' ho2 (Kd.R_lt HO205.out)) (Kd.R_lt HO208.out)) (Kd.R_lt HO211.out)) (Kd.R_lt HO214.out)) (Kd.R_lt HO217.out)) (Kd.R_lt HO220.out)) (Kd.R_lt HO223.out)) (Kd.R_lt HO226.out)) (Kd.R_lt HO230.out)) (Kd.R_lt HO233.out)) (Kd.R_lt HO236.out)) (Kd.R_lt HO239.out)) (Kd.R_lt HO242.out)) (Kd.R_lt HO245.out)) (Kd.R_lt HO248.out)) (Kd.R_lt HO251.out)) (Kd.R_lt HO256.out)) (Kd.R_lt HO259.out)) (Kd.R_lt HO262.out)) (Kd.R_lt HO265.out)) (Kd.R_lt HO268.out)) (Kd.R_lt HO271.out)) (Kd.R_lt HO274.out)) (Kd.R_lt HO277.out)) (below_size HB.out)); have n27_ := Aside0.mk (Kd.R_lower (Kd.R_new' (Kd.R_new' (Kd.R_new' (Kd.R_new' (Kd.R_new' (Kd.R_new' (Kd.R_new' (Kd.R_new' (Kd.R_new' (Kd.R_new' (Kd.R_new' (Kd.R_new' (Kd.R_new' (Kd.R_new' (Kd.R_new' (Kd.R_new' (Kd.R_new' (Kd.R_new' (Kd.R_new' (Kd.R_new' (Kd.R_new' (Kd.R_new' (Kd.R_new' (Kd.R_new' ho3 (Kd.R_lt HO205.out)) (Kd.R_lt HO208.out)) (Kd.R_lt HO211.out)) (Kd.R_lt HO214.out)) (Kd.R_lt HO217.out)) (Kd.R_lt HO220.out)) (Kd.R_lt HO223.out)) (Kd.R_lt HO226.out)) (Kd.R_lt HO230.out)) (Kd.R_lt HO233.out)) (Kd.R_lt HO236.out)) (Kd.R_lt HO239.out)) (Kd.R_lt HO242.out)) (Kd.R_lt HO245.out)) (Kd.R_lt HO248.out)) (Kd.R_lt HO251.out)) (Kd.R_lt HO256.out)) (Kd.R_lt HO259.out)) (Kd.R_lt HO262.out)) (Kd.R_lt HO265.out)) (Kd.R_lt HO268.out)) (Kd.R_lt HO271.out)) (Kd.R_lt HO274.out)) (Kd.R_lt HO277.out)) (below_size HB.out)); have n28_ := Aside0.mk (Kd.R_lower (Kd.R_new' (Kd.R_new' (Kd.R_new' (Kd.R_new' (Kd.R_new' (Kd.R_new' (Kd.R_new' (Kd.R_new' (Kd.R_new' (Kd.R_new' (Kd.R_new' (Kd.R_new' (Kd.R_new' (Kd.R_new' (Kd.R_new' (Kd.R_new' (Kd.R_new' (Kd.R_new' (Kd.R_new' (Kd.R_new' (Kd.R_new' (Kd.R_new' (Kd.R_new' (Kd.R_new' ho4 (Kd.R_lt HO205.out)) (Kd.R_lt HO208.out)) (Kd.R_lt HO211.out)) (Kd.R_lt HO214.out)) (Kd.R_lt HO217.out)) (Kd.R_lt HO220.out)) (Kd.R_lt HO223.out)) (Kd.R_lt HO226.out)) (Kd.R_lt HO230.out)) (Kd.R_lt HO233.out)) (Kd.R_lt HO236.out)) (Kd.R_lt HO239.out)) (Kd.R_lt HO242.out)) (Kd.R_lt HO245.out)) (Kd.R_lt HO248.out)) (Kd.R_lt HO251.out)) (Kd.R_lt HO256.out)) (Kd.R_lt HO259.out)) (Kd.R_lt HO262.out)) (Kd.R_lt HO265.out)) (Kd.R_lt HO268.out)) (Kd.R_lt HO271.out)) (Kd.R_lt HO274.out)) (Kd.R_lt HO277.out)) (below_size HB.out)); have n29_ := Aside0.mk (Kd.R_lower (Kd.R_new' (Kd.R_new' (Kd.R_new' (Kd.R_new' (Kd.R_new' (Kd.R_new' (Kd.R_new' (Kd.R_new' (Kd.R_new' (Kd.R_new' (Kd.R_new' (Kd.R_new' (Kd.R_new' (Kd.R_new' (Kd.R_new' (Kd.R_new' (Kd.R_new' (Kd.R_new' (Kd.R_new' (Kd.R_new' (Kd.R_new' (Kd.R_new' (Kd.R_new' (Kd.R_new' ho5 (Kd.R_lt HO205.out)) (Kd.R_lt HO208.out)) (Kd.R_lt HO211.out)) (Kd.R_lt HO214.out)) (Kd.R_lt HO217.out)) (Kd.R_lt HO220.out)) (Kd.R_lt HO223.out)) (Kd.R_lt HO226.out)) (Kd.R_lt HO230.out)) (Kd.R_lt HO233.out)) (Kd.R_lt HO236.out)) (Kd.R_lt HO239.out)) (Kd.R_lt HO242.out)) (Kd.R_lt HO245.out)) (Kd.R_lt HO248.out)) (Kd.R_lt HO251.out)) (Kd.R_lt HO256.out)) (Kd.R_lt HO259.out)) (Kd.R_lt HO262.out)) (Kd.R_lt HO265.out)) (Kd.R_lt HO268.out)) (Kd.R_lt HO271.out)) (Kd.R_lt HO274.out)) (Kd.R_lt HO277.out)) (below_size HB.out)); have n30_ := Aside0.mk (Kd.R_lower (Kd.R_new' (Kd.R_new' (Kd.R_new' (Kd.R_new' (Kd.R_new' (Kd.R_new' (Kd.R_new' (Kd.R_new' (Kd.R_new' (Kd.R_new' (Kd.R_new' (Kd.R_new' (Kd.R_new' (Kd.R_new' (Kd.R_new' (Kd.R_new' (Kd.R_new' (Kd.R_new' (Kd.R_new' (Kd.R_new' (Kd.R_new' (Kd.R_new' (Kd.R_new' (Kd.R_new' ho6 (Kd.R_lt HO205.out)) (Kd.R_lt HO208.out)) (Kd.R_lt HO211.out)) (Kd.R_lt HO214.out)) (Kd.R_lt HO217.out)) (Kd.R_lt HO220.out)) (Kd.R_lt HO223.out)) (Kd.R_lt HO226.out)) (Kd.R_lt HO230.out)) (Kd.R_lt HO233.out)) (Kd.R_lt HO236.out)) (Kd.R_lt HO239.out)) (Kd.R_lt HO242.out)) (Kd.R_lt HO245.out)) (Kd.R_lt HO248.out)) (Kd.R_lt HO251.out)) (Kd.R_lt HO256.out)) (Kd.R_lt HO259.out)) (Kd.R_lt HO262.out)) (Kd.R_lt HO265.out)) (Kd.R_lt HO268.out)) (Kd.R_lt HO271.out)) (Kd.R_lt HO274.out)) (Kd.R_lt HO277.out)) (below_size HB.out)); have n31_ := Aside0.mk (Kd.R_lower (Kd.R_new' (Kd.R_new' (Kd.R_new' (Kd.R_new' (Kd.R_new' (Kd.R_new' (Kd.R_new' (Kd.R_new' (Kd.R_new' (Kd.R_new' (Kd.R_new' (Kd.R_new' (Kd.R_new' (Kd.R_new' (Kd.R_new' (Kd.R_new' (Kd.R_new' (Kd.R_new' (Kd.R_new' (Kd.R_new' (Kd.R_new' (Kd.R_new' (Kd.R_new' (Kd.R_new' ho7 (Kd.R_lt HO205.out)) (Kd.R_lt HO208.out)) (Kd.R_lt HO211.out)) (Kd.R_lt HO214.out)) (Kd.R_lt HO217.out)) (Kd.R_lt HO220.out)) (Kd.R_lt HO223.out)) (Kd.R_lt HO226.out)) (Kd.R_lt HO230.out)) (Kd.R_lt HO233.out)) (Kd.R_lt HO236.out)) (Kd.R_lt HO239.out)) (Kd.R_lt HO242.out)) (Kd.R_lt HO245.out)) (Kd.R_lt HO248.out)) (Kd.R_lt HO251.out)) (Kd.R_lt HO256.out)) (Kd.R_lt HO259.out)) (Kd.R_lt HO262.out)) (Kd.R_lt HO265.out)) (Kd.R_lt HO268.out)) (Kd.R_lt HO271.out)) (Kd.R_lt HO274.out)) (Kd.R_lt HO277.out)) (below_size HB.out)); have n32_ := Aside0.mk (blk_below BK198.out hb); have n33_ := Aside0.mk (blk_below BK199.out hb); have n34_ := Aside0.mk (blk_below BK278.out hb); have n35_ := Aside0.mk (below_step HB.out hb); clear HO205; clear HO208; clear HO211; clear HO214; clear HO217; clear HO220; clear HO223; clear HO226; clear HO230; clear HO233; clear HO236; clear HO239; clear HO242; clear HO245; clear HO248; clear HO251; clear HO256; clear HO259; clear HO262; clear HO265; clear HO268; clear HO271; clear HO274; clear HO277; clear BK198; clear BK199; clear BK278; clear HB; have HO205 := n0_; have HO208 := n1_; have HO211 := n2_; have HO214 := n3_; have HO217 := n4_; have HO220 := n5_; have HO223 := n6_; have HO226 := n7_; have HO230 := n8_; have HO233 := n9_; have HO236 := n10_; have HO239 := n11_; have HO242 := n12_; have HO245 := n13_; have HO248 := n14_; have HO251 := n15_; have HO256 := n16_; have HO259 := n17_; have HO262 := n18_; have HO265 := n19_; have HO268 := n20_; have HO271 := n21_; have HO274 := n22_; have HO277 := n23_; have HO282 := n24_; have HO285 := n25_; have HO288 := n26_; have HO291 := n27_; have HO294 := n28_; have HO297 := n29_; have HO300 := n30_; have HO303 := n31_; have BK198 := n32_; have BK199 := n33_; have BK278 := n34_; have HB := n35_; clear n0_ n1_ n2_ n3_ n4_ n5_ n6_ n7_ n8_ n9_ n10_ n11_ n12_ n13_ n14_ n15_ n16_ n17_ n18_ n19_ n20_ n21_ n22_ n23_ n24_ n25_ n26_ n27_ n28_ n29_ n30_ n31_ n32_ n33_ n34_ n35_; (try clear hb); (try clear hb2); (try clear hk); (try clear hi); (try clear ho0); (try clear ho1); (try clear ho2); (try clear ho3); (try clear ho4); (try clear ho5); (try clear ho6); (try clear ho7)) | ((with_reducible refine gate_dst (N := 8) rfl ?_); refine box_event ?hg (N := 8) ?hd (cs := #[.int .i64 0, .slice none 0 0, .slice none 0 0, .slice none 0 0, .slice none 0 0, .slice none 0 0, .slice none 0 0, .slice none 0 0, .slice none 0 0]) (t := 27) ?hr ?_; (case hd => rfl); (case hg => rfl); (case hr => first | (go_simp; done) | (go_simp; rfl)); intro gb304 hg w63 hbox hb; have n0_ := Aside0.mk (Kd.R_below HO205.out hb); have n1_ := Aside0.mk (Kd.R_below HO208.out hb); have n2_ := Aside0.mk (Kd.R_below HO211.out hb); have n3_ := Aside0.mk (Kd.R_below HO214.out hb); have n4_ := Aside0.mk (Kd.R_below HO217.out hb); have n5_ := Aside0.mk (Kd.R_below HO220.out hb); have n6_ := Aside0.mk (Kd.R_below HO223.out hb); have n7_ := Aside0.mk (Kd.R_below HO226.out hb); have n8_ := Aside0.mk (Kd.R_below HO230.out hb); have n9_ := Aside0.mk (Kd.R_below HO233.out hb); have n10_ := Aside0.mk (Kd.R_below HO236.out hb); have n11_ := Aside0.mk (Kd.R_below HO239.out hb); have n12_ := Aside0.mk (Kd.R_below HO242.out hb); have n13_ := Aside0.mk (Kd.R_below HO245.out hb); have n14_ := Aside0.mk (Kd.R_below HO248.out hb); have n15_ := Aside0.mk (Kd.R_below HO251.out hb); have n16_ := Aside0.mk (Kd.R_below HO256.out hb); have n17_ := Aside0.mk (Kd.R_below HO259.out hb); have n18_ := Aside0.mk (Kd.R_below HO262.out hb); have n19_ := Aside0.mk (Kd.R_below HO265.out hb); have n20_ := Aside0.mk (Kd.R_below HO268.out hb); have n21_ := Aside0.mk (Kd.R_below HO271.out hb); have n22_ := Aside0.mk (Kd.R_below HO274.out hb); have n23_ := Aside0.mk (Kd.R_below HO277.out hb); have n24_ := Aside0.mk (Kd.R_below HO282.out hb); have n25_ := Aside0.mk (Kd.R_below HO285.out hb); have n26_ := Aside0.mk (Kd.R_below HO288.out hb); have n27_ := Aside0.mk (Kd.R_below HO291.out hb); have n28_ := Aside0.mk (Kd.R_below HO294.out hb); have n29_ := Aside0.mk (Kd.R_below HO297.out hb); have n30_ := Aside0.mk (Kd.R_below HO300.out hb); have n31_ := Aside0.mk (Kd.R_below HO303.out hb); have n32_ := Aside0.mk (blk_below BK198.out hb); have n33_ := Aside0.mk (blk_below BK199.out hb); have n34_ := Aside0.mk (blk_below BK278.out hb); have n35_ := Aside0.mk (below_step HB.out hb); have n36_ := Aside0.mk (hbox); have n37_ := Aside0.mk ((by rw [hg]; exact (below_size HB.out) : w.heap.size ≤ gb304)); have n38_ := Aside0.mk ((by rw [hg]; exact (below_size HB.out) : w.heap.size ≤ gb304)); have n39_ := Aside0.mk ((by rw [hg]; exact Nat.ne_of_lt (blk_lt BK198.out) : gb198 ≠ gb304)); have n40_ := Aside0.mk ((by rw [hg]; exact Nat.ne_of_gt (blk_lt BK198.out) : gb304 ≠ gb198)); have n41_ := Aside0.mk ((by rw [hg]; exact Nat.ne_of_lt (blk_lt BK199.out) : gb199 ≠ gb304)); have n42_ := Aside0.mk ((by rw [hg]; exact Nat.ne_of_gt (blk_lt BK199.out) : gb304 ≠ gb199)); have n43_ := Aside0.mk ((by rw [hg]; exact Nat.ne_of_lt (blk_lt BK278.out) : gb278 ≠ gb304)); have n44_ := Aside0.mk ((by rw [hg]; exact Nat.ne_of_gt (blk_lt BK278.out) : gb304 ≠ gb278)); clear HO205; clear HO208; clear HO211; clear HO214; clear HO217; clear HO220; clear HO223; clear HO226; clear HO230; clear HO233; clear HO236; clear HO239; clear HO242; clear HO245; clear HO248; clear HO251; clear HO256; clear HO259; clear HO262; clear HO265; clear HO268; clear HO271; clear HO274; clear HO277; clear HO282; clear HO285; clear HO288; clear HO291; clear HO294; clear HO297; clear HO300; clear HO303; clear BK198; clear BK199; clear BK278; clear HB; have HO205 := n0_; have HO208 := n1_; have HO211 := n2_; have HO214 := n3_; have HO217 := n4_; have HO220 := n5_; have HO223 := n6_; have HO226 := n7_; have HO230 := n8_; have HO233 := n9_; have HO236 := n10_; have HO239 := n11_; have HO242 := n12_; have HO245 := n13_; have HO248 := n14_; have HO251 := n15_; have HO256 := n16_; have HO259 := n17_; have HO262 := n18_; have HO265 := n19_; have HO268 := n20_; have HO271 := n21_; have HO274 := n22_; have HO277 := n23_; have HO282 := n24_; have HO285 := n25_; have HO288 := n26_; have HO291 := n27_; have HO294 := n28_; have HO297 := n29_; have HO300 := n30_; have HO303 := n31_; have BK198 := n32_; have BK199 := n33_; have BK278 := n34_; have HB := n35_; have BK304 := n36_; have GW304 := n37_; have GE304 := n38_; have NB198_304 := n39_; have NB304_198 := n40_; have NB199_304 := n41_; have NB304_199 := n42_; have NB278_304 := n43_; have NB304_278 := n44_; clear n0_ n1_ n2_ n3_ n4_ n5_ n6_ n7_ n8_ n9_ n10_ n11_ n12_ n13_ n14_ n15_ n16_ n17_ n18_ n19_ n20_ n21_ n22_ n23_ n24_ n25_ n26_ n27_ n28_ n29_ n30_ n31_ n32_ n33_ n34_ n35_ n36_ n37_ n38_ n39_ n40_ n41_ n42_ n43_ n44_; clear hb hbox hg; obtain ⟨Ao64, co64, eo64⟩ := Kd.R_slice HO282.out; subst eo64; obtain ⟨Ao65, co65, eo65⟩ := Kd.R_slice HO285.out; subst eo65; obtain ⟨Ao66, co66, eo66⟩ := Kd.R_slice HO288.out; subst eo66; obtain ⟨Ao67, co67, eo67⟩ := Kd.R_slice HO291.out; subst eo67; obtain ⟨Ao68, co68, eo68⟩ := Kd.R_slice HO294.out; subst eo68; obtain ⟨Ao69, co69, eo69⟩ := Kd.R_slice HO297.out; subst eo69; obtain ⟨Ao70, co70, eo70⟩ := Kd.R_slice HO300.out; subst eo70; obtain ⟨Ao71, co71, eo71⟩ := Kd.R_slice HO303.out; subst eo71) | ((with_reducible refine gate_store (t := 27) (p := 8) rfl ?_); refine store_event (t := 27) (p := 8) (v := ?vo_w72) (w1 := (w63.setRow gb304 #[.int .i64 t279, .slice Ao64 t280.length co64, .slice Ao65 t283.length co65, .slice Ao66 t286.length co66, .slice Ao67 t289.length co67, .slice Ao68 t292.length co68, .slice Ao69 t295.length co69, .slice Ao70 t298.length co70, .slice Ao71 t301.length co71])) ?hg ?ho ?hn ?hr ?_; (case ho => rfl); (case hg => rfl); (case hn => rfl); (case hr => exact Row.store_row_run (g := gb304) (cells := #[.int .i64 t279, .slice Ao64 t280.length co64, .slice Ao65 t283.length co65, .slice Ao66 t286.length co66, .slice Ao67 t289.length co67, .slice Ao68 t292.length co68, .slice Ao69 t295.length co69, .slice Ao70 t298.length co70, .slice Ao71 t301.length co71]) (t := 27) (old := #[.int .i64 0, .slice none 0 0, .slice none 0 0, .slice none 0 0, .slice none 0 0, .slice none 0 0, .slice none 0 0, .slice none 0 0, .slice none 0 0]) rfl (by first | rfl | (go_simp; done)) (by first | rfl | (go_simp; done) | (go_simp; rfl)) BK304.out (by kernel_rfl) rfl (by first | rfl | (simp [Value.oneCell']; done))); intro w72 hw; have n0_ := Aside0.mk (Row.row_R hw HO205.out BK304.out (by decide)); have n1_ := Aside0.mk (Row.row_R hw HO208.out BK304.out (by decide)); have n2_ := Aside0.mk (Row.row_R hw HO211.out BK304.out (by decide)); have n3_ := Aside0.mk (Row.row_R hw HO214.out BK304.out (by decide)); have n4_ := Aside0.mk (Row.row_R hw HO217.out BK304.out (by decide)); have n5_ := Aside0.mk (Row.row_R hw HO220.out BK304.out (by decide)); have n6_ := Aside0.mk (Row.row_R hw HO223.out BK304.out (by decide)); have n7_ := Aside0.mk (Row.row_R hw HO226.out BK304.out (by decide)); have n8_ := Aside0.mk (Row.row_R hw HO230.out BK304.out (by decide)); have n9_ := Aside0.mk (Row.row_R hw HO233.out BK304.out (by decide)); have n10_ := Aside0.mk (Row.row_R hw HO236.out BK304.out (by decide)); have n11_ := Aside0.mk (Row.row_R hw HO239.out BK304.out (by decide)); have n12_ := Aside0.mk (Row.row_R hw HO242.out BK304.out (by decide)); have n13_ := Aside0.mk (Row.row_R hw HO245.out BK304.out (by decide)); have n14_ := Aside0.mk (Row.row_R hw HO248.out BK304.out (by decide)); have n15_ := Aside0.mk (Row.row_R hw HO251.out BK304.out (by decide)); have n16_ := Aside0.mk (Row.row_R hw HO256.out BK304.out (by decide)); have n17_ := Aside0.mk (Row.row_R hw HO259.out BK304.out (by decide)); have n18_ := Aside0.mk (Row.row_R hw HO262.out BK304.out (by decide)); have n19_ := Aside0.mk (Row.row_R hw HO265.out BK304.out (by decide)); have n20_ := Aside0.mk (Row.row_R hw HO268.out BK304.out (by decide)); have n21_ := Aside0.mk (Row.row_R hw HO271.out BK304.out (by decide)); have n22_ := Aside0.mk (Row.row_R hw HO274.out BK304.out (by decide)); have n23_ := Aside0.mk (Row.row_R hw HO277.out BK304.out (by decide)); have n24_ := Aside0.mk (Row.row_R hw HO282.out BK304.out (by decide)); have n25_ := Aside0.mk (Row.row_R hw HO285.out BK304.out (by decide)); have n26_ := Aside0.mk (Row.row_R hw HO288.out BK304.out (by decide)); have n27_ := Aside0.mk (Row.row_R hw HO291.out BK304.out (by decide)); have n28_ := Aside0.mk (Row.row_R hw HO294.out BK304.out (by decide)); have n29_ := Aside0.mk (Row.row_R hw HO297.out BK304.out (by decide)); have n30_ := Aside0.mk (Row.row_R hw HO300.out BK304.out (by decide)); have n31_ := Aside0.mk (Row.row_R hw HO303.out BK304.out (by decide)); have n32_ : Aside0 (w72.heap[gb198]? = some (.cells #[.int .i64 a0_0, .slice A0_1 l0_1.length c0_1, .slice A0_2 l0_2.length c0_2, .slice A0_3 l0_3.length c0_3, .slice A0_4 l0_4.length c0_4, .slice A0_5 l0_5.length c0_5, .slice A0_6 l0_6.length c0_6, .slice A0_7 l0_7.length c0_7, .slice A0_8 l0_8.length c0_8] 34 (0, 0))) := ⟨(by exact Row.row_there hw BK198.out NB198_304.out)⟩; have n33_ : Aside0 (w72.heap[gb199]? = some (.cells #[.int .i64 a1_0, .slice A1_1 l1_1.length c1_1, .slice A1_2 l1_2.length c1_2, .slice A1_3 l1_3.length c1_3, .slice A1_4 l1_4.length c1_4, .slice A1_5 l1_5.length c1_5, .slice A1_6 l1_6.length c1_6, .slice A1_7 l1_7.length c1_7, .slice A1_8 l1_8.length c1_8] 34 (0, 0))) := ⟨(by exact Row.row_there hw BK199.out NB199_304.out)⟩; have n34_ : Aside0 (w72.heap[gb278]? = some (.cells #[.int .i64 t253, .slice Ao53 t254.length co53, .slice Ao54 t257.length co54, .slice Ao55 t260.length co55, .slice Ao56 t263.length co56, .slice Ao57 t266.length co57, .slice Ao58 t269.length co58, .slice Ao59 t272.length co59, .slice Ao60 t275.length co60] 27 (0, 0))) := ⟨(by exact Row.row_there hw BK278.out NB278_304.out)⟩; have n35_ : Aside0 (w72.heap[gb304]? = some (.cells #[.int .i64 t279, .slice Ao64 t280.length co64, .slice Ao65 t283.length co65, .slice Ao66 t286.length co66, .slice Ao67 t289.length co67, .slice Ao68 t292.length co68, .slice Ao69 t295.length co69, .slice Ao70 t298.length co70, .slice Ao71 t301.length co71] 27 (0, 0))) := ⟨(by exact Row.row_here (old := #[.int .i64 0, .slice none 0 0, .slice none 0 0, .slice none 0 0, .slice none 0 0, .slice none 0 0, .slice none 0 0, .slice none 0 0, .slice none 0 0]) (t := 27) hw BK304.out)⟩; have n36_ : Aside0 (Below w.heap.size w w72) := ⟨(by exact Row.row_below hw HB.out GE304.out)⟩; clear hw; clear HO205; clear HO208; clear HO211; clear HO214; clear HO217; clear HO220; clear HO223; clear HO226; clear HO230; clear HO233; clear HO236; clear HO239; clear HO242; clear HO245; clear HO248; clear HO251; clear HO256; clear HO259; clear HO262; clear HO265; clear HO268; clear HO271; clear HO274; clear HO277; clear HO282; clear HO285; clear HO288; clear HO291; clear HO294; clear HO297; clear HO300; clear HO303; clear BK198; clear BK199; clear BK278; clear BK304; clear HB; have HO205 := n0_; have HO208 := n1_; have HO211 := n2_; have HO214 := n3_; have HO217 := n4_; have HO220 := n5_; have HO223 := n6_; have HO226 := n7_; have HO230 := n8_; have HO233 := n9_; have HO236 := n10_; have HO239 := n11_; have HO242 := n12_; have HO245 := n13_; have HO248 := n14_; have HO251 := n15_; have HO256 := n16_; have HO259 := n17_; have HO262 := n18_; have HO265 := n19_; have HO268 := n20_; have HO271 := n21_; have HO274 := n22_; have HO277 := n23_; have HO282 := n24_; have HO285 := n25_; have HO288 := n26_; have HO291 := n27_; have HO294 := n28_; have HO297 := n29_; have HO300 := n30_; have HO303 := n31_; have BK198 := n32_; have BK199 := n33_; have BK278 := n34_; have BK304 := n35_; have HB := n36_; clear n0_ n1_ n2_ n3_ n4_ n5_ n6_ n7_ n8_ n9_ n10_ n11_ n12_ n13_ n14_ n15_ n16_ n17_ n18_ n19_ n20_ n21_ n22_ n23_ n24_ n25_ n26_ n27_ n28_ n29_ n30_ n31_ n32_ n33_ n34_ n35_ n36_) | ((with_reducible refine gate_dst (N := 29) rfl ?_); refine Kd.event_run rfl (Row.load_row_run (g := gb278) (t := 27) (cells := #[.int .i64 t253, .slice Ao53 t254.length co53, .slice Ao54 t257.length co54, .slice Ao55 t260.length co55, .slice Ao56 t263.length co56, .slice Ao57 t266.length co57, .slice Ao58 t269.length co58, .slice Ao59 t272.length co59, .slice Ao60 t275.length co60]) rfl (by first | rfl | (go_simp; done)) BK278.out Try.underlying27 rfl (by kernel_rfl)) ?_) | ((with_reducible refine gate_dst (N := 30) rfl ?_); refine Kd.event_run rfl (Row.load_row_run (g := gb304) (t := 27) (cells := #[.int .i64 t279, .slice Ao64 t280.length co64, .slice Ao65 t283.length co65, .slice Ao66 t286.length co66, .slice Ao67 t289.length co67, .slice Ao68 t292.length co68, .slice Ao69 t295.length co69, .slice Ao70 t298.length co70, .slice Ao71 t301.length co71]) rfl (by first | rfl | (go_simp; done)) BK304.out Try.underlying27 rfl (by kernel_rfl)) ?_) | ((with_reducible refine gate_callee (f := 20) rfl ?_); refine goesL_ (some 31) rfl rfl Try.func20 (by kernel_rfl) rfl #[.agg #[.int .i64 t253, .slice Ao53 t254.length co53, .slice Ao54 t257.length co54, .slice Ao55 t260.length co55, .slice Ao56 t263.length co56, .slice Ao57 t266.length co57, .slice Ao58 t269.length co58, .slice Ao59 t272.length co59, .slice Ao60 t275.length co60], .agg #[.int .i64 t279, .slice Ao64 t280.length co64, .slice Ao65 t283.length co65, .slice Ao66 t286.length co66, .slice Ao67 t289.length co67, .slice Ao68 t292.length co68, .slice Ao69 t295.length co69, .slice Ao70 t298.length co70, .slice Ao71 t301.length co71]] rfl (by (try simp only [List.map_toArray, List.map_cons, List.map_nil]); first | done | rfl | (simp only [List.length_drop, List.length_take]; rfl)) ?_; (with_reducible refine (impl_BookSame.calls k t253 _ _ t254 _ _ t257 _ _ t260 _ _ t263 _ _ t266 _ _ t269 _ _ t272 _ _ t275 t279 _ _ t280 _ _ t283 _ _ t286 _ _ t289 _ _ t292 _ _ t295 _ _ t298 _ _ t301 t305 _ ?side1 ?side2 ?side3 ?side4 ?side5 ?side6 ?side7 ?side8 ?side9 ?side10 ?side11 ?side12 ?side13 ?side14 ?side15 ?side16 ?side17 ?side18 ?side19 ?side20 ?side21 ?side22 ?side23 ?side24 ?side25 ?side26 ?side27 ?side28 ?side29 ?side30 ?side31 ?side32 A19.out).mono ?_); (case side1 => repeat (first | exact (Kd.R_reads' HO256.out).2.2 | (with_reducible refine Kd.C_alloc ?_ _) | (with_reducible refine Kd.C_drewN ?_ _) | (with_reducible refine Kd.C_drew ?_))); (case side2 => exact (Kd.R_reads' HO256.out).2.1); (case side3 => repeat (first | exact (Kd.R_reads' HO259.out).2.2 | (with_reducible refine Kd.C_alloc ?_ _) | (with_reducible refine Kd.C_drewN ?_ _) | (with_reducible refine Kd.C_drew ?_))); (case side4 => exact (Kd.R_reads' HO259.out).2.1); (case side5 => repeat (first | exact (Kd.R_reads' HO262.out).2.2 | (with_reducible refine Kd.C_alloc ?_ _) | (with_reducible refine Kd.C_drewN ?_ _) | (with_reducible refine Kd.C_drew ?_))); (case side6 => exact (Kd.R_reads' HO262.out).2.1); (case side7 => repeat (first | exact (Kd.R_reads' HO265.out).2.2 | (with_reducible refine Kd.C_alloc ?_ _) | (with_reducible refine Kd.C_drewN ?_ _) | (with_reducible refine Kd.C_drew ?_))); (case side8 => exact (Kd.R_reads' HO265.out).2.1); (case side9 => repeat (first | exact (Kd.R_reads' HO268.out).2.2 | (with_reducible refine Kd.C_alloc ?_ _) | (with_reducible refine Kd.C_drewN ?_ _) | (with_reducible refine Kd.C_drew ?_))); (case side10 => exact (Kd.R_reads' HO268.out).2.1); (case side11 => repeat (first | exact (Kd.R_reads' HO271.out).2.2 | (with_reducible refine Kd.C_alloc ?_ _) | (with_reducible refine Kd.C_drewN ?_ _) | (with_reducible refine Kd.C_drew ?_))); (case side12 => exact (Kd.R_reads' HO271.out).2.1); (case side13 => repeat (first | exact (Kd.R_reads' HO274.out).2.2 | (with_reducible refine Kd.C_alloc ?_ _) | (with_reducible refine Kd.C_drewN ?_ _) | (with_reducible refine Kd.C_drew ?_))); (case side14 => exact (Kd.R_reads' HO274.out).2.1); (case side15 => repeat (first | exact (Kd.R_reads' HO277.out).2.2 | (with_reducible refine Kd.C_alloc ?_ _) | (with_reducible refine Kd.C_drewN ?_ _) | (with_reducible refine Kd.C_drew ?_))); (case side16 => exact (Kd.R_reads' HO277.out).2.1); (case side17 => repeat (first | exact (Kd.R_reads' HO282.out).2.2 | (with_reducible refine Kd.C_alloc ?_ _) | (with_reducible refine Kd.C_drewN ?_ _) | (with_reducible refine Kd.C_drew ?_))); (case side18 => exact (Kd.R_reads' HO282.out).2.1); (case side19 => repeat (first | exact (Kd.R_reads' HO285.out).2.2 | (with_reducible refine Kd.C_alloc ?_ _) | (with_reducible refine Kd.C_drewN ?_ _) | (with_reducible refine Kd.C_drew ?_))); (case side20 => exact (Kd.R_reads' HO285.out).2.1); (case side21 => repeat (first | exact (Kd.R_reads' HO288.out).2.2 | (with_reducible refine Kd.C_alloc ?_ _) | (with_reducible refine Kd.C_drewN ?_ _) | (with_reducible refine Kd.C_drew ?_))); (case side22 => exact (Kd.R_reads' HO288.out).2.1); (case side23 => repeat (first | exact (Kd.R_reads' HO291.out).2.2 | (with_reducible refine Kd.C_alloc ?_ _) | (with_reducible refine Kd.C_drewN ?_ _) | (with_reducible refine Kd.C_drew ?_))); (case side24 => exact (Kd.R_reads' HO291.out).2.1); (case side25 => repeat (first | exact (Kd.R_reads' HO294.out).2.2 | (with_reducible refine Kd.C_alloc ?_ _) | (with_reducible refine Kd.C_drewN ?_ _) | (with_reducible refine Kd.C_drew ?_))); (case side26 => exact (Kd.R_reads' HO294.out).2.1); (case side27 => repeat (first | exact (Kd.R_reads' HO297.out).2.2 | (with_reducible refine Kd.C_alloc ?_ _) | (with_reducible refine Kd.C_drewN ?_ _) | (with_reducible refine Kd.C_drew ?_))); (case side28 => exact (Kd.R_reads' HO297.out).2.1); (case side29 => repeat (first | exact (Kd.R_reads' HO300.out).2.2 | (with_reducible refine Kd.C_alloc ?_ _) | (with_reducible refine Kd.C_drewN ?_ _) | (with_reducible refine Kd.C_drew ?_))); (case side30 => exact (Kd.R_reads' HO300.out).2.1); (case side31 => repeat (first | exact (Kd.R_reads' HO303.out).2.2 | (with_reducible refine Kd.C_alloc ?_ _) | (with_reducible refine Kd.C_drewN ?_ _) | (with_reducible refine Kd.C_drew ?_))); (case side32 => exact (Kd.R_reads' HO303.out).2.1); rintro e w73 ⟨rfl, hb⟩; refine ⟨_, rfl, ?_⟩; have n0_ := Aside0.mk (Kd.R_below HO205.out hb); have n1_ := Aside0.mk (Kd.R_below HO208.out hb); have n2_ := Aside0.mk (Kd.R_below HO211.out hb); have n3_ := Aside0.mk (Kd.R_below HO214.out hb); have n4_ := Aside0.mk (Kd.R_below HO217.out hb); have n5_ := Aside0.mk (Kd.R_below HO220.out hb); have n6_ := Aside0.mk (Kd.R_below HO223.out hb); have n7_ := Aside0.mk (Kd.R_below HO226.out hb); have n8_ := Aside0.mk (Kd.R_below HO230.out hb); have n9_ := Aside0.mk (Kd.R_below HO233.out hb); have n10_ := Aside0.mk (Kd.R_below HO236.out hb); have n11_ := Aside0.mk (Kd.R_below HO239.out hb); have n12_ := Aside0.mk (Kd.R_below HO242.out hb); have n13_ := Aside0.mk (Kd.R_below HO245.out hb); have n14_ := Aside0.mk (Kd.R_below HO248.out hb); have n15_ := Aside0.mk (Kd.R_below HO251.out hb); have n16_ := Aside0.mk (Kd.R_below HO256.out hb); have n17_ := Aside0.mk (Kd.R_below HO259.out hb); have n18_ := Aside0.mk (Kd.R_below HO262.out hb); have n19_ := Aside0.mk (Kd.R_below HO265.out hb); have n20_ := Aside0.mk (Kd.R_below HO268.out hb); have n21_ := Aside0.mk (Kd.R_below HO271.out hb); have n22_ := Aside0.mk (Kd.R_below HO274.out hb); have n23_ := Aside0.mk (Kd.R_below HO277.out hb); have n24_ := Aside0.mk (Kd.R_below HO282.out hb); have n25_ := Aside0.mk (Kd.R_below HO285.out hb); have n26_ := Aside0.mk (Kd.R_below HO288.out hb); have n27_ := Aside0.mk (Kd.R_below HO291.out hb); have n28_ := Aside0.mk (Kd.R_below HO294.out hb); have n29_ := Aside0.mk (Kd.R_below HO297.out hb); have n30_ := Aside0.mk (Kd.R_below HO300.out hb); have n31_ := Aside0.mk (Kd.R_below HO303.out hb); have n32_ := Aside0.mk (blk_below BK198.out hb); have n33_ := Aside0.mk (blk_below BK199.out hb); have n34_ := Aside0.mk (blk_below BK278.out hb); have n35_ := Aside0.mk (blk_below BK304.out hb); have n36_ := Aside0.mk (below_step HB.out hb); clear HO205; clear HO208; clear HO211; clear HO214; clear HO217; clear HO220; clear HO223; clear HO226; clear HO230; clear HO233; clear HO236; clear HO239; clear HO242; clear HO245; clear HO248; clear HO251; clear HO256; clear HO259; clear HO262; clear HO265; clear HO268; clear HO271; clear HO274; clear HO277; clear HO282; clear HO285; clear HO288; clear HO291; clear HO294; clear HO297; clear HO300; clear HO303; clear BK198; clear BK199; clear BK278; clear BK304; clear HB; have HO205 := n0_; have HO208 := n1_; have HO211 := n2_; have HO214 := n3_; have HO217 := n4_; have HO220 := n5_; have HO223 := n6_; have HO226 := n7_; have HO230 := n8_; have HO233 := n9_; have HO236 := n10_; have HO239 := n11_; have HO242 := n12_; have HO245 := n13_; have HO248 := n14_; have HO251 := n15_; have HO256 := n16_; have HO259 := n17_; have HO262 := n18_; have HO265 := n19_; have HO268 := n20_; have HO271 := n21_; have HO274 := n22_; have HO277 := n23_; have HO282 := n24_; have HO285 := n25_; have HO288 := n26_; have HO291 := n27_; have HO294 := n28_; have HO297 := n29_; have HO300 := n30_; have HO303 := n31_; have BK198 := n32_; have BK199 := n33_; have BK278 := n34_; have BK304 := n35_; have HB := n36_; clear n0_ n1_ n2_ n3_ n4_ n5_ n6_ n7_ n8_ n9_ n10_ n11_ n12_ n13_ n14_ n15_ n16_ n17_ n18_ n19_ n20_ n21_ n22_ n23_ n24_ n25_ n26_ n27_ n28_ n29_ n30_ n31_ n32_ n33_ n34_ n35_ n36_; (try clear hb); (try clear hb2); (try clear hk); (try clear hi)))
            have n0_ := Aside0.mk (Kd.R_drew HO205.out)
            have n1_ := Aside0.mk (Kd.R_drew HO208.out)
            have n2_ := Aside0.mk (Kd.R_drew HO211.out)
            have n3_ := Aside0.mk (Kd.R_drew HO214.out)
            have n4_ := Aside0.mk (Kd.R_drew HO217.out)
            have n5_ := Aside0.mk (Kd.R_drew HO220.out)
            have n6_ := Aside0.mk (Kd.R_drew HO223.out)
            have n7_ := Aside0.mk (Kd.R_drew HO226.out)
            have n8_ := Aside0.mk (Kd.R_drew HO230.out)
            have n9_ := Aside0.mk (Kd.R_drew HO233.out)
            have n10_ := Aside0.mk (Kd.R_drew HO236.out)
            have n11_ := Aside0.mk (Kd.R_drew HO239.out)
            have n12_ := Aside0.mk (Kd.R_drew HO242.out)
            have n13_ := Aside0.mk (Kd.R_drew HO245.out)
            have n14_ := Aside0.mk (Kd.R_drew HO248.out)
            have n15_ := Aside0.mk (Kd.R_drew HO251.out)
            have n16_ := Aside0.mk (Kd.R_drew HO256.out)
            have n17_ := Aside0.mk (Kd.R_drew HO259.out)
            have n18_ := Aside0.mk (Kd.R_drew HO262.out)
            have n19_ := Aside0.mk (Kd.R_drew HO265.out)
            have n20_ := Aside0.mk (Kd.R_drew HO268.out)
            have n21_ := Aside0.mk (Kd.R_drew HO271.out)
            have n22_ := Aside0.mk (Kd.R_drew HO274.out)
            have n23_ := Aside0.mk (Kd.R_drew HO277.out)
            have n24_ := Aside0.mk (Kd.R_drew HO282.out)
            have n25_ := Aside0.mk (Kd.R_drew HO285.out)
            have n26_ := Aside0.mk (Kd.R_drew HO288.out)
            have n27_ := Aside0.mk (Kd.R_drew HO291.out)
            have n28_ := Aside0.mk (Kd.R_drew HO294.out)
            have n29_ := Aside0.mk (Kd.R_drew HO297.out)
            have n30_ := Aside0.mk (Kd.R_drew HO300.out)
            have n31_ := Aside0.mk (Kd.R_drew HO303.out)
            have n32_ := Aside0.mk (blk_drew BK198.out)
            have n33_ := Aside0.mk (blk_drew BK199.out)
            have n34_ := Aside0.mk (blk_drew BK278.out)
            have n35_ := Aside0.mk (blk_drew BK304.out)
            have n36_ := Aside0.mk (below_drew1 HB.out)
            clear HO205
            clear HO208
            clear HO211
            clear HO214
            clear HO217
            clear HO220
            clear HO223
            clear HO226
            clear HO230
            clear HO233
            clear HO236
            clear HO239
            clear HO242
            clear HO245
            clear HO248
            clear HO251
            clear HO256
            clear HO259
            clear HO262
            clear HO265
            clear HO268
            clear HO271
            clear HO274
            clear HO277
            clear HO282
            clear HO285
            clear HO288
            clear HO291
            clear HO294
            clear HO297
            clear HO300
            clear HO303
            clear BK198
            clear BK199
            clear BK278
            clear BK304
            clear HB
            have HO205 := n0_
            have HO208 := n1_
            have HO211 := n2_
            have HO214 := n3_
            have HO217 := n4_
            have HO220 := n5_
            have HO223 := n6_
            have HO226 := n7_
            have HO230 := n8_
            have HO233 := n9_
            have HO236 := n10_
            have HO239 := n11_
            have HO242 := n12_
            have HO245 := n13_
            have HO248 := n14_
            have HO251 := n15_
            have HO256 := n16_
            have HO259 := n17_
            have HO262 := n18_
            have HO265 := n19_
            have HO268 := n20_
            have HO271 := n21_
            have HO274 := n22_
            have HO277 := n23_
            have HO282 := n24_
            have HO285 := n25_
            have HO288 := n26_
            have HO291 := n27_
            have HO294 := n28_
            have HO297 := n29_
            have HO300 := n30_
            have HO303 := n31_
            have BK198 := n32_
            have BK199 := n33_
            have BK278 := n34_
            have BK304 := n35_
            have HB := n36_
            clear n0_ n1_ n2_ n3_ n4_ n5_ n6_ n7_ n8_ n9_ n10_ n11_ n12_ n13_ n14_ n15_ n16_ n17_ n18_ n19_ n20_ n21_ n22_ n23_ n24_ n25_ n26_ n27_ n28_ n29_ n30_ n31_ n32_ n33_ n34_ n35_ n36_
            refine start_ (n := 5) (S := fun w' => w'.cell? ⟨gb278, 0, none⟩ = some (.int .i64 t253) ∧ w'.cell? ⟨gb278, 1, none⟩ = some (.slice Ao53 t254.length co53) ∧ w'.cell? ⟨gb278, 2, none⟩ = some (.slice Ao54 t257.length co54) ∧ w'.cell? ⟨gb278, 3, none⟩ = some (.slice Ao55 t260.length co55) ∧ w'.cell? ⟨gb278, 4, none⟩ = some (.slice Ao56 t263.length co56) ∧ w'.cell? ⟨gb278, 5, none⟩ = some (.slice Ao57 t266.length co57) ∧ w'.cell? ⟨gb278, 6, none⟩ = some (.slice Ao58 t269.length co58) ∧ w'.cell? ⟨gb278, 7, none⟩ = some (.slice Ao59 t272.length co59) ∧ w'.cell? ⟨gb278, 8, none⟩ = some (.slice Ao60 t275.length co60) ∧ w'.cell? ⟨gb198, 0, none⟩ = some (.int .i64 a0_0) ∧ w'.cell? ⟨gb198, 1, none⟩ = some (.slice A0_1 l0_1.length c0_1) ∧ w'.cell? ⟨gb198, 2, none⟩ = some (.slice A0_2 l0_2.length c0_2) ∧ w'.cell? ⟨gb198, 3, none⟩ = some (.slice A0_3 l0_3.length c0_3) ∧ w'.cell? ⟨gb198, 4, none⟩ = some (.slice A0_4 l0_4.length c0_4) ∧ w'.cell? ⟨gb198, 5, none⟩ = some (.slice A0_5 l0_5.length c0_5) ∧ w'.cell? ⟨gb198, 6, none⟩ = some (.slice A0_6 l0_6.length c0_6) ∧ w'.cell? ⟨gb198, 7, none⟩ = some (.slice A0_7 l0_7.length c0_7) ∧ w'.cell? ⟨gb198, 8, none⟩ = some (.slice A0_8 l0_8.length c0_8)) (ds := []) #[false, false, false, false, false] (by kernel_rfl) rfl rfl ⟨(blk_cell BK278.out 0).trans rfl, (blk_cell BK278.out 1).trans rfl, (blk_cell BK278.out 2).trans rfl, (blk_cell BK278.out 3).trans rfl, (blk_cell BK278.out 4).trans rfl, (blk_cell BK278.out 5).trans rfl, (blk_cell BK278.out 6).trans rfl, (blk_cell BK278.out 7).trans rfl, (blk_cell BK278.out 8).trans rfl, (blk_cell BK198.out 0).trans rfl, (blk_cell BK198.out 1).trans rfl, (blk_cell BK198.out 2).trans rfl, (blk_cell BK198.out 3).trans rfl, (blk_cell BK198.out 4).trans rfl, (blk_cell BK198.out 5).trans rfl, (blk_cell BK198.out 6).trans rfl, (blk_cell BK198.out 7).trans rfl, (blk_cell BK198.out 8).trans rfl⟩ (fun hHeld => ?_)
            generalize w73.drew = w74 at HO205 HO208 HO211 HO214 HO217 HO220 HO223 HO226 HO230 HO233 HO236 HO239 HO242 HO245 HO248 HO251 HO256 HO259 HO262 HO265 HO268 HO271 HO274 HO277 HO282 HO285 HO288 HO291 HO294 HO297 HO300 HO303 BK198 BK199 BK278 BK304 HB hHeld ⊢
            refine take_ (i := 0) (N := some 35) (v := ?_) (a' := ?_) #[true, false, false, false, false] rfl rfl (by kernel_rfl) (fun _ _ _ h => h) (Or.inl ⟨by rfl, ?_⟩) hHeld ?_ ?_
            rotate_left
            · rintro w' ⟨s0, s1, s2, s3, s4, s5, s6, s7, s8, s9, s10, s11, s12, s13, s14, s15, s16, s17⟩
              go_simp
              with_reducible rfl
            rotate_left
            · simp only [Act.put, List.setIfInBounds_toArray, List.set_cons_zero, List.set_cons_succ, i64_w, i32_w]
              rfl
            refine take_ (i := 1) (N := some 36) (v := ?_) (a' := ?_) #[true, true, false, false, false] rfl rfl (by kernel_rfl) (fun _ _ _ h => h) (Or.inl ⟨by rfl, ?_⟩) hHeld ?_ ?_
            rotate_left
            · rintro w' ⟨s0, s1, s2, s3, s4, s5, s6, s7, s8, s9, s10, s11, s12, s13, s14, s15, s16, s17⟩
              go_simp
              with_reducible rfl
            rotate_left
            · simp only [Act.put, List.setIfInBounds_toArray, List.set_cons_zero, List.set_cons_succ, i64_w, i32_w]
              rfl
            refine one_ (i := 2) (N := some 37) #[true, true, true, false, false] rfl rfl (by kernel_rfl) (by decide) (fun K hK => ?_)
            refine goes_ Try.func19 (by kernel_rfl) rfl #[.agg #[.int .i64 a0_0, .slice A0_1 l0_1.length c0_1, .slice A0_2 l0_2.length c0_2, .slice A0_3 l0_3.length c0_3, .slice A0_4 l0_4.length c0_4, .slice A0_5 l0_5.length c0_5, .slice A0_6 l0_6.length c0_6, .slice A0_7 l0_7.length c0_7, .slice A0_8 l0_8.length c0_8]] (by rfl) rfl rfl (by (try simp only [List.map_toArray, List.map_cons, List.map_nil]); first | done | rfl | (simp only [List.length_drop, List.length_take]; rfl)) ?_
            with_reducible refine (laws_toBook.calls k a0_0 _ _ l0_1 _ _ l0_2 _ _ l0_3 _ _ l0_4 _ _ l0_5 _ _ l0_6 _ _ l0_7 _ _ l0_8 t306 t307 t310 t313 t316 t319 t322 t325 t328 _ ?side1 ?side2 ?side3 ?side4 ?side5 ?side6 ?side7 ?side8 ?side9 ?side10 ?side11 ?side12 ?side13 ?side14 ?side15 ?side16 A21.out).mono ?_
            (case side1 => exact Kd.C_below HR0_1.out HB.out)
            (case side2 => exact HC0_1.out)
            (case side3 => exact Kd.C_below HR0_2.out HB.out)
            (case side4 => exact HC0_2.out)
            (case side5 => exact Kd.C_below HR0_3.out HB.out)
            (case side6 => exact HC0_3.out)
            (case side7 => exact Kd.C_below HR0_4.out HB.out)
            (case side8 => exact HC0_4.out)
            (case side9 => exact Kd.C_below HR0_5.out HB.out)
            (case side10 => exact HC0_5.out)
            (case side11 => exact Kd.C_below HR0_6.out HB.out)
            (case side12 => exact HC0_6.out)
            (case side13 => exact Kd.C_below HR0_7.out HB.out)
            (case side14 => exact HC0_7.out)
            (case side15 => exact Kd.C_below HR0_8.out HB.out)
            (case side16 => exact HC0_8.out)
            rintro e w75 ⟨v308, v311, v314, v317, v320, v323, v326, v329, rfl, ho0, ho1, ho2, ho3, ho4, ho5, ho6, ho7, hb⟩
            refine ⟨_, rfl, ?_⟩
            have n0_ := Aside0.mk (Kd.R_mono (Kd.R_told (Kd.R_told (Kd.R_told (Kd.R_told (Kd.R_told (Kd.R_told (Kd.R_told (Kd.R_told (Kd.R_old HO205.out hb) (Kd.R_base ho0)) (Kd.R_base ho1)) (Kd.R_base ho2)) (Kd.R_base ho3)) (Kd.R_base ho4)) (Kd.R_base ho5)) (Kd.R_base ho6)) (Kd.R_base ho7)) (fun _ h_ => h_.1))
            have n1_ := Aside0.mk (Kd.R_mono (Kd.R_told (Kd.R_told (Kd.R_told (Kd.R_told (Kd.R_told (Kd.R_told (Kd.R_told (Kd.R_told (Kd.R_old HO208.out hb) (Kd.R_base ho0)) (Kd.R_base ho1)) (Kd.R_base ho2)) (Kd.R_base ho3)) (Kd.R_base ho4)) (Kd.R_base ho5)) (Kd.R_base ho6)) (Kd.R_base ho7)) (fun _ h_ => h_.1))
            have n2_ := Aside0.mk (Kd.R_mono (Kd.R_told (Kd.R_told (Kd.R_told (Kd.R_told (Kd.R_told (Kd.R_told (Kd.R_told (Kd.R_told (Kd.R_old HO211.out hb) (Kd.R_base ho0)) (Kd.R_base ho1)) (Kd.R_base ho2)) (Kd.R_base ho3)) (Kd.R_base ho4)) (Kd.R_base ho5)) (Kd.R_base ho6)) (Kd.R_base ho7)) (fun _ h_ => h_.1))
            have n3_ := Aside0.mk (Kd.R_mono (Kd.R_told (Kd.R_told (Kd.R_told (Kd.R_told (Kd.R_told (Kd.R_told (Kd.R_told (Kd.R_told (Kd.R_old HO214.out hb) (Kd.R_base ho0)) (Kd.R_base ho1)) (Kd.R_base ho2)) (Kd.R_base ho3)) (Kd.R_base ho4)) (Kd.R_base ho5)) (Kd.R_base ho6)) (Kd.R_base ho7)) (fun _ h_ => h_.1))
            have n4_ := Aside0.mk (Kd.R_mono (Kd.R_told (Kd.R_told (Kd.R_told (Kd.R_told (Kd.R_told (Kd.R_told (Kd.R_told (Kd.R_told (Kd.R_old HO217.out hb) (Kd.R_base ho0)) (Kd.R_base ho1)) (Kd.R_base ho2)) (Kd.R_base ho3)) (Kd.R_base ho4)) (Kd.R_base ho5)) (Kd.R_base ho6)) (Kd.R_base ho7)) (fun _ h_ => h_.1))
            have n5_ := Aside0.mk (Kd.R_mono (Kd.R_told (Kd.R_told (Kd.R_told (Kd.R_told (Kd.R_told (Kd.R_told (Kd.R_told (Kd.R_told (Kd.R_old HO220.out hb) (Kd.R_base ho0)) (Kd.R_base ho1)) (Kd.R_base ho2)) (Kd.R_base ho3)) (Kd.R_base ho4)) (Kd.R_base ho5)) (Kd.R_base ho6)) (Kd.R_base ho7)) (fun _ h_ => h_.1))
            have n6_ := Aside0.mk (Kd.R_mono (Kd.R_told (Kd.R_told (Kd.R_told (Kd.R_told (Kd.R_told (Kd.R_told (Kd.R_told (Kd.R_told (Kd.R_old HO223.out hb) (Kd.R_base ho0)) (Kd.R_base ho1)) (Kd.R_base ho2)) (Kd.R_base ho3)) (Kd.R_base ho4)) (Kd.R_base ho5)) (Kd.R_base ho6)) (Kd.R_base ho7)) (fun _ h_ => h_.1))
            have n7_ := Aside0.mk (Kd.R_mono (Kd.R_told (Kd.R_told (Kd.R_told (Kd.R_told (Kd.R_told (Kd.R_told (Kd.R_told (Kd.R_told (Kd.R_old HO226.out hb) (Kd.R_base ho0)) (Kd.R_base ho1)) (Kd.R_base ho2)) (Kd.R_base ho3)) (Kd.R_base ho4)) (Kd.R_base ho5)) (Kd.R_base ho6)) (Kd.R_base ho7)) (fun _ h_ => h_.1))
            have n8_ := Aside0.mk (Kd.R_mono (Kd.R_told (Kd.R_told (Kd.R_told (Kd.R_told (Kd.R_told (Kd.R_told (Kd.R_told (Kd.R_told (Kd.R_old HO230.out hb) (Kd.R_base ho0)) (Kd.R_base ho1)) (Kd.R_base ho2)) (Kd.R_base ho3)) (Kd.R_base ho4)) (Kd.R_base ho5)) (Kd.R_base ho6)) (Kd.R_base ho7)) (fun _ h_ => h_.1))
            have n9_ := Aside0.mk (Kd.R_mono (Kd.R_told (Kd.R_told (Kd.R_told (Kd.R_told (Kd.R_told (Kd.R_told (Kd.R_told (Kd.R_told (Kd.R_old HO233.out hb) (Kd.R_base ho0)) (Kd.R_base ho1)) (Kd.R_base ho2)) (Kd.R_base ho3)) (Kd.R_base ho4)) (Kd.R_base ho5)) (Kd.R_base ho6)) (Kd.R_base ho7)) (fun _ h_ => h_.1))
            have n10_ := Aside0.mk (Kd.R_mono (Kd.R_told (Kd.R_told (Kd.R_told (Kd.R_told (Kd.R_told (Kd.R_told (Kd.R_told (Kd.R_told (Kd.R_old HO236.out hb) (Kd.R_base ho0)) (Kd.R_base ho1)) (Kd.R_base ho2)) (Kd.R_base ho3)) (Kd.R_base ho4)) (Kd.R_base ho5)) (Kd.R_base ho6)) (Kd.R_base ho7)) (fun _ h_ => h_.1))
            have n11_ := Aside0.mk (Kd.R_mono (Kd.R_told (Kd.R_told (Kd.R_told (Kd.R_told (Kd.R_told (Kd.R_told (Kd.R_told (Kd.R_told (Kd.R_old HO239.out hb) (Kd.R_base ho0)) (Kd.R_base ho1)) (Kd.R_base ho2)) (Kd.R_base ho3)) (Kd.R_base ho4)) (Kd.R_base ho5)) (Kd.R_base ho6)) (Kd.R_base ho7)) (fun _ h_ => h_.1))
            have n12_ := Aside0.mk (Kd.R_mono (Kd.R_told (Kd.R_told (Kd.R_told (Kd.R_told (Kd.R_told (Kd.R_told (Kd.R_told (Kd.R_told (Kd.R_old HO242.out hb) (Kd.R_base ho0)) (Kd.R_base ho1)) (Kd.R_base ho2)) (Kd.R_base ho3)) (Kd.R_base ho4)) (Kd.R_base ho5)) (Kd.R_base ho6)) (Kd.R_base ho7)) (fun _ h_ => h_.1))
            have n13_ := Aside0.mk (Kd.R_mono (Kd.R_told (Kd.R_told (Kd.R_told (Kd.R_told (Kd.R_told (Kd.R_told (Kd.R_told (Kd.R_told (Kd.R_old HO245.out hb) (Kd.R_base ho0)) (Kd.R_base ho1)) (Kd.R_base ho2)) (Kd.R_base ho3)) (Kd.R_base ho4)) (Kd.R_base ho5)) (Kd.R_base ho6)) (Kd.R_base ho7)) (fun _ h_ => h_.1))
            have n14_ := Aside0.mk (Kd.R_mono (Kd.R_told (Kd.R_told (Kd.R_told (Kd.R_told (Kd.R_told (Kd.R_told (Kd.R_told (Kd.R_told (Kd.R_old HO248.out hb) (Kd.R_base ho0)) (Kd.R_base ho1)) (Kd.R_base ho2)) (Kd.R_base ho3)) (Kd.R_base ho4)) (Kd.R_base ho5)) (Kd.R_base ho6)) (Kd.R_base ho7)) (fun _ h_ => h_.1))
            have n15_ := Aside0.mk (Kd.R_mono (Kd.R_told (Kd.R_told (Kd.R_told (Kd.R_told (Kd.R_told (Kd.R_told (Kd.R_told (Kd.R_told (Kd.R_old HO251.out hb) (Kd.R_base ho0)) (Kd.R_base ho1)) (Kd.R_base ho2)) (Kd.R_base ho3)) (Kd.R_base ho4)) (Kd.R_base ho5)) (Kd.R_base ho6)) (Kd.R_base ho7)) (fun _ h_ => h_.1))
            have n16_ := Aside0.mk (Kd.R_mono (Kd.R_told (Kd.R_told (Kd.R_told (Kd.R_told (Kd.R_told (Kd.R_told (Kd.R_told (Kd.R_told (Kd.R_old HO256.out hb) (Kd.R_base ho0)) (Kd.R_base ho1)) (Kd.R_base ho2)) (Kd.R_base ho3)) (Kd.R_base ho4)) (Kd.R_base ho5)) (Kd.R_base ho6)) (Kd.R_base ho7)) (fun _ h_ => h_.1))
            have n17_ := Aside0.mk (Kd.R_mono (Kd.R_told (Kd.R_told (Kd.R_told (Kd.R_told (Kd.R_told (Kd.R_told (Kd.R_told (Kd.R_told (Kd.R_old HO259.out hb) (Kd.R_base ho0)) (Kd.R_base ho1)) (Kd.R_base ho2)) (Kd.R_base ho3)) (Kd.R_base ho4)) (Kd.R_base ho5)) (Kd.R_base ho6)) (Kd.R_base ho7)) (fun _ h_ => h_.1))
            have n18_ := Aside0.mk (Kd.R_mono (Kd.R_told (Kd.R_told (Kd.R_told (Kd.R_told (Kd.R_told (Kd.R_told (Kd.R_told (Kd.R_told (Kd.R_old HO262.out hb) (Kd.R_base ho0)) (Kd.R_base ho1)) (Kd.R_base ho2)) (Kd.R_base ho3)) (Kd.R_base ho4)) (Kd.R_base ho5)) (Kd.R_base ho6)) (Kd.R_base ho7)) (fun _ h_ => h_.1))
            have n19_ := Aside0.mk (Kd.R_mono (Kd.R_told (Kd.R_told (Kd.R_told (Kd.R_told (Kd.R_told (Kd.R_told (Kd.R_told (Kd.R_told (Kd.R_old HO265.out hb) (Kd.R_base ho0)) (Kd.R_base ho1)) (Kd.R_base ho2)) (Kd.R_base ho3)) (Kd.R_base ho4)) (Kd.R_base ho5)) (Kd.R_base ho6)) (Kd.R_base ho7)) (fun _ h_ => h_.1))
            have n20_ := Aside0.mk (Kd.R_mono (Kd.R_told (Kd.R_told (Kd.R_told (Kd.R_told (Kd.R_told (Kd.R_told (Kd.R_told (Kd.R_told (Kd.R_old HO268.out hb) (Kd.R_base ho0)) (Kd.R_base ho1)) (Kd.R_base ho2)) (Kd.R_base ho3)) (Kd.R_base ho4)) (Kd.R_base ho5)) (Kd.R_base ho6)) (Kd.R_base ho7)) (fun _ h_ => h_.1))
            have n21_ := Aside0.mk (Kd.R_mono (Kd.R_told (Kd.R_told (Kd.R_told (Kd.R_told (Kd.R_told (Kd.R_told (Kd.R_told (Kd.R_told (Kd.R_old HO271.out hb) (Kd.R_base ho0)) (Kd.R_base ho1)) (Kd.R_base ho2)) (Kd.R_base ho3)) (Kd.R_base ho4)) (Kd.R_base ho5)) (Kd.R_base ho6)) (Kd.R_base ho7)) (fun _ h_ => h_.1))
            have n22_ := Aside0.mk (Kd.R_mono (Kd.R_told (Kd.R_told (Kd.R_told (Kd.R_told (Kd.R_told (Kd.R_told (Kd.R_told (Kd.R_told (Kd.R_old HO274.out hb) (Kd.R_base ho0)) (Kd.R_base ho1)) (Kd.R_base ho2)) (Kd.R_base ho3)) (Kd.R_base ho4)) (Kd.R_base ho5)) (Kd.R_base ho6)) (Kd.R_base ho7)) (fun _ h_ => h_.1))
            have n23_ := Aside0.mk (Kd.R_mono (Kd.R_told (Kd.R_told (Kd.R_told (Kd.R_told (Kd.R_told (Kd.R_told (Kd.R_told (Kd.R_told (Kd.R_old HO277.out hb) (Kd.R_base ho0)) (Kd.R_base ho1)) (Kd.R_base ho2)) (Kd.R_base ho3)) (Kd.R_base ho4)) (Kd.R_base ho5)) (Kd.R_base ho6)) (Kd.R_base ho7)) (fun _ h_ => h_.1))
            have n24_ := Aside0.mk (Kd.R_mono (Kd.R_told (Kd.R_told (Kd.R_told (Kd.R_told (Kd.R_told (Kd.R_told (Kd.R_told (Kd.R_told (Kd.R_old HO282.out hb) (Kd.R_base ho0)) (Kd.R_base ho1)) (Kd.R_base ho2)) (Kd.R_base ho3)) (Kd.R_base ho4)) (Kd.R_base ho5)) (Kd.R_base ho6)) (Kd.R_base ho7)) (fun _ h_ => h_.1))
            have n25_ := Aside0.mk (Kd.R_mono (Kd.R_told (Kd.R_told (Kd.R_told (Kd.R_told (Kd.R_told (Kd.R_told (Kd.R_told (Kd.R_told (Kd.R_old HO285.out hb) (Kd.R_base ho0)) (Kd.R_base ho1)) (Kd.R_base ho2)) (Kd.R_base ho3)) (Kd.R_base ho4)) (Kd.R_base ho5)) (Kd.R_base ho6)) (Kd.R_base ho7)) (fun _ h_ => h_.1))
            have n26_ := Aside0.mk (Kd.R_mono (Kd.R_told (Kd.R_told (Kd.R_told (Kd.R_told (Kd.R_told (Kd.R_told (Kd.R_told (Kd.R_told (Kd.R_old HO288.out hb) (Kd.R_base ho0)) (Kd.R_base ho1)) (Kd.R_base ho2)) (Kd.R_base ho3)) (Kd.R_base ho4)) (Kd.R_base ho5)) (Kd.R_base ho6)) (Kd.R_base ho7)) (fun _ h_ => h_.1))
            have n27_ := Aside0.mk (Kd.R_mono (Kd.R_told (Kd.R_told (Kd.R_told (Kd.R_told (Kd.R_told (Kd.R_told (Kd.R_told (Kd.R_told (Kd.R_old HO291.out hb) (Kd.R_base ho0)) (Kd.R_base ho1)) (Kd.R_base ho2)) (Kd.R_base ho3)) (Kd.R_base ho4)) (Kd.R_base ho5)) (Kd.R_base ho6)) (Kd.R_base ho7)) (fun _ h_ => h_.1))
            have n28_ := Aside0.mk (Kd.R_mono (Kd.R_told (Kd.R_told (Kd.R_told (Kd.R_told (Kd.R_told (Kd.R_told (Kd.R_told (Kd.R_told (Kd.R_old HO294.out hb) (Kd.R_base ho0)) (Kd.R_base ho1)) (Kd.R_base ho2)) (Kd.R_base ho3)) (Kd.R_base ho4)) (Kd.R_base ho5)) (Kd.R_base ho6)) (Kd.R_base ho7)) (fun _ h_ => h_.1))
            have n29_ := Aside0.mk (Kd.R_mono (Kd.R_told (Kd.R_told (Kd.R_told (Kd.R_told (Kd.R_told (Kd.R_told (Kd.R_told (Kd.R_told (Kd.R_old HO297.out hb) (Kd.R_base ho0)) (Kd.R_base ho1)) (Kd.R_base ho2)) (Kd.R_base ho3)) (Kd.R_base ho4)) (Kd.R_base ho5)) (Kd.R_base ho6)) (Kd.R_base ho7)) (fun _ h_ => h_.1))
            have n30_ := Aside0.mk (Kd.R_mono (Kd.R_told (Kd.R_told (Kd.R_told (Kd.R_told (Kd.R_told (Kd.R_told (Kd.R_told (Kd.R_told (Kd.R_old HO300.out hb) (Kd.R_base ho0)) (Kd.R_base ho1)) (Kd.R_base ho2)) (Kd.R_base ho3)) (Kd.R_base ho4)) (Kd.R_base ho5)) (Kd.R_base ho6)) (Kd.R_base ho7)) (fun _ h_ => h_.1))
            have n31_ := Aside0.mk (Kd.R_mono (Kd.R_told (Kd.R_told (Kd.R_told (Kd.R_told (Kd.R_told (Kd.R_told (Kd.R_told (Kd.R_told (Kd.R_old HO303.out hb) (Kd.R_base ho0)) (Kd.R_base ho1)) (Kd.R_base ho2)) (Kd.R_base ho3)) (Kd.R_base ho4)) (Kd.R_base ho5)) (Kd.R_base ho6)) (Kd.R_base ho7)) (fun _ h_ => h_.1))
            have n32_ := Aside0.mk (Kd.R_lower (Kd.R_new' (Kd.R_new' (Kd.R_new' (Kd.R_new' (Kd.R_new' (Kd.R_new' (Kd.R_new' (Kd.R_new' (Kd.R_new' (Kd.R_new' (Kd.R_new' (Kd.R_new' (Kd.R_new' (Kd.R_new' (Kd.R_new' (Kd.R_new' (Kd.R_new' (Kd.R_new' (Kd.R_new' (Kd.R_new' (Kd.R_new' (Kd.R_new' (Kd.R_new' (Kd.R_new' (Kd.R_new' (Kd.R_new' (Kd.R_new' (Kd.R_new' (Kd.R_new' (Kd.R_new' (Kd.R_new' (Kd.R_new' ho0 (Kd.R_lt HO205.out)) (Kd.R_lt HO208.out)) (Kd.R_lt HO211.out)) (Kd.R_lt HO214.out)) (Kd.R_lt HO217.out)) (Kd.R_lt HO220.out)) (Kd.R_lt HO223.out)) (Kd.R_lt HO226.out)) (Kd.R_lt HO230.out)) (Kd.R_lt HO233.out)) (Kd.R_lt HO236.out)) (Kd.R_lt HO239.out)) (Kd.R_lt HO242.out)) (Kd.R_lt HO245.out)) (Kd.R_lt HO248.out)) (Kd.R_lt HO251.out)) (Kd.R_lt HO256.out)) (Kd.R_lt HO259.out)) (Kd.R_lt HO262.out)) (Kd.R_lt HO265.out)) (Kd.R_lt HO268.out)) (Kd.R_lt HO271.out)) (Kd.R_lt HO274.out)) (Kd.R_lt HO277.out)) (Kd.R_lt HO282.out)) (Kd.R_lt HO285.out)) (Kd.R_lt HO288.out)) (Kd.R_lt HO291.out)) (Kd.R_lt HO294.out)) (Kd.R_lt HO297.out)) (Kd.R_lt HO300.out)) (Kd.R_lt HO303.out)) (below_size HB.out))
            have n33_ := Aside0.mk (Kd.R_lower (Kd.R_new' (Kd.R_new' (Kd.R_new' (Kd.R_new' (Kd.R_new' (Kd.R_new' (Kd.R_new' (Kd.R_new' (Kd.R_new' (Kd.R_new' (Kd.R_new' (Kd.R_new' (Kd.R_new' (Kd.R_new' (Kd.R_new' (Kd.R_new' (Kd.R_new' (Kd.R_new' (Kd.R_new' (Kd.R_new' (Kd.R_new' (Kd.R_new' (Kd.R_new' (Kd.R_new' (Kd.R_new' (Kd.R_new' (Kd.R_new' (Kd.R_new' (Kd.R_new' (Kd.R_new' (Kd.R_new' (Kd.R_new' ho1 (Kd.R_lt HO205.out)) (Kd.R_lt HO208.out)) (Kd.R_lt HO211.out)) (Kd.R_lt HO214.out)) (Kd.R_lt HO217.out)) (Kd.R_lt HO220.out)) (Kd.R_lt HO223.out)) (Kd.R_lt HO226.out)) (Kd.R_lt HO230.out)) (Kd.R_lt HO233.out)) (Kd.R_lt HO236.out)) (Kd.R_lt HO239.out)) (Kd.R_lt HO242.out)) (Kd.R_lt HO245.out)) (Kd.R_lt HO248.out)) (Kd.R_lt HO251.out)) (Kd.R_lt HO256.out)) (Kd.R_lt HO259.out)) (Kd.R_lt HO262.out)) (Kd.R_lt HO265.out)) (Kd.R_lt HO268.out)) (Kd.R_lt HO271.out)) (Kd.R_lt HO274.out)) (Kd.R_lt HO277.out)) (Kd.R_lt HO282.out)) (Kd.R_lt HO285.out)) (Kd.R_lt HO288.out)) (Kd.R_lt HO291.out)) (Kd.R_lt HO294.out)) (Kd.R_lt HO297.out)) (Kd.R_lt HO300.out)) (Kd.R_lt HO303.out)) (below_size HB.out))
            have n34_ := Aside0.mk (Kd.R_lower (Kd.R_new' (Kd.R_new' (Kd.R_new' (Kd.R_new' (Kd.R_new' (Kd.R_new' (Kd.R_new' (Kd.R_new' (Kd.R_new' (Kd.R_new' (Kd.R_new' (Kd.R_new' (Kd.R_new' (Kd.R_new' (Kd.R_new' (Kd.R_new' (Kd.R_new' (Kd.R_new' (Kd.R_new' (Kd.R_new' (Kd.R_new' (Kd.R_new' (Kd.R_new' (Kd.R_new' (Kd.R_new' (Kd.R_new' (Kd.R_new' (Kd.R_new' (Kd.R_new' (Kd.R_new' (Kd.R_new' (Kd.R_new' ho2 (Kd.R_lt HO205.out)) (Kd.R_lt HO208.out)) (Kd.R_lt HO211.out)) (Kd.R_lt HO214.out)) (Kd.R_lt HO217.out)) (Kd.R_lt HO220.out)) (Kd.R_lt HO223.out)) (Kd.R_lt HO226.out)) (Kd.R_lt HO230.out)) (Kd.R_lt HO233.out)) (Kd.R_lt HO236.out)) (Kd.R_lt HO239.out)) (Kd.R_lt HO242.out)) (Kd.R_lt HO245.out)) (Kd.R_lt HO248.out)) (Kd.R_lt HO251.out)) (Kd.R_lt HO256.out)) (Kd.R_lt HO259.out)) (Kd.R_lt HO262.out)) (Kd.R_lt HO265.out)) (Kd.R_lt HO268.out)) (Kd.R_lt HO271.out)) (Kd.R_lt HO274.out)) (Kd.R_lt HO277.out)) (Kd.R_lt HO282.out)) (Kd.R_lt HO285.out)) (Kd.R_lt HO288.out)) (Kd.R_lt HO291.out)) (Kd.R_lt HO294.out)) (Kd.R_lt HO297.out)) (Kd.R_lt HO300.out)) (Kd.R_lt HO303.out)) (below_size HB.out))
            have n35_ := Aside0.mk (Kd.R_lower (Kd.R_new' (Kd.R_new' (Kd.R_new' (Kd.R_new' (Kd.R_new' (Kd.R_new' (Kd.R_new' (Kd.R_new' (Kd.R_new' (Kd.R_new' (Kd.R_new' (Kd.R_new' (Kd.R_new' (Kd.R_new' (Kd.R_new' (Kd.R_new' (Kd.R_new' (Kd.R_new' (Kd.R_new' (Kd.R_new' (Kd.R_new' (Kd.R_new' (Kd.R_new' (Kd.R_new' (Kd.R_new' (Kd.R_new' (Kd.R_new' (Kd.R_new' (Kd.R_new' (Kd.R_new' (Kd.R_new' (Kd.R_new' ho3 (Kd.R_lt HO205.out)) (Kd.R_lt HO208.out)) (Kd.R_lt HO211.out)) (Kd.R_lt HO214.out)) (Kd.R_lt HO217.out)) (Kd.R_lt HO220.out)) (Kd.R_lt HO223.out)) (Kd.R_lt HO226.out)) (Kd.R_lt HO230.out)) (Kd.R_lt HO233.out)) (Kd.R_lt HO236.out)) (Kd.R_lt HO239.out)) (Kd.R_lt HO242.out)) (Kd.R_lt HO245.out)) (Kd.R_lt HO248.out)) (Kd.R_lt HO251.out)) (Kd.R_lt HO256.out)) (Kd.R_lt HO259.out)) (Kd.R_lt HO262.out)) (Kd.R_lt HO265.out)) (Kd.R_lt HO268.out)) (Kd.R_lt HO271.out)) (Kd.R_lt HO274.out)) (Kd.R_lt HO277.out)) (Kd.R_lt HO282.out)) (Kd.R_lt HO285.out)) (Kd.R_lt HO288.out)) (Kd.R_lt HO291.out)) (Kd.R_lt HO294.out)) (Kd.R_lt HO297.out)) (Kd.R_lt HO300.out)) (Kd.R_lt HO303.out)) (below_size HB.out))
            have n36_ := Aside0.mk (Kd.R_lower (Kd.R_new' (Kd.R_new' (Kd.R_new' (Kd.R_new' (Kd.R_new' (Kd.R_new' (Kd.R_new' (Kd.R_new' (Kd.R_new' (Kd.R_new' (Kd.R_new' (Kd.R_new' (Kd.R_new' (Kd.R_new' (Kd.R_new' (Kd.R_new' (Kd.R_new' (Kd.R_new' (Kd.R_new' (Kd.R_new' (Kd.R_new' (Kd.R_new' (Kd.R_new' (Kd.R_new' (Kd.R_new' (Kd.R_new' (Kd.R_new' (Kd.R_new' (Kd.R_new' (Kd.R_new' (Kd.R_new' (Kd.R_new' ho4 (Kd.R_lt HO205.out)) (Kd.R_lt HO208.out)) (Kd.R_lt HO211.out)) (Kd.R_lt HO214.out)) (Kd.R_lt HO217.out)) (Kd.R_lt HO220.out)) (Kd.R_lt HO223.out)) (Kd.R_lt HO226.out)) (Kd.R_lt HO230.out)) (Kd.R_lt HO233.out)) (Kd.R_lt HO236.out)) (Kd.R_lt HO239.out)) (Kd.R_lt HO242.out)) (Kd.R_lt HO245.out)) (Kd.R_lt HO248.out)) (Kd.R_lt HO251.out)) (Kd.R_lt HO256.out)) (Kd.R_lt HO259.out)) (Kd.R_lt HO262.out)) (Kd.R_lt HO265.out)) (Kd.R_lt HO268.out)) (Kd.R_lt HO271.out)) (Kd.R_lt HO274.out)) (Kd.R_lt HO277.out)) (Kd.R_lt HO282.out)) (Kd.R_lt HO285.out)) (Kd.R_lt HO288.out)) (Kd.R_lt HO291.out)) (Kd.R_lt HO294.out)) (Kd.R_lt HO297.out)) (Kd.R_lt HO300.out)) (Kd.R_lt HO303.out)) (below_size HB.out))
            have n37_ := Aside0.mk (Kd.R_lower (Kd.R_new' (Kd.R_new' (Kd.R_new' (Kd.R_new' (Kd.R_new' (Kd.R_new' (Kd.R_new' (Kd.R_new' (Kd.R_new' (Kd.R_new' (Kd.R_new' (Kd.R_new' (Kd.R_new' (Kd.R_new' (Kd.R_new' (Kd.R_new' (Kd.R_new' (Kd.R_new' (Kd.R_new' (Kd.R_new' (Kd.R_new' (Kd.R_new' (Kd.R_new' (Kd.R_new' (Kd.R_new' (Kd.R_new' (Kd.R_new' (Kd.R_new' (Kd.R_new' (Kd.R_new' (Kd.R_new' (Kd.R_new' ho5 (Kd.R_lt HO205.out)) (Kd.R_lt HO208.out)) (Kd.R_lt HO211.out)) (Kd.R_lt HO214.out)) (Kd.R_lt HO217.out)) (Kd.R_lt HO220.out)) (Kd.R_lt HO223.out)) (Kd.R_lt HO226.out)) (Kd.R_lt HO230.out)) (Kd.R_lt HO233.out)) (Kd.R_lt HO236.out)) (Kd.R_lt HO239.out)) (Kd.R_lt HO242.out)) (Kd.R_lt HO245.out)) (Kd.R_lt HO248.out)) (Kd.R_lt HO251.out)) (Kd.R_lt HO256.out)) (Kd.R_lt HO259.out)) (Kd.R_lt HO262.out)) (Kd.R_lt HO265.out)) (Kd.R_lt HO268.out)) (Kd.R_lt HO271.out)) (Kd.R_lt HO274.out)) (Kd.R_lt HO277.out)) (Kd.R_lt HO282.out)) (Kd.R_lt HO285.out)) (Kd.R_lt HO288.out)) (Kd.R_lt HO291.out)) (Kd.R_lt HO294.out)) (Kd.R_lt HO297.out)) (Kd.R_lt HO300.out)) (Kd.R_lt HO303.out)) (below_size HB.out))
            have n38_ := Aside0.mk (Kd.R_lower (Kd.R_new' (Kd.R_new' (Kd.R_new' (Kd.R_new' (Kd.R_new' (Kd.R_new' (Kd.R_new' (Kd.R_new' (Kd.R_new' (Kd.R_new' (Kd.R_new' (Kd.R_new' (Kd.R_new' (Kd.R_new' (Kd.R_new' (Kd.R_new' (Kd.R_new' (Kd.R_new' (Kd.R_new' (Kd.R_new' (Kd.R_new' (Kd.R_new' (Kd.R_new' (Kd.R_new' (Kd.R_new' (Kd.R_new' (Kd.R_new' (Kd.R_new' (Kd.R_new' (Kd.R_new' (Kd.R_new' (Kd.R_new' ho6 (Kd.R_lt HO205.out)) (Kd.R_lt HO208.out)) (Kd.R_lt HO211.out)) (Kd.R_lt HO214.out)) (Kd.R_lt HO217.out)) (Kd.R_lt HO220.out)) (Kd.R_lt HO223.out)) (Kd.R_lt HO226.out)) (Kd.R_lt HO230.out)) (Kd.R_lt HO233.out)) (Kd.R_lt HO236.out)) (Kd.R_lt HO239.out)) (Kd.R_lt HO242.out)) (Kd.R_lt HO245.out)) (Kd.R_lt HO248.out)) (Kd.R_lt HO251.out)) (Kd.R_lt HO256.out)) (Kd.R_lt HO259.out)) (Kd.R_lt HO262.out)) (Kd.R_lt HO265.out)) (Kd.R_lt HO268.out)) (Kd.R_lt HO271.out)) (Kd.R_lt HO274.out)) (Kd.R_lt HO277.out)) (Kd.R_lt HO282.out)) (Kd.R_lt HO285.out)) (Kd.R_lt HO288.out)) (Kd.R_lt HO291.out)) (Kd.R_lt HO294.out)) (Kd.R_lt HO297.out)) (Kd.R_lt HO300.out)) (Kd.R_lt HO303.out)) (below_size HB.out))
            have n39_ := Aside0.mk (Kd.R_lower (Kd.R_new' (Kd.R_new' (Kd.R_new' (Kd.R_new' (Kd.R_new' (Kd.R_new' (Kd.R_new' (Kd.R_new' (Kd.R_new' (Kd.R_new' (Kd.R_new' (Kd.R_new' (Kd.R_new' (Kd.R_new' (Kd.R_new' (Kd.R_new' (Kd.R_new' (Kd.R_new' (Kd.R_new' (Kd.R_new' (Kd.R_new' (Kd.R_new' (Kd.R_new' (Kd.R_new' (Kd.R_new' (Kd.R_new' (Kd.R_new' (Kd.R_new' (Kd.R_new' (Kd.R_new' (Kd.R_new' (Kd.R_new' ho7 (Kd.R_lt HO205.out)) (Kd.R_lt HO208.out)) (Kd.R_lt HO211.out)) (Kd.R_lt HO214.out)) (Kd.R_lt HO217.out)) (Kd.R_lt HO220.out)) (Kd.R_lt HO223.out)) (Kd.R_lt HO226.out)) (Kd.R_lt HO230.out)) (Kd.R_lt HO233.out)) (Kd.R_lt HO236.out)) (Kd.R_lt HO239.out)) (Kd.R_lt HO242.out)) (Kd.R_lt HO245.out)) (Kd.R_lt HO248.out)) (Kd.R_lt HO251.out)) (Kd.R_lt HO256.out)) (Kd.R_lt HO259.out)) (Kd.R_lt HO262.out)) (Kd.R_lt HO265.out)) (Kd.R_lt HO268.out)) (Kd.R_lt HO271.out)) (Kd.R_lt HO274.out)) (Kd.R_lt HO277.out)) (Kd.R_lt HO282.out)) (Kd.R_lt HO285.out)) (Kd.R_lt HO288.out)) (Kd.R_lt HO291.out)) (Kd.R_lt HO294.out)) (Kd.R_lt HO297.out)) (Kd.R_lt HO300.out)) (Kd.R_lt HO303.out)) (below_size HB.out))
            have n40_ := Aside0.mk (blk_below BK198.out hb)
            have n41_ := Aside0.mk (blk_below BK199.out hb)
            have n42_ := Aside0.mk (blk_below BK278.out hb)
            have n43_ := Aside0.mk (blk_below BK304.out hb)
            have n44_ := Aside0.mk (below_step HB.out hb)
            clear HO205
            clear HO208
            clear HO211
            clear HO214
            clear HO217
            clear HO220
            clear HO223
            clear HO226
            clear HO230
            clear HO233
            clear HO236
            clear HO239
            clear HO242
            clear HO245
            clear HO248
            clear HO251
            clear HO256
            clear HO259
            clear HO262
            clear HO265
            clear HO268
            clear HO271
            clear HO274
            clear HO277
            clear HO282
            clear HO285
            clear HO288
            clear HO291
            clear HO294
            clear HO297
            clear HO300
            clear HO303
            clear BK198
            clear BK199
            clear BK278
            clear BK304
            clear HB
            have HO205 := n0_
            have HO208 := n1_
            have HO211 := n2_
            have HO214 := n3_
            have HO217 := n4_
            have HO220 := n5_
            have HO223 := n6_
            have HO226 := n7_
            have HO230 := n8_
            have HO233 := n9_
            have HO236 := n10_
            have HO239 := n11_
            have HO242 := n12_
            have HO245 := n13_
            have HO248 := n14_
            have HO251 := n15_
            have HO256 := n16_
            have HO259 := n17_
            have HO262 := n18_
            have HO265 := n19_
            have HO268 := n20_
            have HO271 := n21_
            have HO274 := n22_
            have HO277 := n23_
            have HO282 := n24_
            have HO285 := n25_
            have HO288 := n26_
            have HO291 := n27_
            have HO294 := n28_
            have HO297 := n29_
            have HO300 := n30_
            have HO303 := n31_
            have HO309 := n32_
            have HO312 := n33_
            have HO315 := n34_
            have HO318 := n35_
            have HO321 := n36_
            have HO324 := n37_
            have HO327 := n38_
            have HO330 := n39_
            have BK198 := n40_
            have BK199 := n41_
            have BK278 := n42_
            have BK304 := n43_
            have HB := n44_
            clear n0_ n1_ n2_ n3_ n4_ n5_ n6_ n7_ n8_ n9_ n10_ n11_ n12_ n13_ n14_ n15_ n16_ n17_ n18_ n19_ n20_ n21_ n22_ n23_ n24_ n25_ n26_ n27_ n28_ n29_ n30_ n31_ n32_ n33_ n34_ n35_ n36_ n37_ n38_ n39_ n40_ n41_ n42_ n43_ n44_
            (try clear hb)
            (try clear hb2)
            (try clear hk)
            (try clear hi)
            (try clear ho0)
            (try clear ho1)
            (try clear ho2)
            (try clear ho3)
            (try clear ho4)
            (try clear ho5)
            (try clear ho6)
            (try clear ho7)
            obtain ⟨Ao76, co76, eo76⟩ := Kd.R_slice HO309.out
            (first | subst eo76 | (injection eo76 with f1_ f2_ f3_; have f4_ := f1_.symm; have f5_ := f3_.symm; clear f1_ f2_ f3_; subst f4_; subst f5_))
            obtain ⟨Ao77, co77, eo77⟩ := Kd.R_slice HO312.out
            (first | subst eo77 | (injection eo77 with f1_ f2_ f3_; have f4_ := f1_.symm; have f5_ := f3_.symm; clear f1_ f2_ f3_; subst f4_; subst f5_))
            obtain ⟨Ao78, co78, eo78⟩ := Kd.R_slice HO315.out
            (first | subst eo78 | (injection eo78 with f1_ f2_ f3_; have f4_ := f1_.symm; have f5_ := f3_.symm; clear f1_ f2_ f3_; subst f4_; subst f5_))
            obtain ⟨Ao79, co79, eo79⟩ := Kd.R_slice HO318.out
            (first | subst eo79 | (injection eo79 with f1_ f2_ f3_; have f4_ := f1_.symm; have f5_ := f3_.symm; clear f1_ f2_ f3_; subst f4_; subst f5_))
            obtain ⟨Ao80, co80, eo80⟩ := Kd.R_slice HO321.out
            (first | subst eo80 | (injection eo80 with f1_ f2_ f3_; have f4_ := f1_.symm; have f5_ := f3_.symm; clear f1_ f2_ f3_; subst f4_; subst f5_))
            obtain ⟨Ao81, co81, eo81⟩ := Kd.R_slice HO324.out
            (first | subst eo81 | (injection eo81 with f1_ f2_ f3_; have f4_ := f1_.symm; have f5_ := f3_.symm; clear f1_ f2_ f3_; subst f4_; subst f5_))
            obtain ⟨Ao82, co82, eo82⟩ := Kd.R_slice HO327.out
            (first | subst eo82 | (injection eo82 with f1_ f2_ f3_; have f4_ := f1_.symm; have f5_ := f3_.symm; clear f1_ f2_ f3_; subst f4_; subst f5_))
            obtain ⟨Ao83, co83, eo83⟩ := Kd.R_slice HO330.out
            (first | subst eo83 | (injection eo83 with f1_ f2_ f3_; have f4_ := f1_.symm; have f5_ := f3_.symm; clear f1_ f2_ f3_; subst f4_; subst f5_))
            refine hK.out _ _ ⟨(blk_cell BK278.out 0).trans rfl, (blk_cell BK278.out 1).trans rfl, (blk_cell BK278.out 2).trans rfl, (blk_cell BK278.out 3).trans rfl, (blk_cell BK278.out 4).trans rfl, (blk_cell BK278.out 5).trans rfl, (blk_cell BK278.out 6).trans rfl, (blk_cell BK278.out 7).trans rfl, (blk_cell BK278.out 8).trans rfl, (blk_cell BK198.out 0).trans rfl, (blk_cell BK198.out 1).trans rfl, (blk_cell BK198.out 2).trans rfl, (blk_cell BK198.out 3).trans rfl, (blk_cell BK198.out 4).trans rfl, (blk_cell BK198.out 5).trans rfl, (blk_cell BK198.out 6).trans rfl, (blk_cell BK198.out 7).trans rfl, (blk_cell BK198.out 8).trans rfl⟩ (fun hHeld => ?_)
            clear hK K
            refine norm_ (a' := ?_) ?_ ?_
            rotate_left
            · show Act.put _ (some 37) _ = _
              simp only [Act.put, List.setIfInBounds_toArray, List.set_cons_zero, List.set_cons_succ, i64_w, i32_w]
              rfl
            refine one_ (i := 3) (N := some 38) #[true, true, true, true, false] rfl rfl (by kernel_rfl) (by decide) (fun K hK => ?_)
            refine goes_ Try.func14 (by kernel_rfl) rfl #[.agg #[.int .i64 t253, .slice Ao53 t254.length co53, .slice Ao54 t257.length co54, .slice Ao55 t260.length co55, .slice Ao56 t263.length co56, .slice Ao57 t266.length co57, .slice Ao58 t269.length co58, .slice Ao59 t272.length co59, .slice Ao60 t275.length co60], .agg #[.int .i64 t306, .slice Ao76 t307.length co76, .slice Ao77 t310.length co77, .slice Ao78 t313.length co78, .slice Ao79 t316.length co79, .slice Ao80 t319.length co80, .slice Ao81 t322.length co81, .slice Ao82 t325.length co82, .slice Ao83 t328.length co83]] (by rfl) rfl rfl (by (try simp only [List.map_toArray, List.map_cons, List.map_nil]); first | done | rfl | (simp only [List.length_drop, List.length_take]; rfl)) ?_
            with_reducible refine (laws_eqBook.calls k t253 _ _ t254 _ _ t257 _ _ t260 _ _ t263 _ _ t266 _ _ t269 _ _ t272 _ _ t275 t306 _ _ t307 _ _ t310 _ _ t313 _ _ t316 _ _ t319 _ _ t322 _ _ t325 _ _ t328 true _ ?side1 ?side2 ?side3 ?side4 ?side5 ?side6 ?side7 ?side8 ?side9 ?side10 ?side11 ?side12 ?side13 ?side14 ?side15 ?side16 ?side17 ?side18 ?side19 ?side20 ?side21 ?side22 ?side23 ?side24 ?side25 ?side26 ?side27 ?side28 ?side29 ?side30 ?side31 ?side32 A22.out).mono ?_
            (case side1 => repeat (first | exact (Kd.R_reads' HO256.out).2.2 | (with_reducible refine Kd.C_alloc ?_ _) | (with_reducible refine Kd.C_drewN ?_ _) | (with_reducible refine Kd.C_drew ?_)))
            (case side2 => exact (Kd.R_reads' HO256.out).2.1)
            (case side3 => repeat (first | exact (Kd.R_reads' HO259.out).2.2 | (with_reducible refine Kd.C_alloc ?_ _) | (with_reducible refine Kd.C_drewN ?_ _) | (with_reducible refine Kd.C_drew ?_)))
            (case side4 => exact (Kd.R_reads' HO259.out).2.1)
            (case side5 => repeat (first | exact (Kd.R_reads' HO262.out).2.2 | (with_reducible refine Kd.C_alloc ?_ _) | (with_reducible refine Kd.C_drewN ?_ _) | (with_reducible refine Kd.C_drew ?_)))
            (case side6 => exact (Kd.R_reads' HO262.out).2.1)
            (case side7 => repeat (first | exact (Kd.R_reads' HO265.out).2.2 | (with_reducible refine Kd.C_alloc ?_ _) | (with_reducible refine Kd.C_drewN ?_ _) | (with_reducible refine Kd.C_drew ?_)))
            (case side8 => exact (Kd.R_reads' HO265.out).2.1)
            (case side9 => repeat (first | exact (Kd.R_reads' HO268.out).2.2 | (with_reducible refine Kd.C_alloc ?_ _) | (with_reducible refine Kd.C_drewN ?_ _) | (with_reducible refine Kd.C_drew ?_)))
            (case side10 => exact (Kd.R_reads' HO268.out).2.1)
            (case side11 => repeat (first | exact (Kd.R_reads' HO271.out).2.2 | (with_reducible refine Kd.C_alloc ?_ _) | (with_reducible refine Kd.C_drewN ?_ _) | (with_reducible refine Kd.C_drew ?_)))
            (case side12 => exact (Kd.R_reads' HO271.out).2.1)
            (case side13 => repeat (first | exact (Kd.R_reads' HO274.out).2.2 | (with_reducible refine Kd.C_alloc ?_ _) | (with_reducible refine Kd.C_drewN ?_ _) | (with_reducible refine Kd.C_drew ?_)))
            (case side14 => exact (Kd.R_reads' HO274.out).2.1)
            (case side15 => repeat (first | exact (Kd.R_reads' HO277.out).2.2 | (with_reducible refine Kd.C_alloc ?_ _) | (with_reducible refine Kd.C_drewN ?_ _) | (with_reducible refine Kd.C_drew ?_)))
            (case side16 => exact (Kd.R_reads' HO277.out).2.1)
            (case side17 => repeat (first | exact (Kd.R_reads' HO309.out).2.2 | (with_reducible refine Kd.C_alloc ?_ _) | (with_reducible refine Kd.C_drewN ?_ _) | (with_reducible refine Kd.C_drew ?_)))
            (case side18 => exact (Kd.R_reads' HO309.out).2.1)
            (case side19 => repeat (first | exact (Kd.R_reads' HO312.out).2.2 | (with_reducible refine Kd.C_alloc ?_ _) | (with_reducible refine Kd.C_drewN ?_ _) | (with_reducible refine Kd.C_drew ?_)))
            (case side20 => exact (Kd.R_reads' HO312.out).2.1)
            (case side21 => repeat (first | exact (Kd.R_reads' HO315.out).2.2 | (with_reducible refine Kd.C_alloc ?_ _) | (with_reducible refine Kd.C_drewN ?_ _) | (with_reducible refine Kd.C_drew ?_)))
            (case side22 => exact (Kd.R_reads' HO315.out).2.1)
            (case side23 => repeat (first | exact (Kd.R_reads' HO318.out).2.2 | (with_reducible refine Kd.C_alloc ?_ _) | (with_reducible refine Kd.C_drewN ?_ _) | (with_reducible refine Kd.C_drew ?_)))
            (case side24 => exact (Kd.R_reads' HO318.out).2.1)
            (case side25 => repeat (first | exact (Kd.R_reads' HO321.out).2.2 | (with_reducible refine Kd.C_alloc ?_ _) | (with_reducible refine Kd.C_drewN ?_ _) | (with_reducible refine Kd.C_drew ?_)))
            (case side26 => exact (Kd.R_reads' HO321.out).2.1)
            (case side27 => repeat (first | exact (Kd.R_reads' HO324.out).2.2 | (with_reducible refine Kd.C_alloc ?_ _) | (with_reducible refine Kd.C_drewN ?_ _) | (with_reducible refine Kd.C_drew ?_)))
            (case side28 => exact (Kd.R_reads' HO324.out).2.1)
            (case side29 => repeat (first | exact (Kd.R_reads' HO327.out).2.2 | (with_reducible refine Kd.C_alloc ?_ _) | (with_reducible refine Kd.C_drewN ?_ _) | (with_reducible refine Kd.C_drew ?_)))
            (case side30 => exact (Kd.R_reads' HO327.out).2.1)
            (case side31 => repeat (first | exact (Kd.R_reads' HO330.out).2.2 | (with_reducible refine Kd.C_alloc ?_ _) | (with_reducible refine Kd.C_drewN ?_ _) | (with_reducible refine Kd.C_drew ?_)))
            (case side32 => exact (Kd.R_reads' HO330.out).2.1)
            rintro e w84 ⟨rfl, hb⟩
            refine ⟨_, rfl, ?_⟩
            have n0_ := Aside0.mk (Kd.R_below HO205.out hb)
            have n1_ := Aside0.mk (Kd.R_below HO208.out hb)
            have n2_ := Aside0.mk (Kd.R_below HO211.out hb)
            have n3_ := Aside0.mk (Kd.R_below HO214.out hb)
            have n4_ := Aside0.mk (Kd.R_below HO217.out hb)
            have n5_ := Aside0.mk (Kd.R_below HO220.out hb)
            have n6_ := Aside0.mk (Kd.R_below HO223.out hb)
            have n7_ := Aside0.mk (Kd.R_below HO226.out hb)
            have n8_ := Aside0.mk (Kd.R_below HO230.out hb)
            have n9_ := Aside0.mk (Kd.R_below HO233.out hb)
            have n10_ := Aside0.mk (Kd.R_below HO236.out hb)
            have n11_ := Aside0.mk (Kd.R_below HO239.out hb)
            have n12_ := Aside0.mk (Kd.R_below HO242.out hb)
            have n13_ := Aside0.mk (Kd.R_below HO245.out hb)
            have n14_ := Aside0.mk (Kd.R_below HO248.out hb)
            have n15_ := Aside0.mk (Kd.R_below HO251.out hb)
            have n16_ := Aside0.mk (Kd.R_below HO256.out hb)
            have n17_ := Aside0.mk (Kd.R_below HO259.out hb)
            have n18_ := Aside0.mk (Kd.R_below HO262.out hb)
            have n19_ := Aside0.mk (Kd.R_below HO265.out hb)
            have n20_ := Aside0.mk (Kd.R_below HO268.out hb)
            have n21_ := Aside0.mk (Kd.R_below HO271.out hb)
            have n22_ := Aside0.mk (Kd.R_below HO274.out hb)
            have n23_ := Aside0.mk (Kd.R_below HO277.out hb)
            have n24_ := Aside0.mk (Kd.R_below HO282.out hb)
            have n25_ := Aside0.mk (Kd.R_below HO285.out hb)
            have n26_ := Aside0.mk (Kd.R_below HO288.out hb)
            have n27_ := Aside0.mk (Kd.R_below HO291.out hb)
            have n28_ := Aside0.mk (Kd.R_below HO294.out hb)
            have n29_ := Aside0.mk (Kd.R_below HO297.out hb)
            have n30_ := Aside0.mk (Kd.R_below HO300.out hb)
            have n31_ := Aside0.mk (Kd.R_below HO303.out hb)
            have n32_ := Aside0.mk (Kd.R_below HO309.out hb)
            have n33_ := Aside0.mk (Kd.R_below HO312.out hb)
            have n34_ := Aside0.mk (Kd.R_below HO315.out hb)
            have n35_ := Aside0.mk (Kd.R_below HO318.out hb)
            have n36_ := Aside0.mk (Kd.R_below HO321.out hb)
            have n37_ := Aside0.mk (Kd.R_below HO324.out hb)
            have n38_ := Aside0.mk (Kd.R_below HO327.out hb)
            have n39_ := Aside0.mk (Kd.R_below HO330.out hb)
            have n40_ := Aside0.mk (blk_below BK198.out hb)
            have n41_ := Aside0.mk (blk_below BK199.out hb)
            have n42_ := Aside0.mk (blk_below BK278.out hb)
            have n43_ := Aside0.mk (blk_below BK304.out hb)
            have n44_ := Aside0.mk (below_step HB.out hb)
            clear HO205
            clear HO208
            clear HO211
            clear HO214
            clear HO217
            clear HO220
            clear HO223
            clear HO226
            clear HO230
            clear HO233
            clear HO236
            clear HO239
            clear HO242
            clear HO245
            clear HO248
            clear HO251
            clear HO256
            clear HO259
            clear HO262
            clear HO265
            clear HO268
            clear HO271
            clear HO274
            clear HO277
            clear HO282
            clear HO285
            clear HO288
            clear HO291
            clear HO294
            clear HO297
            clear HO300
            clear HO303
            clear HO309
            clear HO312
            clear HO315
            clear HO318
            clear HO321
            clear HO324
            clear HO327
            clear HO330
            clear BK198
            clear BK199
            clear BK278
            clear BK304
            clear HB
            have HO205 := n0_
            have HO208 := n1_
            have HO211 := n2_
            have HO214 := n3_
            have HO217 := n4_
            have HO220 := n5_
            have HO223 := n6_
            have HO226 := n7_
            have HO230 := n8_
            have HO233 := n9_
            have HO236 := n10_
            have HO239 := n11_
            have HO242 := n12_
            have HO245 := n13_
            have HO248 := n14_
            have HO251 := n15_
            have HO256 := n16_
            have HO259 := n17_
            have HO262 := n18_
            have HO265 := n19_
            have HO268 := n20_
            have HO271 := n21_
            have HO274 := n22_
            have HO277 := n23_
            have HO282 := n24_
            have HO285 := n25_
            have HO288 := n26_
            have HO291 := n27_
            have HO294 := n28_
            have HO297 := n29_
            have HO300 := n30_
            have HO303 := n31_
            have HO309 := n32_
            have HO312 := n33_
            have HO315 := n34_
            have HO318 := n35_
            have HO321 := n36_
            have HO324 := n37_
            have HO327 := n38_
            have HO330 := n39_
            have BK198 := n40_
            have BK199 := n41_
            have BK278 := n42_
            have BK304 := n43_
            have HB := n44_
            clear n0_ n1_ n2_ n3_ n4_ n5_ n6_ n7_ n8_ n9_ n10_ n11_ n12_ n13_ n14_ n15_ n16_ n17_ n18_ n19_ n20_ n21_ n22_ n23_ n24_ n25_ n26_ n27_ n28_ n29_ n30_ n31_ n32_ n33_ n34_ n35_ n36_ n37_ n38_ n39_ n40_ n41_ n42_ n43_ n44_
            (try clear hb)
            (try clear hb2)
            (try clear hk)
            (try clear hi)
            refine hK.out _ _ ⟨(blk_cell BK278.out 0).trans rfl, (blk_cell BK278.out 1).trans rfl, (blk_cell BK278.out 2).trans rfl, (blk_cell BK278.out 3).trans rfl, (blk_cell BK278.out 4).trans rfl, (blk_cell BK278.out 5).trans rfl, (blk_cell BK278.out 6).trans rfl, (blk_cell BK278.out 7).trans rfl, (blk_cell BK278.out 8).trans rfl, (blk_cell BK198.out 0).trans rfl, (blk_cell BK198.out 1).trans rfl, (blk_cell BK198.out 2).trans rfl, (blk_cell BK198.out 3).trans rfl, (blk_cell BK198.out 4).trans rfl, (blk_cell BK198.out 5).trans rfl, (blk_cell BK198.out 6).trans rfl, (blk_cell BK198.out 7).trans rfl, (blk_cell BK198.out 8).trans rfl⟩ (fun hHeld => ?_)
            clear hK K
            refine norm_ (a' := ?_) ?_ ?_
            rotate_left
            · show Act.put _ (some 38) _ = _
              simp only [Act.put, List.setIfInBounds_toArray, List.set_cons_zero, List.set_cons_succ, i64_w, i32_w]
              rfl
            refine pure_ (i := 4) (N := some 39) (v := ?_) (a' := ?_) #[true, true, true, true, true] rfl rfl (by kernel_rfl) (fun _ _ _ h => h) (Or.inl ⟨by rfl, ?_⟩) ?_ ?_
            rotate_left
            · intro w'
              go_simp
              with_reducible rfl
            rotate_left
            · simp only [Act.put, List.setIfInBounds_toArray, List.set_cons_zero, List.set_cons_succ, i64_w, i32_w]
              rfl
            refine done_ (by kernel_rfl) ?_
            try go_wp2
            have n0_ := Aside0.mk (Kd.R_drew HO205.out)
            have n1_ := Aside0.mk (Kd.R_drew HO208.out)
            have n2_ := Aside0.mk (Kd.R_drew HO211.out)
            have n3_ := Aside0.mk (Kd.R_drew HO214.out)
            have n4_ := Aside0.mk (Kd.R_drew HO217.out)
            have n5_ := Aside0.mk (Kd.R_drew HO220.out)
            have n6_ := Aside0.mk (Kd.R_drew HO223.out)
            have n7_ := Aside0.mk (Kd.R_drew HO226.out)
            have n8_ := Aside0.mk (Kd.R_drew HO230.out)
            have n9_ := Aside0.mk (Kd.R_drew HO233.out)
            have n10_ := Aside0.mk (Kd.R_drew HO236.out)
            have n11_ := Aside0.mk (Kd.R_drew HO239.out)
            have n12_ := Aside0.mk (Kd.R_drew HO242.out)
            have n13_ := Aside0.mk (Kd.R_drew HO245.out)
            have n14_ := Aside0.mk (Kd.R_drew HO248.out)
            have n15_ := Aside0.mk (Kd.R_drew HO251.out)
            have n16_ := Aside0.mk (Kd.R_drew HO256.out)
            have n17_ := Aside0.mk (Kd.R_drew HO259.out)
            have n18_ := Aside0.mk (Kd.R_drew HO262.out)
            have n19_ := Aside0.mk (Kd.R_drew HO265.out)
            have n20_ := Aside0.mk (Kd.R_drew HO268.out)
            have n21_ := Aside0.mk (Kd.R_drew HO271.out)
            have n22_ := Aside0.mk (Kd.R_drew HO274.out)
            have n23_ := Aside0.mk (Kd.R_drew HO277.out)
            have n24_ := Aside0.mk (Kd.R_drew HO282.out)
            have n25_ := Aside0.mk (Kd.R_drew HO285.out)
            have n26_ := Aside0.mk (Kd.R_drew HO288.out)
            have n27_ := Aside0.mk (Kd.R_drew HO291.out)
            have n28_ := Aside0.mk (Kd.R_drew HO294.out)
            have n29_ := Aside0.mk (Kd.R_drew HO297.out)
            have n30_ := Aside0.mk (Kd.R_drew HO300.out)
            have n31_ := Aside0.mk (Kd.R_drew HO303.out)
            have n32_ := Aside0.mk (Kd.R_drew HO309.out)
            have n33_ := Aside0.mk (Kd.R_drew HO312.out)
            have n34_ := Aside0.mk (Kd.R_drew HO315.out)
            have n35_ := Aside0.mk (Kd.R_drew HO318.out)
            have n36_ := Aside0.mk (Kd.R_drew HO321.out)
            have n37_ := Aside0.mk (Kd.R_drew HO324.out)
            have n38_ := Aside0.mk (Kd.R_drew HO327.out)
            have n39_ := Aside0.mk (Kd.R_drew HO330.out)
            have n40_ := Aside0.mk (blk_drew BK198.out)
            have n41_ := Aside0.mk (blk_drew BK199.out)
            have n42_ := Aside0.mk (blk_drew BK278.out)
            have n43_ := Aside0.mk (blk_drew BK304.out)
            have n44_ := Aside0.mk (below_drew1 HB.out)
            clear HO205
            clear HO208
            clear HO211
            clear HO214
            clear HO217
            clear HO220
            clear HO223
            clear HO226
            clear HO230
            clear HO233
            clear HO236
            clear HO239
            clear HO242
            clear HO245
            clear HO248
            clear HO251
            clear HO256
            clear HO259
            clear HO262
            clear HO265
            clear HO268
            clear HO271
            clear HO274
            clear HO277
            clear HO282
            clear HO285
            clear HO288
            clear HO291
            clear HO294
            clear HO297
            clear HO300
            clear HO303
            clear HO309
            clear HO312
            clear HO315
            clear HO318
            clear HO321
            clear HO324
            clear HO327
            clear HO330
            clear BK198
            clear BK199
            clear BK278
            clear BK304
            clear HB
            have HO205 := n0_
            have HO208 := n1_
            have HO211 := n2_
            have HO214 := n3_
            have HO217 := n4_
            have HO220 := n5_
            have HO223 := n6_
            have HO226 := n7_
            have HO230 := n8_
            have HO233 := n9_
            have HO236 := n10_
            have HO239 := n11_
            have HO242 := n12_
            have HO245 := n13_
            have HO248 := n14_
            have HO251 := n15_
            have HO256 := n16_
            have HO259 := n17_
            have HO262 := n18_
            have HO265 := n19_
            have HO268 := n20_
            have HO271 := n21_
            have HO274 := n22_
            have HO277 := n23_
            have HO282 := n24_
            have HO285 := n25_
            have HO288 := n26_
            have HO291 := n27_
            have HO294 := n28_
            have HO297 := n29_
            have HO300 := n30_
            have HO303 := n31_
            have HO309 := n32_
            have HO312 := n33_
            have HO315 := n34_
            have HO318 := n35_
            have HO321 := n36_
            have HO324 := n37_
            have HO327 := n38_
            have HO330 := n39_
            have BK198 := n40_
            have BK199 := n41_
            have BK278 := n42_
            have BK304 := n43_
            have HB := n44_
            clear n0_ n1_ n2_ n3_ n4_ n5_ n6_ n7_ n8_ n9_ n10_ n11_ n12_ n13_ n14_ n15_ n16_ n17_ n18_ n19_ n20_ n21_ n22_ n23_ n24_ n25_ n26_ n27_ n28_ n29_ n30_ n31_ n32_ n33_ n34_ n35_ n36_ n37_ n38_ n39_ n40_ n41_ n42_ n43_ n44_
            refine start_ (n := 5) (S := fun w' => w'.cell? ⟨gb304, 0, none⟩ = some (.int .i64 t279) ∧ w'.cell? ⟨gb304, 1, none⟩ = some (.slice Ao64 t280.length co64) ∧ w'.cell? ⟨gb304, 2, none⟩ = some (.slice Ao65 t283.length co65) ∧ w'.cell? ⟨gb304, 3, none⟩ = some (.slice Ao66 t286.length co66) ∧ w'.cell? ⟨gb304, 4, none⟩ = some (.slice Ao67 t289.length co67) ∧ w'.cell? ⟨gb304, 5, none⟩ = some (.slice Ao68 t292.length co68) ∧ w'.cell? ⟨gb304, 6, none⟩ = some (.slice Ao69 t295.length co69) ∧ w'.cell? ⟨gb304, 7, none⟩ = some (.slice Ao70 t298.length co70) ∧ w'.cell? ⟨gb304, 8, none⟩ = some (.slice Ao71 t301.length co71) ∧ w'.cell? ⟨gb199, 0, none⟩ = some (.int .i64 a1_0) ∧ w'.cell? ⟨gb199, 1, none⟩ = some (.slice A1_1 l1_1.length c1_1) ∧ w'.cell? ⟨gb199, 2, none⟩ = some (.slice A1_2 l1_2.length c1_2) ∧ w'.cell? ⟨gb199, 3, none⟩ = some (.slice A1_3 l1_3.length c1_3) ∧ w'.cell? ⟨gb199, 4, none⟩ = some (.slice A1_4 l1_4.length c1_4) ∧ w'.cell? ⟨gb199, 5, none⟩ = some (.slice A1_5 l1_5.length c1_5) ∧ w'.cell? ⟨gb199, 6, none⟩ = some (.slice A1_6 l1_6.length c1_6) ∧ w'.cell? ⟨gb199, 7, none⟩ = some (.slice A1_7 l1_7.length c1_7) ∧ w'.cell? ⟨gb199, 8, none⟩ = some (.slice A1_8 l1_8.length c1_8)) (ds := []) #[false, false, false, false, false] (by kernel_rfl) rfl rfl ⟨(blk_cell BK304.out 0).trans rfl, (blk_cell BK304.out 1).trans rfl, (blk_cell BK304.out 2).trans rfl, (blk_cell BK304.out 3).trans rfl, (blk_cell BK304.out 4).trans rfl, (blk_cell BK304.out 5).trans rfl, (blk_cell BK304.out 6).trans rfl, (blk_cell BK304.out 7).trans rfl, (blk_cell BK304.out 8).trans rfl, (blk_cell BK199.out 0).trans rfl, (blk_cell BK199.out 1).trans rfl, (blk_cell BK199.out 2).trans rfl, (blk_cell BK199.out 3).trans rfl, (blk_cell BK199.out 4).trans rfl, (blk_cell BK199.out 5).trans rfl, (blk_cell BK199.out 6).trans rfl, (blk_cell BK199.out 7).trans rfl, (blk_cell BK199.out 8).trans rfl⟩ (fun hHeld => ?_)
            generalize w84.drew = w85 at HO205 HO208 HO211 HO214 HO217 HO220 HO223 HO226 HO230 HO233 HO236 HO239 HO242 HO245 HO248 HO251 HO256 HO259 HO262 HO265 HO268 HO271 HO274 HO277 HO282 HO285 HO288 HO291 HO294 HO297 HO300 HO303 HO309 HO312 HO315 HO318 HO321 HO324 HO327 HO330 BK198 BK199 BK278 BK304 HB hHeld ⊢
            refine take_ (i := 0) (N := some 40) (v := ?_) (a' := ?_) #[true, false, false, false, false] rfl rfl (by kernel_rfl) (fun _ _ _ h => h) (Or.inl ⟨by rfl, ?_⟩) hHeld ?_ ?_
            rotate_left
            · rintro w' ⟨s0, s1, s2, s3, s4, s5, s6, s7, s8, s9, s10, s11, s12, s13, s14, s15, s16, s17⟩
              go_simp
              with_reducible rfl
            rotate_left
            · simp only [Act.put, List.setIfInBounds_toArray, List.set_cons_zero, List.set_cons_succ, i64_w, i32_w]
              rfl
            refine take_ (i := 1) (N := some 41) (v := ?_) (a' := ?_) #[true, true, false, false, false] rfl rfl (by kernel_rfl) (fun _ _ _ h => h) (Or.inl ⟨by rfl, ?_⟩) hHeld ?_ ?_
            rotate_left
            · rintro w' ⟨s0, s1, s2, s3, s4, s5, s6, s7, s8, s9, s10, s11, s12, s13, s14, s15, s16, s17⟩
              go_simp
              with_reducible rfl
            rotate_left
            · simp only [Act.put, List.setIfInBounds_toArray, List.set_cons_zero, List.set_cons_succ, i64_w, i32_w]
              rfl
            refine one_ (i := 2) (N := some 42) #[true, true, true, false, false] rfl rfl (by kernel_rfl) (by decide) (fun K hK => ?_)
            refine goes_ Try.func19 (by kernel_rfl) rfl #[.agg #[.int .i64 a1_0, .slice A1_1 l1_1.length c1_1, .slice A1_2 l1_2.length c1_2, .slice A1_3 l1_3.length c1_3, .slice A1_4 l1_4.length c1_4, .slice A1_5 l1_5.length c1_5, .slice A1_6 l1_6.length c1_6, .slice A1_7 l1_7.length c1_7, .slice A1_8 l1_8.length c1_8]] (by rfl) rfl rfl (by (try simp only [List.map_toArray, List.map_cons, List.map_nil]); first | done | rfl | (simp only [List.length_drop, List.length_take]; rfl)) ?_
            with_reducible refine (laws_toBook.calls k a1_0 _ _ l1_1 _ _ l1_2 _ _ l1_3 _ _ l1_4 _ _ l1_5 _ _ l1_6 _ _ l1_7 _ _ l1_8 t332 t333 t336 t339 t342 t345 t348 t351 t354 _ ?side1 ?side2 ?side3 ?side4 ?side5 ?side6 ?side7 ?side8 ?side9 ?side10 ?side11 ?side12 ?side13 ?side14 ?side15 ?side16 A24.out).mono ?_
            (case side1 => exact Kd.C_below HR1_1.out HB.out)
            (case side2 => exact HC1_1.out)
            (case side3 => exact Kd.C_below HR1_2.out HB.out)
            (case side4 => exact HC1_2.out)
            (case side5 => exact Kd.C_below HR1_3.out HB.out)
            (case side6 => exact HC1_3.out)
            (case side7 => exact Kd.C_below HR1_4.out HB.out)
            (case side8 => exact HC1_4.out)
            (case side9 => exact Kd.C_below HR1_5.out HB.out)
            (case side10 => exact HC1_5.out)
            (case side11 => exact Kd.C_below HR1_6.out HB.out)
            (case side12 => exact HC1_6.out)
            (case side13 => exact Kd.C_below HR1_7.out HB.out)
            (case side14 => exact HC1_7.out)
            (case side15 => exact Kd.C_below HR1_8.out HB.out)
            (case side16 => exact HC1_8.out)
            rintro e w86 ⟨v334, v337, v340, v343, v346, v349, v352, v355, rfl, ho0, ho1, ho2, ho3, ho4, ho5, ho6, ho7, hb⟩
            refine ⟨_, rfl, ?_⟩
            have n0_ := Aside0.mk (Kd.R_mono (Kd.R_told (Kd.R_told (Kd.R_told (Kd.R_told (Kd.R_told (Kd.R_told (Kd.R_told (Kd.R_told (Kd.R_old HO205.out hb) (Kd.R_base ho0)) (Kd.R_base ho1)) (Kd.R_base ho2)) (Kd.R_base ho3)) (Kd.R_base ho4)) (Kd.R_base ho5)) (Kd.R_base ho6)) (Kd.R_base ho7)) (fun _ h_ => h_.1))
            have n1_ := Aside0.mk (Kd.R_mono (Kd.R_told (Kd.R_told (Kd.R_told (Kd.R_told (Kd.R_told (Kd.R_told (Kd.R_told (Kd.R_told (Kd.R_old HO208.out hb) (Kd.R_base ho0)) (Kd.R_base ho1)) (Kd.R_base ho2)) (Kd.R_base ho3)) (Kd.R_base ho4)) (Kd.R_base ho5)) (Kd.R_base ho6)) (Kd.R_base ho7)) (fun _ h_ => h_.1))
            have n2_ := Aside0.mk (Kd.R_mono (Kd.R_told (Kd.R_told (Kd.R_told (Kd.R_told (Kd.R_told (Kd.R_told (Kd.R_told (Kd.R_told (Kd.R_old HO211.out hb) (Kd.R_base ho0)) (Kd.R_base ho1)) (Kd.R_base ho2)) (Kd.R_base ho3)) (Kd.R_base ho4)) (Kd.R_base ho5)) (Kd.R_base ho6)) (Kd.R_base ho7)) (fun _ h_ => h_.1))
            have n3_ := Aside0.mk (Kd.R_mono (Kd.R_told (Kd.R_told (Kd.R_told (Kd.R_told (Kd.R_told (Kd.R_told (Kd.R_told (Kd.R_told (Kd.R_old HO214.out hb) (Kd.R_base ho0)) (Kd.R_base ho1)) (Kd.R_base ho2)) (Kd.R_base ho3)) (Kd.R_base ho4)) (Kd.R_base ho5)) (Kd.R_base ho6)) (Kd.R_base ho7)) (fun _ h_ => h_.1))
            have n4_ := Aside0.mk (Kd.R_mono (Kd.R_told (Kd.R_told (Kd.R_told (Kd.R_told (Kd.R_told (Kd.R_told (Kd.R_told (Kd.R_told (Kd.R_old HO217.out hb) (Kd.R_base ho0)) (Kd.R_base ho1)) (Kd.R_base ho2)) (Kd.R_base ho3)) (Kd.R_base ho4)) (Kd.R_base ho5)) (Kd.R_base ho6)) (Kd.R_base ho7)) (fun _ h_ => h_.1))
            have n5_ := Aside0.mk (Kd.R_mono (Kd.R_told (Kd.R_told (Kd.R_told (Kd.R_told (Kd.R_told (Kd.R_told (Kd.R_told (Kd.R_told (Kd.R_old HO220.out hb) (Kd.R_base ho0)) (Kd.R_base ho1)) (Kd.R_base ho2)) (Kd.R_base ho3)) (Kd.R_base ho4)) (Kd.R_base ho5)) (Kd.R_base ho6)) (Kd.R_base ho7)) (fun _ h_ => h_.1))
            have n6_ := Aside0.mk (Kd.R_mono (Kd.R_told (Kd.R_told (Kd.R_told (Kd.R_told (Kd.R_told (Kd.R_told (Kd.R_told (Kd.R_told (Kd.R_old HO223.out hb) (Kd.R_base ho0)) (Kd.R_base ho1)) (Kd.R_base ho2)) (Kd.R_base ho3)) (Kd.R_base ho4)) (Kd.R_base ho5)) (Kd.R_base ho6)) (Kd.R_base ho7)) (fun _ h_ => h_.1))
            have n7_ := Aside0.mk (Kd.R_mono (Kd.R_told (Kd.R_told (Kd.R_told (Kd.R_told (Kd.R_told (Kd.R_told (Kd.R_told (Kd.R_told (Kd.R_old HO226.out hb) (Kd.R_base ho0)) (Kd.R_base ho1)) (Kd.R_base ho2)) (Kd.R_base ho3)) (Kd.R_base ho4)) (Kd.R_base ho5)) (Kd.R_base ho6)) (Kd.R_base ho7)) (fun _ h_ => h_.1))
            have n8_ := Aside0.mk (Kd.R_mono (Kd.R_told (Kd.R_told (Kd.R_told (Kd.R_told (Kd.R_told (Kd.R_told (Kd.R_told (Kd.R_told (Kd.R_old HO230.out hb) (Kd.R_base ho0)) (Kd.R_base ho1)) (Kd.R_base ho2)) (Kd.R_base ho3)) (Kd.R_base ho4)) (Kd.R_base ho5)) (Kd.R_base ho6)) (Kd.R_base ho7)) (fun _ h_ => h_.1))
            have n9_ := Aside0.mk (Kd.R_mono (Kd.R_told (Kd.R_told (Kd.R_told (Kd.R_told (Kd.R_told (Kd.R_told (Kd.R_told (Kd.R_told (Kd.R_old HO233.out hb) (Kd.R_base ho0)) (Kd.R_base ho1)) (Kd.R_base ho2)) (Kd.R_base ho3)) (Kd.R_base ho4)) (Kd.R_base ho5)) (Kd.R_base ho6)) (Kd.R_base ho7)) (fun _ h_ => h_.1))
            have n10_ := Aside0.mk (Kd.R_mono (Kd.R_told (Kd.R_told (Kd.R_told (Kd.R_told (Kd.R_told (Kd.R_told (Kd.R_told (Kd.R_told (Kd.R_old HO236.out hb) (Kd.R_base ho0)) (Kd.R_base ho1)) (Kd.R_base ho2)) (Kd.R_base ho3)) (Kd.R_base ho4)) (Kd.R_base ho5)) (Kd.R_base ho6)) (Kd.R_base ho7)) (fun _ h_ => h_.1))
            have n11_ := Aside0.mk (Kd.R_mono (Kd.R_told (Kd.R_told (Kd.R_told (Kd.R_told (Kd.R_told (Kd.R_told (Kd.R_told (Kd.R_told (Kd.R_old HO239.out hb) (Kd.R_base ho0)) (Kd.R_base ho1)) (Kd.R_base ho2)) (Kd.R_base ho3)) (Kd.R_base ho4)) (Kd.R_base ho5)) (Kd.R_base ho6)) (Kd.R_base ho7)) (fun _ h_ => h_.1))
            have n12_ := Aside0.mk (Kd.R_mono (Kd.R_told (Kd.R_told (Kd.R_told (Kd.R_told (Kd.R_told (Kd.R_told (Kd.R_told (Kd.R_told (Kd.R_old HO242.out hb) (Kd.R_base ho0)) (Kd.R_base ho1)) (Kd.R_base ho2)) (Kd.R_base ho3)) (Kd.R_base ho4)) (Kd.R_base ho5)) (Kd.R_base ho6)) (Kd.R_base ho7)) (fun _ h_ => h_.1))
            have n13_ := Aside0.mk (Kd.R_mono (Kd.R_told (Kd.R_told (Kd.R_told (Kd.R_told (Kd.R_told (Kd.R_told (Kd.R_told (Kd.R_told (Kd.R_old HO245.out hb) (Kd.R_base ho0)) (Kd.R_base ho1)) (Kd.R_base ho2)) (Kd.R_base ho3)) (Kd.R_base ho4)) (Kd.R_base ho5)) (Kd.R_base ho6)) (Kd.R_base ho7)) (fun _ h_ => h_.1))
            have n14_ := Aside0.mk (Kd.R_mono (Kd.R_told (Kd.R_told (Kd.R_told (Kd.R_told (Kd.R_told (Kd.R_told (Kd.R_told (Kd.R_told (Kd.R_old HO248.out hb) (Kd.R_base ho0)) (Kd.R_base ho1)) (Kd.R_base ho2)) (Kd.R_base ho3)) (Kd.R_base ho4)) (Kd.R_base ho5)) (Kd.R_base ho6)) (Kd.R_base ho7)) (fun _ h_ => h_.1))
            have n15_ := Aside0.mk (Kd.R_mono (Kd.R_told (Kd.R_told (Kd.R_told (Kd.R_told (Kd.R_told (Kd.R_told (Kd.R_told (Kd.R_told (Kd.R_old HO251.out hb) (Kd.R_base ho0)) (Kd.R_base ho1)) (Kd.R_base ho2)) (Kd.R_base ho3)) (Kd.R_base ho4)) (Kd.R_base ho5)) (Kd.R_base ho6)) (Kd.R_base ho7)) (fun _ h_ => h_.1))
            have n16_ := Aside0.mk (Kd.R_mono (Kd.R_told (Kd.R_told (Kd.R_told (Kd.R_told (Kd.R_told (Kd.R_told (Kd.R_told (Kd.R_told (Kd.R_old HO256.out hb) (Kd.R_base ho0)) (Kd.R_base ho1)) (Kd.R_base ho2)) (Kd.R_base ho3)) (Kd.R_base ho4)) (Kd.R_base ho5)) (Kd.R_base ho6)) (Kd.R_base ho7)) (fun _ h_ => h_.1))
            have n17_ := Aside0.mk (Kd.R_mono (Kd.R_told (Kd.R_told (Kd.R_told (Kd.R_told (Kd.R_told (Kd.R_told (Kd.R_told (Kd.R_told (Kd.R_old HO259.out hb) (Kd.R_base ho0)) (Kd.R_base ho1)) (Kd.R_base ho2)) (Kd.R_base ho3)) (Kd.R_base ho4)) (Kd.R_base ho5)) (Kd.R_base ho6)) (Kd.R_base ho7)) (fun _ h_ => h_.1))
            have n18_ := Aside0.mk (Kd.R_mono (Kd.R_told (Kd.R_told (Kd.R_told (Kd.R_told (Kd.R_told (Kd.R_told (Kd.R_told (Kd.R_told (Kd.R_old HO262.out hb) (Kd.R_base ho0)) (Kd.R_base ho1)) (Kd.R_base ho2)) (Kd.R_base ho3)) (Kd.R_base ho4)) (Kd.R_base ho5)) (Kd.R_base ho6)) (Kd.R_base ho7)) (fun _ h_ => h_.1))
            have n19_ := Aside0.mk (Kd.R_mono (Kd.R_told (Kd.R_told (Kd.R_told (Kd.R_told (Kd.R_told (Kd.R_told (Kd.R_told (Kd.R_told (Kd.R_old HO265.out hb) (Kd.R_base ho0)) (Kd.R_base ho1)) (Kd.R_base ho2)) (Kd.R_base ho3)) (Kd.R_base ho4)) (Kd.R_base ho5)) (Kd.R_base ho6)) (Kd.R_base ho7)) (fun _ h_ => h_.1))
            have n20_ := Aside0.mk (Kd.R_mono (Kd.R_told (Kd.R_told (Kd.R_told (Kd.R_told (Kd.R_told (Kd.R_told (Kd.R_told (Kd.R_told (Kd.R_old HO268.out hb) (Kd.R_base ho0)) (Kd.R_base ho1)) (Kd.R_base ho2)) (Kd.R_base ho3)) (Kd.R_base ho4)) (Kd.R_base ho5)) (Kd.R_base ho6)) (Kd.R_base ho7)) (fun _ h_ => h_.1))
            have n21_ := Aside0.mk (Kd.R_mono (Kd.R_told (Kd.R_told (Kd.R_told (Kd.R_told (Kd.R_told (Kd.R_told (Kd.R_told (Kd.R_told (Kd.R_old HO271.out hb) (Kd.R_base ho0)) (Kd.R_base ho1)) (Kd.R_base ho2)) (Kd.R_base ho3)) (Kd.R_base ho4)) (Kd.R_base ho5)) (Kd.R_base ho6)) (Kd.R_base ho7)) (fun _ h_ => h_.1))
            have n22_ := Aside0.mk (Kd.R_mono (Kd.R_told (Kd.R_told (Kd.R_told (Kd.R_told (Kd.R_told (Kd.R_told (Kd.R_told (Kd.R_told (Kd.R_old HO274.out hb) (Kd.R_base ho0)) (Kd.R_base ho1)) (Kd.R_base ho2)) (Kd.R_base ho3)) (Kd.R_base ho4)) (Kd.R_base ho5)) (Kd.R_base ho6)) (Kd.R_base ho7)) (fun _ h_ => h_.1))
            have n23_ := Aside0.mk (Kd.R_mono (Kd.R_told (Kd.R_told (Kd.R_told (Kd.R_told (Kd.R_told (Kd.R_told (Kd.R_told (Kd.R_told (Kd.R_old HO277.out hb) (Kd.R_base ho0)) (Kd.R_base ho1)) (Kd.R_base ho2)) (Kd.R_base ho3)) (Kd.R_base ho4)) (Kd.R_base ho5)) (Kd.R_base ho6)) (Kd.R_base ho7)) (fun _ h_ => h_.1))
            have n24_ := Aside0.mk (Kd.R_mono (Kd.R_told (Kd.R_told (Kd.R_told (Kd.R_told (Kd.R_told (Kd.R_told (Kd.R_told (Kd.R_told (Kd.R_old HO282.out hb) (Kd.R_base ho0)) (Kd.R_base ho1)) (Kd.R_base ho2)) (Kd.R_base ho3)) (Kd.R_base ho4)) (Kd.R_base ho5)) (Kd.R_base ho6)) (Kd.R_base ho7)) (fun _ h_ => h_.1))
            have n25_ := Aside0.mk (Kd.R_mono (Kd.R_told (Kd.R_told (Kd.R_told (Kd.R_told (Kd.R_told (Kd.R_told (Kd.R_told (Kd.R_told (Kd.R_old HO285.out hb) (Kd.R_base ho0)) (Kd.R_base ho1)) (Kd.R_base ho2)) (Kd.R_base ho3)) (Kd.R_base ho4)) (Kd.R_base ho5)) (Kd.R_base ho6)) (Kd.R_base ho7)) (fun _ h_ => h_.1))
            have n26_ := Aside0.mk (Kd.R_mono (Kd.R_told (Kd.R_told (Kd.R_told (Kd.R_told (Kd.R_told (Kd.R_told (Kd.R_told (Kd.R_told (Kd.R_old HO288.out hb) (Kd.R_base ho0)) (Kd.R_base ho1)) (Kd.R_base ho2)) (Kd.R_base ho3)) (Kd.R_base ho4)) (Kd.R_base ho5)) (Kd.R_base ho6)) (Kd.R_base ho7)) (fun _ h_ => h_.1))
            have n27_ := Aside0.mk (Kd.R_mono (Kd.R_told (Kd.R_told (Kd.R_told (Kd.R_told (Kd.R_told (Kd.R_told (Kd.R_told (Kd.R_told (Kd.R_old HO291.out hb) (Kd.R_base ho0)) (Kd.R_base ho1)) (Kd.R_base ho2)) (Kd.R_base ho3)) (Kd.R_base ho4)) (Kd.R_base ho5)) (Kd.R_base ho6)) (Kd.R_base ho7)) (fun _ h_ => h_.1))
            have n28_ := Aside0.mk (Kd.R_mono (Kd.R_told (Kd.R_told (Kd.R_told (Kd.R_told (Kd.R_told (Kd.R_told (Kd.R_told (Kd.R_told (Kd.R_old HO294.out hb) (Kd.R_base ho0)) (Kd.R_base ho1)) (Kd.R_base ho2)) (Kd.R_base ho3)) (Kd.R_base ho4)) (Kd.R_base ho5)) (Kd.R_base ho6)) (Kd.R_base ho7)) (fun _ h_ => h_.1))
            have n29_ := Aside0.mk (Kd.R_mono (Kd.R_told (Kd.R_told (Kd.R_told (Kd.R_told (Kd.R_told (Kd.R_told (Kd.R_told (Kd.R_told (Kd.R_old HO297.out hb) (Kd.R_base ho0)) (Kd.R_base ho1)) (Kd.R_base ho2)) (Kd.R_base ho3)) (Kd.R_base ho4)) (Kd.R_base ho5)) (Kd.R_base ho6)) (Kd.R_base ho7)) (fun _ h_ => h_.1))
            have n30_ := Aside0.mk (Kd.R_mono (Kd.R_told (Kd.R_told (Kd.R_told (Kd.R_told (Kd.R_told (Kd.R_told (Kd.R_told (Kd.R_told (Kd.R_old HO300.out hb) (Kd.R_base ho0)) (Kd.R_base ho1)) (Kd.R_base ho2)) (Kd.R_base ho3)) (Kd.R_base ho4)) (Kd.R_base ho5)) (Kd.R_base ho6)) (Kd.R_base ho7)) (fun _ h_ => h_.1))
            have n31_ := Aside0.mk (Kd.R_mono (Kd.R_told (Kd.R_told (Kd.R_told (Kd.R_told (Kd.R_told (Kd.R_told (Kd.R_told (Kd.R_told (Kd.R_old HO303.out hb) (Kd.R_base ho0)) (Kd.R_base ho1)) (Kd.R_base ho2)) (Kd.R_base ho3)) (Kd.R_base ho4)) (Kd.R_base ho5)) (Kd.R_base ho6)) (Kd.R_base ho7)) (fun _ h_ => h_.1))
            have n32_ := Aside0.mk (Kd.R_mono (Kd.R_told (Kd.R_told (Kd.R_told (Kd.R_told (Kd.R_told (Kd.R_told (Kd.R_told (Kd.R_told (Kd.R_old HO309.out hb) (Kd.R_base ho0)) (Kd.R_base ho1)) (Kd.R_base ho2)) (Kd.R_base ho3)) (Kd.R_base ho4)) (Kd.R_base ho5)) (Kd.R_base ho6)) (Kd.R_base ho7)) (fun _ h_ => h_.1))
            have n33_ := Aside0.mk (Kd.R_mono (Kd.R_told (Kd.R_told (Kd.R_told (Kd.R_told (Kd.R_told (Kd.R_told (Kd.R_told (Kd.R_told (Kd.R_old HO312.out hb) (Kd.R_base ho0)) (Kd.R_base ho1)) (Kd.R_base ho2)) (Kd.R_base ho3)) (Kd.R_base ho4)) (Kd.R_base ho5)) (Kd.R_base ho6)) (Kd.R_base ho7)) (fun _ h_ => h_.1))
            have n34_ := Aside0.mk (Kd.R_mono (Kd.R_told (Kd.R_told (Kd.R_told (Kd.R_told (Kd.R_told (Kd.R_told (Kd.R_told (Kd.R_told (Kd.R_old HO315.out hb) (Kd.R_base ho0)) (Kd.R_base ho1)) (Kd.R_base ho2)) (Kd.R_base ho3)) (Kd.R_base ho4)) (Kd.R_base ho5)) (Kd.R_base ho6)) (Kd.R_base ho7)) (fun _ h_ => h_.1))
            have n35_ := Aside0.mk (Kd.R_mono (Kd.R_told (Kd.R_told (Kd.R_told (Kd.R_told (Kd.R_told (Kd.R_told (Kd.R_told (Kd.R_told (Kd.R_old HO318.out hb) (Kd.R_base ho0)) (Kd.R_base ho1)) (Kd.R_base ho2)) (Kd.R_base ho3)) (Kd.R_base ho4)) (Kd.R_base ho5)) (Kd.R_base ho6)) (Kd.R_base ho7)) (fun _ h_ => h_.1))
            have n36_ := Aside0.mk (Kd.R_mono (Kd.R_told (Kd.R_told (Kd.R_told (Kd.R_told (Kd.R_told (Kd.R_told (Kd.R_told (Kd.R_told (Kd.R_old HO321.out hb) (Kd.R_base ho0)) (Kd.R_base ho1)) (Kd.R_base ho2)) (Kd.R_base ho3)) (Kd.R_base ho4)) (Kd.R_base ho5)) (Kd.R_base ho6)) (Kd.R_base ho7)) (fun _ h_ => h_.1))
            have n37_ := Aside0.mk (Kd.R_mono (Kd.R_told (Kd.R_told (Kd.R_told (Kd.R_told (Kd.R_told (Kd.R_told (Kd.R_told (Kd.R_told (Kd.R_old HO324.out hb) (Kd.R_base ho0)) (Kd.R_base ho1)) (Kd.R_base ho2)) (Kd.R_base ho3)) (Kd.R_base ho4)) (Kd.R_base ho5)) (Kd.R_base ho6)) (Kd.R_base ho7)) (fun _ h_ => h_.1))
            have n38_ := Aside0.mk (Kd.R_mono (Kd.R_told (Kd.R_told (Kd.R_told (Kd.R_told (Kd.R_told (Kd.R_told (Kd.R_told (Kd.R_told (Kd.R_old HO327.out hb) (Kd.R_base ho0)) (Kd.R_base ho1)) (Kd.R_base ho2)) (Kd.R_base ho3)) (Kd.R_base ho4)) (Kd.R_base ho5)) (Kd.R_base ho6)) (Kd.R_base ho7)) (fun _ h_ => h_.1))
            have n39_ := Aside0.mk (Kd.R_mono (Kd.R_told (Kd.R_told (Kd.R_told (Kd.R_told (Kd.R_told (Kd.R_told (Kd.R_told (Kd.R_told (Kd.R_old HO330.out hb) (Kd.R_base ho0)) (Kd.R_base ho1)) (Kd.R_base ho2)) (Kd.R_base ho3)) (Kd.R_base ho4)) (Kd.R_base ho5)) (Kd.R_base ho6)) (Kd.R_base ho7)) (fun _ h_ => h_.1))
            have n40_ := Aside0.mk (Kd.R_lower (Kd.R_new' (Kd.R_new' (Kd.R_new' (Kd.R_new' (Kd.R_new' (Kd.R_new' (Kd.R_new' (Kd.R_new' (Kd.R_new' (Kd.R_new' (Kd.R_new' (Kd.R_new' (Kd.R_new' (Kd.R_new' (Kd.R_new' (Kd.R_new' (Kd.R_new' (Kd.R_new' (Kd.R_new' (Kd.R_new' (Kd.R_new' (Kd.R_new' (Kd.R_new' (Kd.R_new' (Kd.R_new' (Kd.R_new' (Kd.R_new' (Kd.R_new' (Kd.R_new' (Kd.R_new' (Kd.R_new' (Kd.R_new' (Kd.R_new' (Kd.R_new' (Kd.R_new' (Kd.R_new' (Kd.R_new' (Kd.R_new' (Kd.R_new' (Kd.R_new' ho0 (Kd.R_lt HO205.out)) (Kd.R_lt HO208.out)) (Kd.R_lt HO211.out)) (Kd.R_lt HO214.out)) (Kd.R_lt HO217.out)) (Kd.R_lt HO220.out)) (Kd.R_lt HO223.out)) (Kd.R_lt HO226.out)) (Kd.R_lt HO230.out)) (Kd.R_lt HO233.out)) (Kd.R_lt HO236.out)) (Kd.R_lt HO239.out)) (Kd.R_lt HO242.out)) (Kd.R_lt HO245.out)) (Kd.R_lt HO248.out)) (Kd.R_lt HO251.out)) (Kd.R_lt HO256.out)) (Kd.R_lt HO259.out)) (Kd.R_lt HO262.out)) (Kd.R_lt HO265.out)) (Kd.R_lt HO268.out)) (Kd.R_lt HO271.out)) (Kd.R_lt HO274.out)) (Kd.R_lt HO277.out)) (Kd.R_lt HO282.out)) (Kd.R_lt HO285.out)) (Kd.R_lt HO288.out)) (Kd.R_lt HO291.out)) (Kd.R_lt HO294.out)) (Kd.R_lt HO297.out)) (Kd.R_lt HO300.out)) (Kd.R_lt HO303.out)) (Kd.R_lt HO309.out)) (Kd.R_lt HO312.out)) (Kd.R_lt HO315.out)) (Kd.R_lt HO318.out)) (Kd.R_lt HO321.out)) (Kd.R_lt HO324.out)) (Kd.R_lt HO327.out)) (Kd.R_lt HO330.out)) (below_size HB.out))
            have n41_ := Aside0.mk (Kd.R_lower (Kd.R_new' (Kd.R_new' (Kd.R_new' (Kd.R_new' (Kd.R_new' (Kd.R_new' (Kd.R_new' (Kd.R_new' (Kd.R_new' (Kd.R_new' (Kd.R_new' (Kd.R_new' (Kd.R_new' (Kd.R_new' (Kd.R_new' (Kd.R_new' (Kd.R_new' (Kd.R_new' (Kd.R_new' (Kd.R_new' (Kd.R_new' (Kd.R_new' (Kd.R_new' (Kd.R_new' (Kd.R_new' (Kd.R_new' (Kd.R_new' (Kd.R_new' (Kd.R_new' (Kd.R_new' (Kd.R_new' (Kd.R_new' (Kd.R_new' (Kd.R_new' (Kd.R_new' (Kd.R_new' (Kd.R_new' (Kd.R_new' (Kd.R_new' (Kd.R_new' ho1 (Kd.R_lt HO205.out)) (Kd.R_lt HO208.out)) (Kd.R_lt HO211.out)) (Kd.R_lt HO214.out)) (Kd.R_lt HO217.out)) (Kd.R_lt HO220.out)) (Kd.R_lt HO223.out)) (Kd.R_lt HO226.out)) (Kd.R_lt HO230.out)) (Kd.R_lt HO233.out)) (Kd.R_lt HO236.out)) (Kd.R_lt HO239.out)) (Kd.R_lt HO242.out)) (Kd.R_lt HO245.out)) (Kd.R_lt HO248.out)) (Kd.R_lt HO251.out)) (Kd.R_lt HO256.out)) (Kd.R_lt HO259.out)) (Kd.R_lt HO262.out)) (Kd.R_lt HO265.out)) (Kd.R_lt HO268.out)) (Kd.R_lt HO271.out)) (Kd.R_lt HO274.out)) (Kd.R_lt HO277.out)) (Kd.R_lt HO282.out)) (Kd.R_lt HO285.out)) (Kd.R_lt HO288.out)) (Kd.R_lt HO291.out)) (Kd.R_lt HO294.out)) (Kd.R_lt HO297.out)) (Kd.R_lt HO300.out)) (Kd.R_lt HO303.out)) (Kd.R_lt HO309.out)) (Kd.R_lt HO312.out)) (Kd.R_lt HO315.out)) (Kd.R_lt HO318.out)) (Kd.R_lt HO321.out)) (Kd.R_lt HO324.out)) (Kd.R_lt HO327.out)) (Kd.R_lt HO330.out)) (below_size HB.out))
            have n42_ := Aside0.mk (Kd.R_lower (Kd.R_new' (Kd.R_new' (Kd.R_new' (Kd.R_new' (Kd.R_new' (Kd.R_new' (Kd.R_new' (Kd.R_new' (Kd.R_new' (Kd.R_new' (Kd.R_new' (Kd.R_new' (Kd.R_new' (Kd.R_new' (Kd.R_new' (Kd.R_new' (Kd.R_new' (Kd.R_new' (Kd.R_new' (Kd.R_new' (Kd.R_new' (Kd.R_new' (Kd.R_new' (Kd.R_new' (Kd.R_new' (Kd.R_new' (Kd.R_new' (Kd.R_new' (Kd.R_new' (Kd.R_new' (Kd.R_new' (Kd.R_new' (Kd.R_new' (Kd.R_new' (Kd.R_new' (Kd.R_new' (Kd.R_new' (Kd.R_new' (Kd.R_new' (Kd.R_new' ho2 (Kd.R_lt HO205.out)) (Kd.R_lt HO208.out)) (Kd.R_lt HO211.out)) (Kd.R_lt HO214.out)) (Kd.R_lt HO217.out)) (Kd.R_lt HO220.out)) (Kd.R_lt HO223.out)) (Kd.R_lt HO226.out)) (Kd.R_lt HO230.out)) (Kd.R_lt HO233.out)) (Kd.R_lt HO236.out)) (Kd.R_lt HO239.out)) (Kd.R_lt HO242.out)) (Kd.R_lt HO245.out)) (Kd.R_lt HO248.out)) (Kd.R_lt HO251.out)) (Kd.R_lt HO256.out)) (Kd.R_lt HO259.out)) (Kd.R_lt HO262.out)) (Kd.R_lt HO265.out)) (Kd.R_lt HO268.out)) (Kd.R_lt HO271.out)) (Kd.R_lt HO274.out)) (Kd.R_lt HO277.out)) (Kd.R_lt HO282.out)) (Kd.R_lt HO285.out)) (Kd.R_lt HO288.out)) (Kd.R_lt HO291.out)) (Kd.R_lt HO294.out)) (Kd.R_lt HO297.out)) (Kd.R_lt HO300.out)) (Kd.R_lt HO303.out)) (Kd.R_lt HO309.out)) (Kd.R_lt HO312.out)) (Kd.R_lt HO315.out)) (Kd.R_lt HO318.out)) (Kd.R_lt HO321.out)) (Kd.R_lt HO324.out)) (Kd.R_lt HO327.out)) (Kd.R_lt HO330.out)) (below_size HB.out))
            have n43_ := Aside0.mk (Kd.R_lower (Kd.R_new' (Kd.R_new' (Kd.R_new' (Kd.R_new' (Kd.R_new' (Kd.R_new' (Kd.R_new' (Kd.R_new' (Kd.R_new' (Kd.R_new' (Kd.R_new' (Kd.R_new' (Kd.R_new' (Kd.R_new' (Kd.R_new' (Kd.R_new' (Kd.R_new' (Kd.R_new' (Kd.R_new' (Kd.R_new' (Kd.R_new' (Kd.R_new' (Kd.R_new' (Kd.R_new' (Kd.R_new' (Kd.R_new' (Kd.R_new' (Kd.R_new' (Kd.R_new' (Kd.R_new' (Kd.R_new' (Kd.R_new' (Kd.R_new' (Kd.R_new' (Kd.R_new' (Kd.R_new' (Kd.R_new' (Kd.R_new' (Kd.R_new' (Kd.R_new' ho3 (Kd.R_lt HO205.out)) (Kd.R_lt HO208.out)) (Kd.R_lt HO211.out)) (Kd.R_lt HO214.out)) (Kd.R_lt HO217.out)) (Kd.R_lt HO220.out)) (Kd.R_lt HO223.out)) (Kd.R_lt HO226.out)) (Kd.R_lt HO230.out)) (Kd.R_lt HO233.out)) (Kd.R_lt HO236.out)) (Kd.R_lt HO239.out)) (Kd.R_lt HO242.out)) (Kd.R_lt HO245.out)) (Kd.R_lt HO248.out)) (Kd.R_lt HO251.out)) (Kd.R_lt HO256.out)) (Kd.R_lt HO259.out)) (Kd.R_lt HO262.out)) (Kd.R_lt HO265.out)) (Kd.R_lt HO268.out)) (Kd.R_lt HO271.out)) (Kd.R_lt HO274.out)) (Kd.R_lt HO277.out)) (Kd.R_lt HO282.out)) (Kd.R_lt HO285.out)) (Kd.R_lt HO288.out)) (Kd.R_lt HO291.out)) (Kd.R_lt HO294.out)) (Kd.R_lt HO297.out)) (Kd.R_lt HO300.out)) (Kd.R_lt HO303.out)) (Kd.R_lt HO309.out)) (Kd.R_lt HO312.out)) (Kd.R_lt HO315.out)) (Kd.R_lt HO318.out)) (Kd.R_lt HO321.out)) (Kd.R_lt HO324.out)) (Kd.R_lt HO327.out)) (Kd.R_lt HO330.out)) (below_size HB.out))
            have n44_ := Aside0.mk (Kd.R_lower (Kd.R_new' (Kd.R_new' (Kd.R_new' (Kd.R_new' (Kd.R_new' (Kd.R_new' (Kd.R_new' (Kd.R_new' (Kd.R_new' (Kd.R_new' (Kd.R_new' (Kd.R_new' (Kd.R_new' (Kd.R_new' (Kd.R_new' (Kd.R_new' (Kd.R_new' (Kd.R_new' (Kd.R_new' (Kd.R_new' (Kd.R_new' (Kd.R_new' (Kd.R_new' (Kd.R_new' (Kd.R_new' (Kd.R_new' (Kd.R_new' (Kd.R_new' (Kd.R_new' (Kd.R_new' (Kd.R_new' (Kd.R_new' (Kd.R_new' (Kd.R_new' (Kd.R_new' (Kd.R_new' (Kd.R_new' (Kd.R_new' (Kd.R_new' (Kd.R_new' ho4 (Kd.R_lt HO205.out)) (Kd.R_lt HO208.out)) (Kd.R_lt HO211.out)) (Kd.R_lt HO214.out)) (Kd.R_lt HO217.out)) (Kd.R_lt HO220.out)) (Kd.R_lt HO223.out)) (Kd.R_lt HO226.out)) (Kd.R_lt HO230.out)) (Kd.R_lt HO233.out)) (Kd.R_lt HO236.out)) (Kd.R_lt HO239.out)) (Kd.R_lt HO242.out)) (Kd.R_lt HO245.out)) (Kd.R_lt HO248.out)) (Kd.R_lt HO251.out)) (Kd.R_lt HO256.out)) (Kd.R_lt HO259.out)) (Kd.R_lt HO262.out)) (Kd.R_lt HO265.out)) (Kd.R_lt HO268.out)) (Kd.R_lt HO271.out)) (Kd.R_lt HO274.out)) (Kd.R_lt HO277.out)) (Kd.R_lt HO282.out)) (Kd.R_lt HO285.out)) (Kd.R_lt HO288.out)) (Kd.R_lt HO291.out)) (Kd.R_lt HO294.out)) (Kd.R_lt HO297.out)) (Kd.R_lt HO300.out)) (Kd.R_lt HO303.out)) (Kd.R_lt HO309.out)) (Kd.R_lt HO312.out)) (Kd.R_lt HO315.out)) (Kd.R_lt HO318.out)) (Kd.R_lt HO321.out)) (Kd.R_lt HO324.out)) (Kd.R_lt HO327.out)) (Kd.R_lt HO330.out)) (below_size HB.out))
            have n45_ := Aside0.mk (Kd.R_lower (Kd.R_new' (Kd.R_new' (Kd.R_new' (Kd.R_new' (Kd.R_new' (Kd.R_new' (Kd.R_new' (Kd.R_new' (Kd.R_new' (Kd.R_new' (Kd.R_new' (Kd.R_new' (Kd.R_new' (Kd.R_new' (Kd.R_new' (Kd.R_new' (Kd.R_new' (Kd.R_new' (Kd.R_new' (Kd.R_new' (Kd.R_new' (Kd.R_new' (Kd.R_new' (Kd.R_new' (Kd.R_new' (Kd.R_new' (Kd.R_new' (Kd.R_new' (Kd.R_new' (Kd.R_new' (Kd.R_new' (Kd.R_new' (Kd.R_new' (Kd.R_new' (Kd.R_new' (Kd.R_new' (Kd.R_new' (Kd.R_new' (Kd.R_new' (Kd.R_new' ho5 (Kd.R_lt HO205.out)) (Kd.R_lt HO208.out)) (Kd.R_lt HO211.out)) (Kd.R_lt HO214.out)) (Kd.R_lt HO217.out)) (Kd.R_lt HO220.out)) (Kd.R_lt HO223.out)) (Kd.R_lt HO226.out)) (Kd.R_lt HO230.out)) (Kd.R_lt HO233.out)) (Kd.R_lt HO236.out)) (Kd.R_lt HO239.out)) (Kd.R_lt HO242.out)) (Kd.R_lt HO245.out)) (Kd.R_lt HO248.out)) (Kd.R_lt HO251.out)) (Kd.R_lt HO256.out)) (Kd.R_lt HO259.out)) (Kd.R_lt HO262.out)) (Kd.R_lt HO265.out)) (Kd.R_lt HO268.out)) (Kd.R_lt HO271.out)) (Kd.R_lt HO274.out)) (Kd.R_lt HO277.out)) (Kd.R_lt HO282.out)) (Kd.R_lt HO285.out)) (Kd.R_lt HO288.out)) (Kd.R_lt HO291.out)) (Kd.R_lt HO294.out)) (Kd.R_lt HO297.out)) (Kd.R_lt HO300.out)) (Kd.R_lt HO303.out)) (Kd.R_lt HO309.out)) (Kd.R_lt HO312.out)) (Kd.R_lt HO315.out)) (Kd.R_lt HO318.out)) (Kd.R_lt HO321.out)) (Kd.R_lt HO324.out)) (Kd.R_lt HO327.out)) (Kd.R_lt HO330.out)) (below_size HB.out))
            have n46_ := Aside0.mk (Kd.R_lower (Kd.R_new' (Kd.R_new' (Kd.R_new' (Kd.R_new' (Kd.R_new' (Kd.R_new' (Kd.R_new' (Kd.R_new' (Kd.R_new' (Kd.R_new' (Kd.R_new' (Kd.R_new' (Kd.R_new' (Kd.R_new' (Kd.R_new' (Kd.R_new' (Kd.R_new' (Kd.R_new' (Kd.R_new' (Kd.R_new' (Kd.R_new' (Kd.R_new' (Kd.R_new' (Kd.R_new' (Kd.R_new' (Kd.R_new' (Kd.R_new' (Kd.R_new' (Kd.R_new' (Kd.R_new' (Kd.R_new' (Kd.R_new' (Kd.R_new' (Kd.R_new' (Kd.R_new' (Kd.R_new' (Kd.R_new' (Kd.R_new' (Kd.R_new' (Kd.R_new' ho6 (Kd.R_lt HO205.out)) (Kd.R_lt HO208.out)) (Kd.R_lt HO211.out)) (Kd.R_lt HO214.out)) (Kd.R_lt HO217.out)) (Kd.R_lt HO220.out)) (Kd.R_lt HO223.out)) (Kd.R_lt HO226.out)) (Kd.R_lt HO230.out)) (Kd.R_lt HO233.out)) (Kd.R_lt HO236.out)) (Kd.R_lt HO239.out)) (Kd.R_lt HO242.out)) (Kd.R_lt HO245.out)) (Kd.R_lt HO248.out)) (Kd.R_lt HO251.out)) (Kd.R_lt HO256.out)) (Kd.R_lt HO259.out)) (Kd.R_lt HO262.out)) (Kd.R_lt HO265.out)) (Kd.R_lt HO268.out)) (Kd.R_lt HO271.out)) (Kd.R_lt HO274.out)) (Kd.R_lt HO277.out)) (Kd.R_lt HO282.out)) (Kd.R_lt HO285.out)) (Kd.R_lt HO288.out)) (Kd.R_lt HO291.out)) (Kd.R_lt HO294.out)) (Kd.R_lt HO297.out)) (Kd.R_lt HO300.out)) (Kd.R_lt HO303.out)) (Kd.R_lt HO309.out)) (Kd.R_lt HO312.out)) (Kd.R_lt HO315.out)) (Kd.R_lt HO318.out)) (Kd.R_lt HO321.out)) (Kd.R_lt HO324.out)) (Kd.R_lt HO327.out)) (Kd.R_lt HO330.out)) (below_size HB.out))
            have n47_ := Aside0.mk (Kd.R_lower (Kd.R_new' (Kd.R_new' (Kd.R_new' (Kd.R_new' (Kd.R_new' (Kd.R_new' (Kd.R_new' (Kd.R_new' (Kd.R_new' (Kd.R_new' (Kd.R_new' (Kd.R_new' (Kd.R_new' (Kd.R_new' (Kd.R_new' (Kd.R_new' (Kd.R_new' (Kd.R_new' (Kd.R_new' (Kd.R_new' (Kd.R_new' (Kd.R_new' (Kd.R_new' (Kd.R_new' (Kd.R_new' (Kd.R_new' (Kd.R_new' (Kd.R_new' (Kd.R_new' (Kd.R_new' (Kd.R_new' (Kd.R_new' (Kd.R_new' (Kd.R_new' (Kd.R_new' (Kd.R_new' (Kd.R_new' (Kd.R_new' (Kd.R_new' (Kd.R_new' ho7 (Kd.R_lt HO205.out)) (Kd.R_lt HO208.out)) (Kd.R_lt HO211.out)) (Kd.R_lt HO214.out)) (Kd.R_lt HO217.out)) (Kd.R_lt HO220.out)) (Kd.R_lt HO223.out)) (Kd.R_lt HO226.out)) (Kd.R_lt HO230.out)) (Kd.R_lt HO233.out)) (Kd.R_lt HO236.out)) (Kd.R_lt HO239.out)) (Kd.R_lt HO242.out)) (Kd.R_lt HO245.out)) (Kd.R_lt HO248.out)) (Kd.R_lt HO251.out)) (Kd.R_lt HO256.out)) (Kd.R_lt HO259.out)) (Kd.R_lt HO262.out)) (Kd.R_lt HO265.out)) (Kd.R_lt HO268.out)) (Kd.R_lt HO271.out)) (Kd.R_lt HO274.out)) (Kd.R_lt HO277.out)) (Kd.R_lt HO282.out)) (Kd.R_lt HO285.out)) (Kd.R_lt HO288.out)) (Kd.R_lt HO291.out)) (Kd.R_lt HO294.out)) (Kd.R_lt HO297.out)) (Kd.R_lt HO300.out)) (Kd.R_lt HO303.out)) (Kd.R_lt HO309.out)) (Kd.R_lt HO312.out)) (Kd.R_lt HO315.out)) (Kd.R_lt HO318.out)) (Kd.R_lt HO321.out)) (Kd.R_lt HO324.out)) (Kd.R_lt HO327.out)) (Kd.R_lt HO330.out)) (below_size HB.out))
            have n48_ := Aside0.mk (blk_below BK198.out hb)
            have n49_ := Aside0.mk (blk_below BK199.out hb)
            have n50_ := Aside0.mk (blk_below BK278.out hb)
            have n51_ := Aside0.mk (blk_below BK304.out hb)
            have n52_ := Aside0.mk (below_step HB.out hb)
            clear HO205
            clear HO208
            clear HO211
            clear HO214
            clear HO217
            clear HO220
            clear HO223
            clear HO226
            clear HO230
            clear HO233
            clear HO236
            clear HO239
            clear HO242
            clear HO245
            clear HO248
            clear HO251
            clear HO256
            clear HO259
            clear HO262
            clear HO265
            clear HO268
            clear HO271
            clear HO274
            clear HO277
            clear HO282
            clear HO285
            clear HO288
            clear HO291
            clear HO294
            clear HO297
            clear HO300
            clear HO303
            clear HO309
            clear HO312
            clear HO315
            clear HO318
            clear HO321
            clear HO324
            clear HO327
            clear HO330
            clear BK198
            clear BK199
            clear BK278
            clear BK304
            clear HB
            have HO205 := n0_
            have HO208 := n1_
            have HO211 := n2_
            have HO214 := n3_
            have HO217 := n4_
            have HO220 := n5_
            have HO223 := n6_
            have HO226 := n7_
            have HO230 := n8_
            have HO233 := n9_
            have HO236 := n10_
            have HO239 := n11_
            have HO242 := n12_
            have HO245 := n13_
            have HO248 := n14_
            have HO251 := n15_
            have HO256 := n16_
            have HO259 := n17_
            have HO262 := n18_
            have HO265 := n19_
            have HO268 := n20_
            have HO271 := n21_
            have HO274 := n22_
            have HO277 := n23_
            have HO282 := n24_
            have HO285 := n25_
            have HO288 := n26_
            have HO291 := n27_
            have HO294 := n28_
            have HO297 := n29_
            have HO300 := n30_
            have HO303 := n31_
            have HO309 := n32_
            have HO312 := n33_
            have HO315 := n34_
            have HO318 := n35_
            have HO321 := n36_
            have HO324 := n37_
            have HO327 := n38_
            have HO330 := n39_
            have HO335 := n40_
            have HO338 := n41_
            have HO341 := n42_
            have HO344 := n43_
            have HO347 := n44_
            have HO350 := n45_
            have HO353 := n46_
            have HO356 := n47_
            have BK198 := n48_
            have BK199 := n49_
            have BK278 := n50_
            have BK304 := n51_
            have HB := n52_
            clear n0_ n1_ n2_ n3_ n4_ n5_ n6_ n7_ n8_ n9_ n10_ n11_ n12_ n13_ n14_ n15_ n16_ n17_ n18_ n19_ n20_ n21_ n22_ n23_ n24_ n25_ n26_ n27_ n28_ n29_ n30_ n31_ n32_ n33_ n34_ n35_ n36_ n37_ n38_ n39_ n40_ n41_ n42_ n43_ n44_ n45_ n46_ n47_ n48_ n49_ n50_ n51_ n52_
            (try clear hb)
            (try clear hb2)
            (try clear hk)
            (try clear hi)
            (try clear ho0)
            (try clear ho1)
            (try clear ho2)
            (try clear ho3)
            (try clear ho4)
            (try clear ho5)
            (try clear ho6)
            (try clear ho7)
            obtain ⟨Ao87, co87, eo87⟩ := Kd.R_slice HO335.out
            (first | subst eo87 | (injection eo87 with f1_ f2_ f3_; have f4_ := f1_.symm; have f5_ := f3_.symm; clear f1_ f2_ f3_; subst f4_; subst f5_))
            obtain ⟨Ao88, co88, eo88⟩ := Kd.R_slice HO338.out
            (first | subst eo88 | (injection eo88 with f1_ f2_ f3_; have f4_ := f1_.symm; have f5_ := f3_.symm; clear f1_ f2_ f3_; subst f4_; subst f5_))
            obtain ⟨Ao89, co89, eo89⟩ := Kd.R_slice HO341.out
            (first | subst eo89 | (injection eo89 with f1_ f2_ f3_; have f4_ := f1_.symm; have f5_ := f3_.symm; clear f1_ f2_ f3_; subst f4_; subst f5_))
            obtain ⟨Ao90, co90, eo90⟩ := Kd.R_slice HO344.out
            (first | subst eo90 | (injection eo90 with f1_ f2_ f3_; have f4_ := f1_.symm; have f5_ := f3_.symm; clear f1_ f2_ f3_; subst f4_; subst f5_))
            obtain ⟨Ao91, co91, eo91⟩ := Kd.R_slice HO347.out
            (first | subst eo91 | (injection eo91 with f1_ f2_ f3_; have f4_ := f1_.symm; have f5_ := f3_.symm; clear f1_ f2_ f3_; subst f4_; subst f5_))
            obtain ⟨Ao92, co92, eo92⟩ := Kd.R_slice HO350.out
            (first | subst eo92 | (injection eo92 with f1_ f2_ f3_; have f4_ := f1_.symm; have f5_ := f3_.symm; clear f1_ f2_ f3_; subst f4_; subst f5_))
            obtain ⟨Ao93, co93, eo93⟩ := Kd.R_slice HO353.out
            (first | subst eo93 | (injection eo93 with f1_ f2_ f3_; have f4_ := f1_.symm; have f5_ := f3_.symm; clear f1_ f2_ f3_; subst f4_; subst f5_))
            obtain ⟨Ao94, co94, eo94⟩ := Kd.R_slice HO356.out
            (first | subst eo94 | (injection eo94 with f1_ f2_ f3_; have f4_ := f1_.symm; have f5_ := f3_.symm; clear f1_ f2_ f3_; subst f4_; subst f5_))
            refine hK.out _ _ ⟨(blk_cell BK304.out 0).trans rfl, (blk_cell BK304.out 1).trans rfl, (blk_cell BK304.out 2).trans rfl, (blk_cell BK304.out 3).trans rfl, (blk_cell BK304.out 4).trans rfl, (blk_cell BK304.out 5).trans rfl, (blk_cell BK304.out 6).trans rfl, (blk_cell BK304.out 7).trans rfl, (blk_cell BK304.out 8).trans rfl, (blk_cell BK199.out 0).trans rfl, (blk_cell BK199.out 1).trans rfl, (blk_cell BK199.out 2).trans rfl, (blk_cell BK199.out 3).trans rfl, (blk_cell BK199.out 4).trans rfl, (blk_cell BK199.out 5).trans rfl, (blk_cell BK199.out 6).trans rfl, (blk_cell BK199.out 7).trans rfl, (blk_cell BK199.out 8).trans rfl⟩ (fun hHeld => ?_)
            clear hK K
            refine norm_ (a' := ?_) ?_ ?_
            rotate_left
            · show Act.put _ (some 42) _ = _
              simp only [Act.put, List.setIfInBounds_toArray, List.set_cons_zero, List.set_cons_succ, i64_w, i32_w]
              rfl
            refine one_ (i := 3) (N := some 43) #[true, true, true, true, false] rfl rfl (by kernel_rfl) (by decide) (fun K hK => ?_)
            refine goes_ Try.func14 (by kernel_rfl) rfl #[.agg #[.int .i64 t279, .slice Ao64 t280.length co64, .slice Ao65 t283.length co65, .slice Ao66 t286.length co66, .slice Ao67 t289.length co67, .slice Ao68 t292.length co68, .slice Ao69 t295.length co69, .slice Ao70 t298.length co70, .slice Ao71 t301.length co71], .agg #[.int .i64 t332, .slice Ao87 t333.length co87, .slice Ao88 t336.length co88, .slice Ao89 t339.length co89, .slice Ao90 t342.length co90, .slice Ao91 t345.length co91, .slice Ao92 t348.length co92, .slice Ao93 t351.length co93, .slice Ao94 t354.length co94]] (by rfl) rfl rfl (by (try simp only [List.map_toArray, List.map_cons, List.map_nil]); first | done | rfl | (simp only [List.length_drop, List.length_take]; rfl)) ?_
            with_reducible refine (laws_eqBook.calls k t279 _ _ t280 _ _ t283 _ _ t286 _ _ t289 _ _ t292 _ _ t295 _ _ t298 _ _ t301 t332 _ _ t333 _ _ t336 _ _ t339 _ _ t342 _ _ t345 _ _ t348 _ _ t351 _ _ t354 true _ ?side1 ?side2 ?side3 ?side4 ?side5 ?side6 ?side7 ?side8 ?side9 ?side10 ?side11 ?side12 ?side13 ?side14 ?side15 ?side16 ?side17 ?side18 ?side19 ?side20 ?side21 ?side22 ?side23 ?side24 ?side25 ?side26 ?side27 ?side28 ?side29 ?side30 ?side31 ?side32 A25.out).mono ?_
            (case side1 => repeat (first | exact (Kd.R_reads' HO282.out).2.2 | (with_reducible refine Kd.C_alloc ?_ _) | (with_reducible refine Kd.C_drewN ?_ _) | (with_reducible refine Kd.C_drew ?_)))
            (case side2 => exact (Kd.R_reads' HO282.out).2.1)
            (case side3 => repeat (first | exact (Kd.R_reads' HO285.out).2.2 | (with_reducible refine Kd.C_alloc ?_ _) | (with_reducible refine Kd.C_drewN ?_ _) | (with_reducible refine Kd.C_drew ?_)))
            (case side4 => exact (Kd.R_reads' HO285.out).2.1)
            (case side5 => repeat (first | exact (Kd.R_reads' HO288.out).2.2 | (with_reducible refine Kd.C_alloc ?_ _) | (with_reducible refine Kd.C_drewN ?_ _) | (with_reducible refine Kd.C_drew ?_)))
            (case side6 => exact (Kd.R_reads' HO288.out).2.1)
            (case side7 => repeat (first | exact (Kd.R_reads' HO291.out).2.2 | (with_reducible refine Kd.C_alloc ?_ _) | (with_reducible refine Kd.C_drewN ?_ _) | (with_reducible refine Kd.C_drew ?_)))
            (case side8 => exact (Kd.R_reads' HO291.out).2.1)
            (case side9 => repeat (first | exact (Kd.R_reads' HO294.out).2.2 | (with_reducible refine Kd.C_alloc ?_ _) | (with_reducible refine Kd.C_drewN ?_ _) | (with_reducible refine Kd.C_drew ?_)))
            (case side10 => exact (Kd.R_reads' HO294.out).2.1)
            (case side11 => repeat (first | exact (Kd.R_reads' HO297.out).2.2 | (with_reducible refine Kd.C_alloc ?_ _) | (with_reducible refine Kd.C_drewN ?_ _) | (with_reducible refine Kd.C_drew ?_)))
            (case side12 => exact (Kd.R_reads' HO297.out).2.1)
            (case side13 => repeat (first | exact (Kd.R_reads' HO300.out).2.2 | (with_reducible refine Kd.C_alloc ?_ _) | (with_reducible refine Kd.C_drewN ?_ _) | (with_reducible refine Kd.C_drew ?_)))
            (case side14 => exact (Kd.R_reads' HO300.out).2.1)
            (case side15 => repeat (first | exact (Kd.R_reads' HO303.out).2.2 | (with_reducible refine Kd.C_alloc ?_ _) | (with_reducible refine Kd.C_drewN ?_ _) | (with_reducible refine Kd.C_drew ?_)))
            (case side16 => exact (Kd.R_reads' HO303.out).2.1)
            (case side17 => repeat (first | exact (Kd.R_reads' HO335.out).2.2 | (with_reducible refine Kd.C_alloc ?_ _) | (with_reducible refine Kd.C_drewN ?_ _) | (with_reducible refine Kd.C_drew ?_)))
            (case side18 => exact (Kd.R_reads' HO335.out).2.1)
            (case side19 => repeat (first | exact (Kd.R_reads' HO338.out).2.2 | (with_reducible refine Kd.C_alloc ?_ _) | (with_reducible refine Kd.C_drewN ?_ _) | (with_reducible refine Kd.C_drew ?_)))
            (case side20 => exact (Kd.R_reads' HO338.out).2.1)
            (case side21 => repeat (first | exact (Kd.R_reads' HO341.out).2.2 | (with_reducible refine Kd.C_alloc ?_ _) | (with_reducible refine Kd.C_drewN ?_ _) | (with_reducible refine Kd.C_drew ?_)))
            (case side22 => exact (Kd.R_reads' HO341.out).2.1)
            (case side23 => repeat (first | exact (Kd.R_reads' HO344.out).2.2 | (with_reducible refine Kd.C_alloc ?_ _) | (with_reducible refine Kd.C_drewN ?_ _) | (with_reducible refine Kd.C_drew ?_)))
            (case side24 => exact (Kd.R_reads' HO344.out).2.1)
            (case side25 => repeat (first | exact (Kd.R_reads' HO347.out).2.2 | (with_reducible refine Kd.C_alloc ?_ _) | (with_reducible refine Kd.C_drewN ?_ _) | (with_reducible refine Kd.C_drew ?_)))
            (case side26 => exact (Kd.R_reads' HO347.out).2.1)
            (case side27 => repeat (first | exact (Kd.R_reads' HO350.out).2.2 | (with_reducible refine Kd.C_alloc ?_ _) | (with_reducible refine Kd.C_drewN ?_ _) | (with_reducible refine Kd.C_drew ?_)))
            (case side28 => exact (Kd.R_reads' HO350.out).2.1)
            (case side29 => repeat (first | exact (Kd.R_reads' HO353.out).2.2 | (with_reducible refine Kd.C_alloc ?_ _) | (with_reducible refine Kd.C_drewN ?_ _) | (with_reducible refine Kd.C_drew ?_)))
            (case side30 => exact (Kd.R_reads' HO353.out).2.1)
            (case side31 => repeat (first | exact (Kd.R_reads' HO356.out).2.2 | (with_reducible refine Kd.C_alloc ?_ _) | (with_reducible refine Kd.C_drewN ?_ _) | (with_reducible refine Kd.C_drew ?_)))
            (case side32 => exact (Kd.R_reads' HO356.out).2.1)
            rintro e w95 ⟨rfl, hb⟩
            refine ⟨_, rfl, ?_⟩
            have n0_ := Aside0.mk (Kd.R_below HO205.out hb)
            have n1_ := Aside0.mk (Kd.R_below HO208.out hb)
            have n2_ := Aside0.mk (Kd.R_below HO211.out hb)
            have n3_ := Aside0.mk (Kd.R_below HO214.out hb)
            have n4_ := Aside0.mk (Kd.R_below HO217.out hb)
            have n5_ := Aside0.mk (Kd.R_below HO220.out hb)
            have n6_ := Aside0.mk (Kd.R_below HO223.out hb)
            have n7_ := Aside0.mk (Kd.R_below HO226.out hb)
            have n8_ := Aside0.mk (Kd.R_below HO230.out hb)
            have n9_ := Aside0.mk (Kd.R_below HO233.out hb)
            have n10_ := Aside0.mk (Kd.R_below HO236.out hb)
            have n11_ := Aside0.mk (Kd.R_below HO239.out hb)
            have n12_ := Aside0.mk (Kd.R_below HO242.out hb)
            have n13_ := Aside0.mk (Kd.R_below HO245.out hb)
            have n14_ := Aside0.mk (Kd.R_below HO248.out hb)
            have n15_ := Aside0.mk (Kd.R_below HO251.out hb)
            have n16_ := Aside0.mk (Kd.R_below HO256.out hb)
            have n17_ := Aside0.mk (Kd.R_below HO259.out hb)
            have n18_ := Aside0.mk (Kd.R_below HO262.out hb)
            have n19_ := Aside0.mk (Kd.R_below HO265.out hb)
            have n20_ := Aside0.mk (Kd.R_below HO268.out hb)
            have n21_ := Aside0.mk (Kd.R_below HO271.out hb)
            have n22_ := Aside0.mk (Kd.R_below HO274.out hb)
            have n23_ := Aside0.mk (Kd.R_below HO277.out hb)
            have n24_ := Aside0.mk (Kd.R_below HO282.out hb)
            have n25_ := Aside0.mk (Kd.R_below HO285.out hb)
            have n26_ := Aside0.mk (Kd.R_below HO288.out hb)
            have n27_ := Aside0.mk (Kd.R_below HO291.out hb)
            have n28_ := Aside0.mk (Kd.R_below HO294.out hb)
            have n29_ := Aside0.mk (Kd.R_below HO297.out hb)
            have n30_ := Aside0.mk (Kd.R_below HO300.out hb)
            have n31_ := Aside0.mk (Kd.R_below HO303.out hb)
            have n32_ := Aside0.mk (Kd.R_below HO309.out hb)
            have n33_ := Aside0.mk (Kd.R_below HO312.out hb)
            have n34_ := Aside0.mk (Kd.R_below HO315.out hb)
            have n35_ := Aside0.mk (Kd.R_below HO318.out hb)
            have n36_ := Aside0.mk (Kd.R_below HO321.out hb)
            have n37_ := Aside0.mk (Kd.R_below HO324.out hb)
            have n38_ := Aside0.mk (Kd.R_below HO327.out hb)
            have n39_ := Aside0.mk (Kd.R_below HO330.out hb)
            have n40_ := Aside0.mk (Kd.R_below HO335.out hb)
            have n41_ := Aside0.mk (Kd.R_below HO338.out hb)
            have n42_ := Aside0.mk (Kd.R_below HO341.out hb)
            have n43_ := Aside0.mk (Kd.R_below HO344.out hb)
            have n44_ := Aside0.mk (Kd.R_below HO347.out hb)
            have n45_ := Aside0.mk (Kd.R_below HO350.out hb)
            have n46_ := Aside0.mk (Kd.R_below HO353.out hb)
            have n47_ := Aside0.mk (Kd.R_below HO356.out hb)
            have n48_ := Aside0.mk (blk_below BK198.out hb)
            have n49_ := Aside0.mk (blk_below BK199.out hb)
            have n50_ := Aside0.mk (blk_below BK278.out hb)
            have n51_ := Aside0.mk (blk_below BK304.out hb)
            have n52_ := Aside0.mk (below_step HB.out hb)
            clear HO205
            clear HO208
            clear HO211
            clear HO214
            clear HO217
            clear HO220
            clear HO223
            clear HO226
            clear HO230
            clear HO233
            clear HO236
            clear HO239
            clear HO242
            clear HO245
            clear HO248
            clear HO251
            clear HO256
            clear HO259
            clear HO262
            clear HO265
            clear HO268
            clear HO271
            clear HO274
            clear HO277
            clear HO282
            clear HO285
            clear HO288
            clear HO291
            clear HO294
            clear HO297
            clear HO300
            clear HO303
            clear HO309
            clear HO312
            clear HO315
            clear HO318
            clear HO321
            clear HO324
            clear HO327
            clear HO330
            clear HO335
            clear HO338
            clear HO341
            clear HO344
            clear HO347
            clear HO350
            clear HO353
            clear HO356
            clear BK198
            clear BK199
            clear BK278
            clear BK304
            clear HB
            have HO205 := n0_
            have HO208 := n1_
            have HO211 := n2_
            have HO214 := n3_
            have HO217 := n4_
            have HO220 := n5_
            have HO223 := n6_
            have HO226 := n7_
            have HO230 := n8_
            have HO233 := n9_
            have HO236 := n10_
            have HO239 := n11_
            have HO242 := n12_
            have HO245 := n13_
            have HO248 := n14_
            have HO251 := n15_
            have HO256 := n16_
            have HO259 := n17_
            have HO262 := n18_
            have HO265 := n19_
            have HO268 := n20_
            have HO271 := n21_
            have HO274 := n22_
            have HO277 := n23_
            have HO282 := n24_
            have HO285 := n25_
            have HO288 := n26_
            have HO291 := n27_
            have HO294 := n28_
            have HO297 := n29_
            have HO300 := n30_
            have HO303 := n31_
            have HO309 := n32_
            have HO312 := n33_
            have HO315 := n34_
            have HO318 := n35_
            have HO321 := n36_
            have HO324 := n37_
            have HO327 := n38_
            have HO330 := n39_
            have HO335 := n40_
            have HO338 := n41_
            have HO341 := n42_
            have HO344 := n43_
            have HO347 := n44_
            have HO350 := n45_
            have HO353 := n46_
            have HO356 := n47_
            have BK198 := n48_
            have BK199 := n49_
            have BK278 := n50_
            have BK304 := n51_
            have HB := n52_
            clear n0_ n1_ n2_ n3_ n4_ n5_ n6_ n7_ n8_ n9_ n10_ n11_ n12_ n13_ n14_ n15_ n16_ n17_ n18_ n19_ n20_ n21_ n22_ n23_ n24_ n25_ n26_ n27_ n28_ n29_ n30_ n31_ n32_ n33_ n34_ n35_ n36_ n37_ n38_ n39_ n40_ n41_ n42_ n43_ n44_ n45_ n46_ n47_ n48_ n49_ n50_ n51_ n52_
            (try clear hb)
            (try clear hb2)
            (try clear hk)
            (try clear hi)
            refine hK.out _ _ ⟨(blk_cell BK304.out 0).trans rfl, (blk_cell BK304.out 1).trans rfl, (blk_cell BK304.out 2).trans rfl, (blk_cell BK304.out 3).trans rfl, (blk_cell BK304.out 4).trans rfl, (blk_cell BK304.out 5).trans rfl, (blk_cell BK304.out 6).trans rfl, (blk_cell BK304.out 7).trans rfl, (blk_cell BK304.out 8).trans rfl, (blk_cell BK199.out 0).trans rfl, (blk_cell BK199.out 1).trans rfl, (blk_cell BK199.out 2).trans rfl, (blk_cell BK199.out 3).trans rfl, (blk_cell BK199.out 4).trans rfl, (blk_cell BK199.out 5).trans rfl, (blk_cell BK199.out 6).trans rfl, (blk_cell BK199.out 7).trans rfl, (blk_cell BK199.out 8).trans rfl⟩ (fun hHeld => ?_)
            clear hK K
            refine norm_ (a' := ?_) ?_ ?_
            rotate_left
            · show Act.put _ (some 43) _ = _
              simp only [Act.put, List.setIfInBounds_toArray, List.set_cons_zero, List.set_cons_succ, i64_w, i32_w]
              rfl
            refine pure_ (i := 4) (N := some 44) (v := ?_) (a' := ?_) #[true, true, true, true, true] rfl rfl (by kernel_rfl) (fun _ _ _ h => h) (Or.inl ⟨by rfl, ?_⟩) ?_ ?_
            rotate_left
            · intro w'
              go_simp
              with_reducible rfl
            rotate_left
            · simp only [Act.put, List.setIfInBounds_toArray, List.set_cons_zero, List.set_cons_succ, i64_w, i32_w]
              rfl
            refine done_ (by kernel_rfl) ?_
            try go_wp2
            go_ret
            exact ⟨by first | rfl | (simp [errW_none, errW_some] <;> rfl) | (simp [*, errW_none, errW_some] <;> rfl), by repeat (first | (with_reducible first | exact HB.out | apply below_alloc | apply pw_below_drewN | apply below_drew1 | refine below_set ?_ GE198.out | refine below_set ?_ GE199.out | refine below_set ?_ GE278.out | refine below_set ?_ GE304.out) | exact HB.out)⟩
          · replace c26 := Bool.eq_false_iff.mpr c26
            subst c26
            have H1 : (none) = some r := by rw [if_neg (show ¬ (false = true) by decide)] at H; exact H
            clear H
            have H := H1
            clear H1
            exact absurd H (by simp)
        · replace c23 := Bool.eq_false_iff.mpr c23
          subst c23
          have H1 : (none) = some r := by rw [if_neg (show ¬ (false = true) by decide)] at H; exact H
          clear H
          have H := H1
          clear H1
          exact absurd H (by simp)

end Go.Proofs.Ytekneicikmaplaa.PFnExactBookSame
