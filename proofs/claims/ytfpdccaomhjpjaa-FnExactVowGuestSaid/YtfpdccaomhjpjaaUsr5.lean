/- Rows of words: what the law's small functions do with them. -/
import Derived.Test.YtfpdccaomhjpjaaProg
import Derived.Below
import Derived.Deep.Draws
import Derived.Deep.AppendLies
import Derived.Maps.AppendAt
import Derived.OwnWalk
import Derived.Laws.BytesArg
import Derived.Laws.MakeOwn
import Derived.Laws.OwnMore
import Derived.Deep.OwnRows
import Derived.Tactics
import Derived.Lib.ConvBytes
import Derived.Laws.Slices
import Derived.WalkKit
import Derived.KernelRfl
import Derived.RowKit3
import Derived.Deep.LoopGhost
import Derived.Deep.QuietTactic
import Derived.BigQuiet
import Derived.WideLaws
import Derived.Deep.DeepCutAuto
import Derived.Deep.CutBlock
import Derived.Deep.RegionHeld3
import Derived.Laws.Rows
import Derived.Lib.AppendStr
import Derived.ArgAppend
import Derived.Laws.IdiomCopy
import Derived.OrdersHeld
import Derived.Laws.BitsLemmas
import Derived.RowKit
import Derived.WalkSpells
import Derived.Test.YtfpdccaomhjpjaaRow
import Derived.Test.YtfpdccaomhjpjaaWWords
import Derived.Test.YtfpdccaomhjpjaaWLast
import Derived.Test.YtfpdccaomhjpjaaWTab
import Derived.Test.YtfpdccaomhjpjaaWQPut
import Derived.Test.YtfpdccaomhjpjaaWApart
import Derived.Test.YtfpdccaomhjpjaaWArr
import Derived.Test.YtfpdccaomhjpjaaWZeros
import Derived.Test.YtfpdccaomhjpjaaWFoot
import Derived.Test.YtfpdccaomhjpjaaWKept
import Derived.Test.YtfpdccaomhjpjaaWShare
import Derived.Test.YtfpdccaomhjpjaaWN
import Derived.Test.YtfpdccaomhjpjaaWInvWords
import Derived.Test.YtfpdccaomhjpjaaWGuard
import Derived.Test.YtfpdccaomhjpjaaWNEv
import Derived.Test.YtfpdccaomhjpjaaWMore
import Derived.Test.YtfpdccaomhjpjaaSt0
set_option linter.unusedVariables false
set_option linter.unusedSimpArgs false
namespace Go.Proofs.Ytfpdccaomhjpjaa.Gu
open Go.RowKit Go.Proofs.YtfpdccaomhjpjaaW.PrintWords Go.Proofs.YtfpdccaomhjpjaaW.PrintLast Go.Proofs.YtfpdccaomhjpjaaW.PrintMore Go.Proofs.Ytfpdccaomhjpjaa.St0

theorem calls_of_args {P : Program} {f : FuncId} {args args' : Array Value} {w : World} {K : Ending → World → Prop} (e : args = args') (h : Calls P f args' w K) : Calls P f args w K := e ▸ h
theorem infoE : (Try.prog.info? 46).map (fun i => (i.zero, i.size, i.bytes)) = some (some (.int .u64 0), 1, 8) := by kernel_rfl
/-- A slice of words that can be read. -/
def UC (w : World) (A : Option Addr) (c : Nat) (l : List Int) : Prop := Kd.C (Kd.int .u64) w A l.length l ∧ l.length ≤ c
theorem UC.below {w w1 : World} {A : Option Addr} {c : Nat} {l : List Int} (h : UC w A c l) (hb : Below w.heap.size w w1) : UC w1 A c l := ⟨Kd.C_below h.1 hb, h.2⟩
theorem UC.drewN {w : World} {A : Option Addr} {c : Nat} {l : List Int} (h : UC w A c l) (n : Nat) : UC (w.drewN n) A c l := h
theorem UC.nil (w : World) : UC w none 0 [] := ⟨⟨rfl, by simp, fun h => absurd h (by simp)⟩, Nat.le_refl _⟩
/-- A row of words of one's own. -/
def UO (lo hi : Nat) (A : Option Addr) (c : Nat) (l : List Int) (w : World) : Prop := Rw (Kd.int .u64) 46 lo hi (.slice A l.length c) l w
theorem UO.stable (lo hi : Nat) (A : Option Addr) (c : Nat) (l : List Int) : Res.Stable ⟨lo, hi, UO lo hi A c l⟩ := Rw.stable _ _ _ _ _ _
theorem UO.c {w : World} {lo hi : Nat} {A : Option Addr} {c : Nat} {l : List Int} (h : UO lo hi A c l w) : UC w A c l := by
  obtain ⟨h1, _, h2⟩ := Rw.c (show Rw (Kd.int .u64) 46 lo hi (.slice A l.length c) l w from h)
  exact ⟨h1, h2⟩
theorem UO.of {w w' : World} {v : Value} {l : List Int} (h : Kd.R (Kd.int .u64) 46 w' w.heap.size (fun _ => True) v l) : ∃ A c, v = .slice A l.length c ∧ UO w.heap.size w'.heap.size A c l w' := by
  obtain ⟨A, c, rfl⟩ := Kd.R_slice h
  exact ⟨A, c, rfl, Rw.of h⟩
theorem UO.nil (lo hi : Nat) (w : World) : UO lo hi none 0 [] w := Kd.R_nil _ _ _ _ _
theorem UO.below {w w1 : World} {lo hi : Nat} {A : Option Addr} {c : Nat} {l : List Int} (h : UO lo hi A c l w) (hb : Below w.heap.size w w1) : UO lo hi A c l w1 := Kd.R_below h hb
theorem UO.wide {w : World} {lo hi lo' hi' : Nat} {A : Option Addr} {c : Nat} {l : List Int} (h : UO lo hi A c l w) (h0 : lo' ≤ lo) (h1 : hi ≤ hi') : UO lo' hi' A c l w := Kd.R_lower (Kd.R_mono h (fun k hk => ⟨by omega, by omega⟩)) h0
theorem UO.lt {w : World} {lo hi : Nat} {A : Option Addr} {c : Nat} {l : List Int} (h : UO lo hi A c l w) (k : Nat) (hk : (Value.slice A l.length c).ownBlock = some k) : lo ≤ k ∧ k < hi := h.1 k hk
theorem at_u {w : World} {A : Option Addr} {c : Nat} {l : List Int} (h : UC w A c l) (k : Nat) (hk : k < l.length) : ∃ ad, A = some ad ∧ w.cell? (ad.add k) = some (.int .u64 (l.getD k 0)) := by
  obtain ⟨ad, h1, h2⟩ := Kd.at_int h.1 (k : Int) (by omega) (by omega)
  exact ⟨ad, h1, by rw [Int.toNat_natCast] at h2; simpa [rd] using h2⟩
theorem getD_set_self (x : List Int) (k : Nat) (v : Int) (h : k < x.length) : (x.set k v).getD k 0 = v := by simp [h]
theorem getD_set_ne (x : List Int) (k j : Nat) (v : Int) (h : j ≠ k) : (x.set k v).getD j 0 = x.getD j 0 := by simp [List.getD, List.getElem?_set, Ne.symm h]
theorem eq_of_getD {x l : List Int} (hn : x.length = l.length) (h : ∀ j, j < l.length → x.getD j 0 = l.getD j 0) : x = l := by
  apply List.ext_getElem hn
  intro i h1 h2
  have := h i h2
  simpa [List.getD, List.getElem?_eq_getElem h1, List.getElem?_eq_getElem h2] using this
def szR (l : List Int) (left : Int) : Int := if left - l.length < 0 then -1 else left - l.length
theorem szR_le (l : List Int) (left : Int) (h0 : -1 ≤ left) (h1 : left ≤ 1048576) : -1 ≤ szR l left ∧ szR l left ≤ 1048576 := by unfold szR; split <;> omega
theorem szR_nn {l : List Int} {left : Int} (h1 : left ≤ 1048576) (h : 0 ≤ szR l left) : l.length ≤ 1048576 := by
  unfold szR at h
  split at h <;> omega
theorem szU_calls (A : Option Addr) (c : Nat) (l : List Int) (left : Int) (w : World) (h0 : -1 ≤ left) (h1 : left ≤ 1048576) (hl : l.length ≤ 9223372036854775807) :
    Calls Try.prog 32 #[.slice A l.length c, .int .i64 left] w fun e w' => e = .returned (.int .i64 (szR l left)) ∧ w = w' := by
  by_cases h : left - (l.length : Int) < 0
  · have hf : szR l left = -1 := if_pos h
    have HF := Aside0.mk hf
    clear hf
    go_enter Try.func32, Try.ntmps32
    go_wp2
    go_ret
    exact ⟨by rw [HF.out]; rfl, rfl⟩
  · have hf : szR l left = left - l.length := if_neg h
    have HF := Aside0.mk hf
    clear hf
    go_enter Try.func32, Try.ntmps32
    go_wp2
    go_ret
    exact ⟨by rw [HF.out]; rfl, rfl⟩
set_option maxRecDepth 100000 in
theorem eqU_same (A : Option Addr) (c : Nat) (A' : Option Addr) (c' : Nat) (l : List Int) (w : World) (h : UC w A c l) (h' : UC w A' c' l) (hl : l.length ≤ 9223372036854775807) :
    Calls Try.prog 10 #[.slice A l.length c, .slice A' l.length c'] w fun e w' => e = .returned (.bool true) ∧ Drawn0 w w' := by
  have HR := Aside0.mk h
  have HR' := Aside0.mk h'
  clear h h'
  go_enter Try.func10, Try.ntmps10
  go_wp2
  go_loopg [5] (l.length + 1) (fun kq v5 w' => ∃ k : Nat, k ≤ l.length ∧ kq = l.length + 1 - k ∧ v5 = .int .i64 k ∧ Drawn0 w w')
  case atStart => exact ⟨0, by omega, by omega, rfl, Drawn0.refl _⟩
  case round =>
    obtain ⟨k, hk, rfl, rfl, ⟨m, rfl⟩⟩ := hrel
    by_cases hlt : k < l.length
    · obtain ⟨ad, rfl, hc⟩ := at_u HR.out k hlt
      obtain ⟨ad', rfl, hc'⟩ := at_u HR'.out k hlt
      have hi : (k : Int) < (l.length : Int) := by omega
      go_wp2
      go_quiet (fail)
      go_wp2
      go_roundg (l.length + 1 - (k + 1))
      case measure => omega
      case rel => exact ⟨k + 1, by omega, rfl, by go_num, by repeat (first | exact Drawn0.refl _ | apply Drawn0.step)⟩
    · go_wp2
      go_ret
      exact ⟨rfl, by repeat (first | exact Drawn0.refl _ | apply Drawn0.step)⟩
set_option maxRecDepth 100000 in
theorem toU_calls (A : Option Addr) (c : Nat) (l : List Int) (w : World) (h : UC w A c l) (hl : l.length ≤ 1048576) :
    Calls Try.prog 8 #[.slice A l.length c] w fun e w' => ∃ A' c', e = .returned (.slice A' l.length c') ∧ UO w.heap.size w'.heap.size A' c' l w' ∧ Below w.heap.size w w' := by
  have HR := Aside0.mk h
  have HLn := Aside0.mk hl
  clear h
  have HB := Aside0.mk (Below.refl w.heap.size w)
  go_enter Try.func8, Try.ntmps8
  go_wp2_with (first | ((with_reducible refine gate_dst (N := 7) rfl ?_); refine Kd.R_make (Kd.int .u64) _ 46 rfl (N := 7) rfl 22 _ _ rfl (l.length : Int) rfl rfl Try.underlying22 (.int .u64 0) 8 infoE rfl (by decide) (by omega) 0 (ok := fun _ => True) (okp := fun _ => True) rfl (fun _ hk => hk) trivial (by omega) (by simp only [Int.toNat_natCast]; have := HLn.out; omega) (Below.refl _ _) (Nat.le_refl _) ?_; intro v1 w1 ho hb hg_ hnew_; clear hg_ hnew_; have HO := Aside0.mk ho; have HB := Aside0.mk hb; clear ho hb))
  go_loopg [4] (l.length + 1) (fun kq v4 w' => ∃ (k : Nat) (x : List Int), k ≤ l.length ∧ kq = l.length + 1 - k ∧ v4 = .int .i64 k ∧ x.length = l.length ∧ Aside0 (∀ j, j < k → x.getD j 0 = l.getD j 0) ∧ Aside0 (Kd.R (Kd.int .u64) 46 w' w.heap.size (fun _ => True) v1 x) ∧ Aside0 (Below w.heap.size w w'))
  case atStart => exact ⟨0, _, by omega, by omega, rfl, by simp, ⟨fun j hj => by omega⟩, HO, HB⟩
  case round =>
    clear HO HB
    obtain ⟨k, x, hk, rfl, rfl, hx, HX, HO, HB⟩ := hrel
    have hN := Aside0.mk hx
    by_cases hlt : k < l.length
    · obtain ⟨ad, rfl, hc⟩ := at_u HR.out k hlt
      have hcell := (HB.out.cell (World.block_lt_of_cell? w _ hc)).trans hc
      clear hc
      obtain ⟨go, co, eo, gbl, gl, cl, HG⟩ := Kd.R_form HO.out (by omega)
      subst eo
      have GB := Aside0.mk gbl
      clear gbl gl cl HG
      have p9 : (0 : Int) ≤ (k : Int) := by omega
      have q9 : (k : Int) < (x.length : Int) := by omega
      obtain ⟨hx9, hf9⟩ := Kd.R_celln 0 HO.out (k : Int) p9 q9
      have HP := Kd.R_putg HO.out (k : Int) (l.getD k 0)
      rw [Int.toNat_natCast] at hx9 hf9 HP
      have hi : (k : Int) < (l.length : Int) := by omega
      clear hx
      go_wp2_with (first | ((with_reducible refine gate_store (t := 46) (p := 20) rfl ?_); refine store_event (t := 46) (p := 20) (v := ?vo_1) (w1 := (wr.setCell ⟨go, k, none⟩ (.int .u64 (l.getD k 0)))) ?hg ?ho ?hn ?hr ?_; (case ho => rfl); (case hg => rfl); (case hn => rfl); (case hr => first | (go_simp; done) | (go_simp; rfl)); intro w2 hw; have HO2 := Aside0.mk (show Kd.R (Kd.int .u64) 46 w2 w.heap.size (fun _ => True) (.slice (some ⟨go, 0, none⟩) x.length co) (x.set k (l.getD k 0)) by rw [hw]; exact HP.1); have HB2 := Aside0.mk (show Below w.heap.size w w2 by rw [hw]; exact below_set HB.out GB.out); clear HP HO HB hw))
      go_roundg (l.length + 1 - (k + 1))
      case measure => omega
      case rel =>
        refine ⟨k + 1, x.set k (l.getD k 0), by omega, rfl, by go_num, by rw [List.length_set]; exact hN.out, ⟨fun j hj => ?_⟩, HO2, HB2⟩
        by_cases e : j = k
        · rw [e]; exact getD_set_self _ _ _ (by have := hN.out; omega)
        · rw [getD_set_ne _ _ _ _ e]; exact HX.out j (by omega)
    · have hkl : k = l.length := by omega
      subst hkl
      have hxl := eq_of_getD hN.out (fun j hj => HX.out j hj)
      have HZ := Aside0.mk hxl
      clear hxl hx
      go_wp2
      go_ret
      obtain ⟨A', c', hv, ho⟩ := UO.of HO.out
      rw [HZ.out] at hv ho
      exact ⟨A', c', by rw [← hv]; rfl, ho, HB.out⟩
/-- But for a row's own block everything in memory is as it was; nothing new. -/
structure KeepV (v : Value) (w w' : World) : Prop where
  os : w'.os = w.os
  tape : w'.tape = w.tape
  output : w'.output = w.output
  size : w'.heap.size = w.heap.size
  block : ∀ k, v.ownBlock ≠ some k → w'.heap[k]? = w.heap[k]?
theorem KeepV.refl (v : Value) (w : World) : KeepV v w w := ⟨rfl, rfl, rfl, rfl, fun _ _ => rfl⟩
theorem KeepV.set {g n c : Nat} {w w1 : World} (h : KeepV (.slice (some ⟨g, 0, none⟩) n c) w w1) (j : Nat) (u : Value) : KeepV (.slice (some ⟨g, 0, none⟩) n c) w (w1.setCell ⟨g, j, none⟩ u) := by
  have hb : Below g w1 (w1.setCell ⟨g, j, none⟩ u) := (Below.refl g w1).setCell (Nat.le_refl g) _
  refine ⟨hb.os.trans h.os, hb.tape.trans h.tape, hb.output.trans h.output, by rw [← h.size]; simp, fun k hk => ?_⟩
  have hne : k ≠ g := fun e => hk (by simp [Value.ownBlock, e])
  exact (Below.heap_setCell w1 ⟨g, j, none⟩ u k hne).trans (h.block k hk)
theorem KeepV.keep {lo hi : Nat} {w w' : World} {A : Option Addr} {c : Nat} {l : List Int} (h : UO lo hi A c l w) (k : KeepV (.slice A l.length c) w w') : Keep lo hi w w' :=
  ⟨k.os, k.tape, k.output, by rw [k.size]; exact Nat.le_refl _, fun i _ hn => k.block i (fun e => hn (h.lt i e))⟩
theorem UO.far {w w1 : World} {lo hi : Nat} {A : Option Addr} {c : Nat} {l : List Int} {v : Value} (h : UO lo hi A c l w) (hk : KeepV v w w1) (hn : NeRow (.slice A l.length c) v) : UO lo hi A c l w1 := by
  have h1 : Kd.R (Kd.int .u64) 46 w lo (fun k => (lo ≤ k ∧ k < hi) ∧ (Value.slice A l.length c).ownBlock = some k) (.slice A l.length c) l := Kd.R_flat (fun h => h) h (fun k hk h2 => ⟨h2, hk⟩)
  exact Kd.R_mono (Kd.R_move h1 (fun k hk2 => hk.block k (hn k hk2.2))) (fun k hk => hk.1)
theorem UO.neRow {w w1 : World} {lo hi lo' hi' : Nat} {A A' : Option Addr} {c c' : Nat} {l l' : List Int} (h : UO lo hi A c l w) (h' : UO lo' hi' A' c' l' w1) (hd : hi ≤ lo' ∨ hi' ≤ lo) : NeRow (.slice A l.length c) (.slice A' l'.length c') := fun k hk hk' => by
  have := h.lt k hk
  have := h'.lt k hk'
  omega
set_option maxRecDepth 100000 in
theorem markU_calls (A : Option Addr) (c : Nat) (l : List Int) (m : Int) (lo hi : Nat) (w : World) (h : UO lo hi A c l w) (hm : 0 ≤ m) (hl : m + l.length ≤ 35184372088832) :
    Calls Try.prog 11 #[.slice A l.length c, .int .i64 m] w fun e w' => ∃ l' : List Int, e = .returned (.int .i64 (m + l.length)) ∧ l'.length = l.length ∧ (∀ j, j < l.length → l'.getD j 0 = m + j) ∧ UO lo hi A c l' w' ∧ KeepV (.slice A l.length c) w w' := by
  have HS := Aside0.mk h
  clear h
  go_enter Try.func11, Try.ntmps11
  go_wp2
  go_loopg [1, 5] (l.length + 1) (fun kq v1 v5 w' => ∃ (k : Nat) (x : List Int), k ≤ l.length ∧ kq = l.length + 1 - k ∧ v5 = .int .i64 k ∧ v1 = .int .i64 (m + k) ∧ x.length = l.length ∧ Aside0 (∀ j, j < k → x.getD j 0 = m + j) ∧ Aside0 (UO lo hi A c x w') ∧ Aside0 (KeepV (.slice A l.length c) w w'))
  case atStart => exact ⟨0, l, by omega, rfl, rfl, by simp, rfl, ⟨fun j hj => by omega⟩, HS, ⟨KeepV.refl _ _⟩⟩
  case round =>
    clear HS
    obtain ⟨k, x, hk, rfl, rfl, rfl, hx, HX, HO, HK⟩ := hrel
    have hN := Aside0.mk hx
    by_cases hlt : k < l.length
    · obtain ⟨go, co, eo, gbl, gl, cl, HG⟩ := Kd.R_form (show Kd.R (Kd.int .u64) 46 wr lo (fun k => lo ≤ k ∧ k < hi) (.slice A x.length c) x from HO.out) (by omega)
      simp only [Value.slice.injEq] at eo
      obtain ⟨rfl, -, rfl⟩ := eo
      have p9 : (0 : Int) ≤ (k : Int) := by omega
      have q9 : (k : Int) < (x.length : Int) := by omega
      have HOR : Kd.R (Kd.int .u64) 46 wr lo (fun k => lo ≤ k ∧ k < hi) (.slice (some ⟨go, 0, none⟩) x.length c) x := HO.out
      obtain ⟨hx9, hf9⟩ := Kd.R_celln 0 HOR (k : Int) p9 q9
      have HP := Aside0.mk (Kd.R_putg HOR (k : Int) (m + k)).1
      rw [Int.toNat_natCast] at hx9 hf9 HP
      have hi' : (k : Int) < (l.length : Int) := by omega
      have hq0 : 0 ≤ m + (k : Int) := by omega
      have hcv : IntKind.u64.wrap (m + (k : Int)) = m + (k : Int) := by rw [IntKind.wrap_u64]; omega
      clear hx gbl gl cl HG HOR
      go_wp2_with (first | ((with_reducible refine gate_store (t := 46) (p := 16) rfl ?_); refine store_event (t := 46) (p := 16) (v := ?vo_2) (w1 := (wr.setCell ⟨go, k, none⟩ (.int .u64 (m + k)))) ?hg ?ho ?hn ?hr ?_; (case ho => rfl); (case hg => rfl); (case hn => rfl); (case hr => first | (go_simp; done) | (go_simp; rfl)); intro w2 hw; have HO2 := Aside0.mk (show UO lo hi (some ⟨go, 0, none⟩) c (x.set k (m + k)) w2 by rw [hw]; unfold UO Rw; rw [List.length_set]; exact HP.out); have HK2 := Aside0.mk (show KeepV (.slice (some ⟨go, 0, none⟩) l.length c) w w2 by rw [hw]; exact HK.out.set k _); clear HP HO HK hw))
      go_roundg (l.length + 1 - (k + 1))
      case measure => omega
      case rel =>
        refine ⟨k + 1, x.set k (m + k), by omega, rfl, by go_num, by (congr 1; omega), by rw [List.length_set]; exact hN.out, ⟨fun j hj => ?_⟩, HO2, HK2⟩
        by_cases e : j = k
        · rw [e]; exact getD_set_self _ _ _ (by have := hN.out; omega)
        · rw [getD_set_ne _ _ _ _ e]; exact HX.out j (by omega)
    · have hkl : k = l.length := by omega
      subst hkl
      go_wp2
      go_ret
      exact ⟨x, rfl, hN.out, HX.out, HO.out, HK.out⟩
set_option maxRecDepth 100000 in
theorem heldU_calls (A : Option Addr) (c : Nat) (l : List Int) (m : Int) (w : World) (h : UC w A c l) (hm : 0 ≤ m) (hl : m + l.length ≤ 35184372088832) (hv : ∀ j, j < l.length → l.getD j 0 = m + j) :
    Calls Try.prog 12 #[.slice A l.length c, .int .i64 m] w fun e w' => e = .returned (.int .i64 (m + l.length)) ∧ w = w' := by
  have HR := Aside0.mk h
  have HV0 := Aside0.mk hv
  clear h hv
  go_enter Try.func12, Try.ntmps12
  go_wp2
  go_loopg [1, 5] (l.length + 1) (fun kq v1 v5 w' => ∃ k : Nat, k ≤ l.length ∧ kq = l.length + 1 - k ∧ v5 = .int .i64 k ∧ v1 = .int .i64 (m + k) ∧ w = w')
  case atStart => exact ⟨0, by omega, rfl, rfl, by simp, rfl⟩
  case round =>
    obtain ⟨k, hk, rfl, rfl, rfl, rfl⟩ := hrel
    by_cases hlt : k < l.length
    · have hi' : (k : Int) < (l.length : Int) := by omega
      obtain ⟨ad, rfl, hc⟩ := at_u HR.out k hlt
      rw [HV0.out k hlt] at hc
      have hb : ((m + (k : Int)) != (m + (k : Int))) = false := bne_self_eq_false _
      have hcv : IntKind.u64.wrap (m + (k : Int)) = m + (k : Int) := by rw [IntKind.wrap_u64]; omega
      go_wp2
      go_roundg (l.length + 1 - (k + 1))
      case measure => omega
      case rel => exact ⟨k + 1, by omega, rfl, by go_num, by (congr 1; omega), rfl⟩
    · have hkl : k = l.length := by omega
      subst hkl
      go_wp2
      go_ret
      exact ⟨rfl, rfl⟩
set_option maxRecDepth 100000 in
theorem clone_calls (A : Option Addr) (c : Nat) (l : List Int) (w : World) (h : UC w A c l) (hl : l.length ≤ 1048576) :
    Calls Try.prog 30 #[.slice A l.length c] w fun e w' => ∃ A' c', e = .returned (.slice A' l.length c') ∧ UO w.heap.size w'.heap.size A' c' l w' ∧ Below w.heap.size w w' := by
  cases A with
  | none =>
    have h0 : l = [] := by
      have h0 := h.1.2.2
      cases l with
      | nil => rfl
      | cons x xs => obtain ⟨ad, h1, _⟩ := h0 (by simp); cases h1
    subst h0
    have heq_ := fun (w : World) (n c : Nat) => Lib.run_eql_slice_nil (P := Try.prog) w 22 46 none n c 0 0 Try.underlying22
    simp only [Option.isNone_none] at heq_
    clear h
    go_enter Try.func30, Try.ntmps30
    go_wp2
    go_ret
    exact ⟨none, 0, rfl, UO.nil _ _ _, Below.refl _ _⟩
  | some ad =>
    have heq_ := fun (w : World) (n c : Nat) => Lib.run_eql_slice_nil (P := Try.prog) w 22 46 (some ad) n c 0 0 Try.underlying22
    simp only [Option.isNone_some] at heq_
    have HR := Aside0.mk h
    have HL := Aside0.mk hl
    clear h
    have HB := Aside0.mk (Below.refl w.heap.size w)
    go_enter Try.func30, Try.ntmps30
    go_wp2_with (first | ((with_reducible refine gate_dst (N := 5) rfl ?_); refine Kd.R_lit (Kd.int .u64) _ 46 ?hg (N := 5) ?hd (xs := ([] : List Int)) (inner := []) (ok := fun _ => True) (okp := fun _ => True) ?hr ?hp (fun _ hk => hk) trivial (Below.refl _ _) (Nat.le_refl _) (by simp) ?_; (case hd => rfl); (case hg => rfl); (case hr => first | (go_simp; done) | (go_simp; rfl)); (case hp => exact (Reps.none _ _)); intro v0 w3 ho4 hb hg_ hnew_; clear hg_ hnew_; have HO := Aside0.mk (Kd.R_lower ho4 (below_size HB.out)); have HB2 := Aside0.mk (below_step HB.out hb); clear hb ho4 HB) | ((with_reducible refine gate_builtin (b := .append) (xs := #[.tmp 5, .tmp 6]) rfl ?_); at_builtin; refine Kd.R_append_rows (Kd.int .u64) (w0 := w) w.heap.size rfl (.tmp 5) (.tmp 6) 22 46 (.int .u64 0) 8 rfl Try.underlying22 infoE rfl (by decide) (by omega) v0 [] l _ _ _ (fun _ => True) (fun _ => False) rfl rfl HO.out (HR.out.below HB2.out).1 (fun _ _ h => h) (fun _ h => h.elim) (fun _ _ => trivial) HB2.out HB2.out.size (by have := HL.out; simp only [List.length_nil]; omega) ?_; intro v1 w5 ho hb hg hat; rw [List.nil_append] at ho; have HO3 := Aside0.mk ho; have HB3 := Aside0.mk hb; clear HO HB2 ho hb hg hat))
    go_ret
    obtain ⟨A', c', hv, ho⟩ := UO.of HO3.out
    exact ⟨A', c', by rw [← hv]; rfl, ho, HB3.out⟩
end Go.Proofs.Ytfpdccaomhjpjaa.Gu
