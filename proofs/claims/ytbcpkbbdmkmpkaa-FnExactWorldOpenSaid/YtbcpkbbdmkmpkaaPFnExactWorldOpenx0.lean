-- own text, written by wip/tools/pp.py
import Derived.Test.YtbcpkbbdmkmpkaaProg
import Derived.Below
import Derived.Deep.Draws
import Derived.Deep.AppendLies
import Derived.Maps.AppendAt
import Derived.OwnWalk
import Derived.Laws.BytesArg
import Derived.Laws.MakeOwn
import Derived.Laws.OwnMore
import Derived.Deep.OwnRows
import Derived.Tactics
import Derived.Lib.ConvBytes
import Derived.Laws.Slices
import Derived.WalkKit
import Derived.KernelRfl
import Derived.RowKit3
import Derived.Deep.LoopGhost
import Derived.Deep.QuietTactic
import Derived.BigQuiet
import Derived.WideLaws
import Derived.Deep.DeepCutAuto
import Derived.Deep.CutBlock
import Derived.Deep.RegionHeld3
import Derived.Laws.Rows
import Derived.Lib.AppendStr
import Derived.ArgAppend
import Derived.Laws.IdiomCopy
import Derived.OrdersHeld
import Derived.Laws.BitsLemmas
import Derived.RowKit
import Derived.WalkSpells
import Derived.Test.YtbcpkbbdmkmpkaaRow
import Derived.Test.YtbcpkbbdmkmpkaaWWords
import Derived.Test.YtbcpkbbdmkmpkaaWLast
import Derived.Test.YtbcpkbbdmkmpkaaWTab
import Derived.Test.YtbcpkbbdmkmpkaaWFour
import Derived.Test.YtbcpkbbdmkmpkaaWQPut
import Derived.Test.YtbcpkbbdmkmpkaaWApart
import Derived.Test.YtbcpkbbdmkmpkaaWArr
import Derived.Test.YtbcpkbbdmkmpkaaWZeros
import Derived.Test.YtbcpkbbdmkmpkaaWFoot
import Derived.Test.YtbcpkbbdmkmpkaaWKept
import Derived.Test.YtbcpkbbdmkmpkaaWShare
import Derived.Test.YtbcpkbbdmkmpkaaWN
import Derived.Test.YtbcpkbbdmkmpkaaWFootNe
import Derived.Test.YtbcpkbbdmkmpkaaWAt
import Derived.Test.YtbcpkbbdmkmpkaaWEqStruct
import Derived.Test.YtbcpkbbdmkmpkaaWRepsOne
import Derived.Test.YtbcpkbbdmkmpkaaWInv
import Derived.Test.YtbcpkbbdmkmpkaaWInvWords
import Derived.Test.YtbcpkbbdmkmpkaaWGuard
import Derived.Test.YtbcpkbbdmkmpkaaWNEv
import Derived.Test.YtbcpkbbdmkmpkaaWMore
namespace Go.Proofs.Ytbcpkbbdmkmpkaa.PFnExactWorldOpen
open Go.RowKit Go.Proofs.YtbcpkbbdmkmpkaaW.PrintWords Go.Proofs.YtbcpkbbdmkmpkaaW.PrintLast Go.Proofs.YtbcpkbbdmkmpkaaW.PrintMore
attribute [local go_sem] max2_int min2_int max_two min_two max_three min_three max_four min_four   -- for this text's walks alone
set_option linter.unusedVariables false
set_option linter.unusedSimpArgs false



def errW : Option Int → Value
  | none => .nilIface
  | some c => .iface 0 (.int .i64 c)
theorem errW_none : errW none = .nilIface := rfl
theorem errW_some (c : Int) : errW (some c) = .iface 0 (.int .i64 c) := rfl

theorem info40 : (Try.prog.info? 40).map (fun i => (i.zero, i.size, i.bytes)) = some (some (.int .u64 0), 1, 8) := by kernel_rfl
-- the values' own types
/-! #### struct type 39 -/
structure S39 where
  f0 : Int
  f1 : Int
  f2 : Int
  f3 : Int
def z39 : S39 := ⟨(0 : Int), (0 : Int), (0 : Int), (0 : Int)⟩
def k39 : Kd S39 := Kd.iso (Kd.pair (Kd.int .i64) (Kd.pair (Kd.int .i64) (Kd.pair (Kd.int .i64) (Kd.int .i64)))) (fun x : S39 => (x.f0, x.f1, x.f2, x.f3))
theorem k39_open {w : World} {x : S39} {cs : List Value} (h : k39.K w x cs) : cs = [.int .i64 x.f0, .int .i64 x.f1, .int .i64 x.f2, .int .i64 x.f3] := by
  obtain ⟨_, _, rfl, rfl, ⟨_, _, rfl, rfl, ⟨_, _, rfl, rfl, rfl⟩⟩⟩ := h
  exact rfl
theorem k39_openM {w : World} {base : Nat} {ok : Nat → Prop} {x : S39} {cs : List Value} (h : k39.M w base ok x cs) : cs = [.int .i64 x.f0, .int .i64 x.f1, .int .i64 x.f2, .int .i64 x.f3] := by
  obtain ⟨_, _, rfl, rfl, ⟨_, _, rfl, rfl, ⟨_, _, rfl, rfl, rfl⟩⟩⟩ := h
  exact rfl
theorem k39_mk (w : World) (x : S39)  : k39.K w x [.int .i64 x.f0, .int .i64 x.f1, .int .i64 x.f2, .int .i64 x.f3] := ⟨[.int .i64 x.f0], [.int .i64 x.f1, .int .i64 x.f2, .int .i64 x.f3], rfl, rfl, ⟨[.int .i64 x.f1], [.int .i64 x.f2, .int .i64 x.f3], rfl, rfl, ⟨[.int .i64 x.f2], [.int .i64 x.f3], rfl, rfl, rfl⟩⟩⟩
theorem k39_mkM (w : World) (base : Nat) (ok : Nat → Prop) (x : S39)  : k39.M w base ok x [.int .i64 x.f0, .int .i64 x.f1, .int .i64 x.f2, .int .i64 x.f3] := ⟨[.int .i64 x.f0], [.int .i64 x.f1, .int .i64 x.f2, .int .i64 x.f3], rfl, rfl, ⟨[.int .i64 x.f1], [.int .i64 x.f2, .int .i64 x.f3], rfl, rfl, ⟨[.int .i64 x.f2], [.int .i64 x.f3], rfl, rfl, rfl⟩⟩⟩
def rd_T39 (xs : List S39) (i : Int) : S39 := xs.getD i.toNat z39
theorem at_T39 {w : World} {A : Option Addr} {n : Nat} {xs : List S39} (h : Kd.C k39 w A n xs) (i : Int) (h0 : 0 ≤ i) (h1 : i < n) : ∃ ad , A = some ad ∧ w.cell? (ad.add (i.toNat * 4)) = some (.int .i64 (rd_T39 xs i).f0) ∧ w.cell? ⟨(ad.add (i.toNat * 4)).block, (ad.add (i.toNat * 4)).off + 1, none⟩ = some (.int .i64 (rd_T39 xs i).f1) ∧ w.cell? ⟨(ad.add (i.toNat * 4)).block, (ad.add (i.toNat * 4)).off + 2, none⟩ = some (.int .i64 (rd_T39 xs i).f2) ∧ w.cell? ⟨(ad.add (i.toNat * 4)).block, (ad.add (i.toNat * 4)).off + 3, none⟩ = some (.int .i64 (rd_T39 xs i).f3) := by
  obtain ⟨ad, c, e, _, hK, hc0⟩ := Kd.C_get h z39 i h0 h1
  have hc : ∀ j u, c[j]? = some u → w.cell? (ad.add (i.toNat * 4 + j)) = some u := hc0
  obtain rfl := k39_open hK
  exact ⟨ad, e, hc 0 _ rfl, by rw [← add_field _ _ 1 (by omega)]; exact hc 1 _ rfl, by rw [← add_field _ _ 2 (by omega)]; exact hc 2 _ rfl, by rw [← add_field _ _ 3 (by omega)]; exact hc 3 _ rfl⟩

def rd_L4 (xs : List (List Int)) (i : Int) : (List Int) := xs.getD i.toNat ([] : List Int)
theorem at_L4 {w : World} {A : Option Addr} {n : Nat} {xs : List (List Int)} (h : Kd.C (Kd.slice 40 (Kd.int .u64)) w A n xs) (i : Int) (h0 : 0 ≤ i) (h1 : i < n) : ∃ ad A0 c0, A = some ad ∧ w.cell? (ad.add i.toNat) = some (.slice A0 (rd_L4 xs i).length c0) ∧ (rd_L4 xs i).length ≤ c0 ∧ (Kd.int .u64).C w A0 (rd_L4 xs i).length (rd_L4 xs i) := by
  obtain ⟨ad, c, e, _, hK, hc0⟩ := Kd.C_get h ([] : List Int) i h0 h1
  have hc : ∀ j u, c[j]? = some u → w.cell? (ad.add (i.toNat * 1 + j)) = some u := hc0
  obtain ⟨A0, c0, rfl, l0, g0⟩ := hK
  exact ⟨ad, A0, c0, e, by have hq := hc 0 _ rfl; rwa [Nat.mul_one, Nat.add_zero] at hq, l0, g0⟩

/-! #### struct type 42 -/
structure S42 where
  f0 : Bool
  f1 : Int
  f2 : Int
  f3 : Bool
  f4 : S39
  f5 : Int
  f6 : Int
  f7 : Int
  f8 : Int
  f9 : Int
  f10 : Int
  f11 : Int
  f12 : Bool
  f13 : Int
  f14 : Int
  f15 : Int
  f16 : Int
  f17 : Int
  f18 : (List Int)
  f19 : (List Int)
  f20 : Int
  f21 : Int
  f22 : Int
def z42 : S42 := ⟨false, (0 : Int), (0 : Int), false, z39, (0 : Int), (0 : Int), (0 : Int), (0 : Int), (0 : Int), (0 : Int), (0 : Int), false, (0 : Int), (0 : Int), (0 : Int), (0 : Int), (0 : Int), ([] : List Int), ([] : List Int), (0 : Int), (0 : Int), (0 : Int)⟩
def k42 : Kd S42 := Kd.iso (Kd.pair Kd.bool (Kd.pair (Kd.int .i64) (Kd.pair (Kd.int .i64) (Kd.pair Kd.bool (Kd.pair k39 (Kd.pair (Kd.int .i64) (Kd.pair (Kd.int .i64) (Kd.pair (Kd.int .i64) (Kd.pair (Kd.int .i64) (Kd.pair (Kd.int .i64) (Kd.pair (Kd.int .i64) (Kd.pair (Kd.int .i64) (Kd.pair Kd.bool (Kd.pair (Kd.int .i64) (Kd.pair (Kd.int .u64) (Kd.pair (Kd.int .u64) (Kd.pair (Kd.int .u64) (Kd.pair (Kd.int .u64) (Kd.pair (Kd.slice 40 (Kd.int .u64)) (Kd.pair (Kd.slice 40 (Kd.int .u64)) (Kd.pair (Kd.int .i64) (Kd.pair (Kd.int .i64) (Kd.int .i64))))))))))))))))))))))) (fun x : S42 => (x.f0, x.f1, x.f2, x.f3, x.f4, x.f5, x.f6, x.f7, x.f8, x.f9, x.f10, x.f11, x.f12, x.f13, x.f14, x.f15, x.f16, x.f17, x.f18, x.f19, x.f20, x.f21, x.f22))
theorem k42_open {w : World} {x : S42} {cs : List Value} (h : k42.K w x cs) : ∃ A21 c21 A22 c22, cs = [.bool x.f0, .int .i64 x.f1, .int .i64 x.f2, .bool x.f3, .int .i64 x.f4.f0, .int .i64 x.f4.f1, .int .i64 x.f4.f2, .int .i64 x.f4.f3, .int .i64 x.f5, .int .i64 x.f6, .int .i64 x.f7, .int .i64 x.f8, .int .i64 x.f9, .int .i64 x.f10, .int .i64 x.f11, .bool x.f12, .int .i64 x.f13, .int .u64 x.f14, .int .u64 x.f15, .int .u64 x.f16, .int .u64 x.f17, .slice A21 x.f18.length c21, .slice A22 x.f19.length c22, .int .i64 x.f20, .int .i64 x.f21, .int .i64 x.f22] ∧ x.f18.length ≤ c21 ∧ (Kd.int .u64).C w A21 x.f18.length x.f18 ∧ x.f19.length ≤ c22 ∧ (Kd.int .u64).C w A22 x.f19.length x.f19 := by
  obtain ⟨_, _, rfl, rfl, ⟨_, _, rfl, rfl, ⟨_, _, rfl, rfl, ⟨_, _, rfl, rfl, ⟨_, _, rfl, s4, ⟨_, _, rfl, rfl, ⟨_, _, rfl, rfl, ⟨_, _, rfl, rfl, ⟨_, _, rfl, rfl, ⟨_, _, rfl, rfl, ⟨_, _, rfl, rfl, ⟨_, _, rfl, rfl, ⟨_, _, rfl, rfl, ⟨_, _, rfl, rfl, ⟨_, _, rfl, rfl, ⟨_, _, rfl, rfl, ⟨_, _, rfl, rfl, ⟨_, _, rfl, rfl, ⟨_, _, rfl, ⟨A21, c21, rfl, l21, g21⟩, ⟨_, _, rfl, ⟨A22, c22, rfl, l22, g22⟩, ⟨_, _, rfl, rfl, ⟨_, _, rfl, rfl, rfl⟩⟩⟩⟩⟩⟩⟩⟩⟩⟩⟩⟩⟩⟩⟩⟩⟩⟩⟩⟩⟩⟩ := h
  obtain rfl := k39_open s4
  exact ⟨A21, c21, A22, c22, rfl, l21, g21, l22, g22⟩
theorem k42_openM {w : World} {base : Nat} {ok : Nat → Prop} {x : S42} {cs : List Value} (h : k42.M w base ok x cs) : ∃ v21 v22, cs = [.bool x.f0, .int .i64 x.f1, .int .i64 x.f2, .bool x.f3, .int .i64 x.f4.f0, .int .i64 x.f4.f1, .int .i64 x.f4.f2, .int .i64 x.f4.f3, .int .i64 x.f5, .int .i64 x.f6, .int .i64 x.f7, .int .i64 x.f8, .int .i64 x.f9, .int .i64 x.f10, .int .i64 x.f11, .bool x.f12, .int .i64 x.f13, .int .u64 x.f14, .int .u64 x.f15, .int .u64 x.f16, .int .u64 x.f17, v21, v22, .int .i64 x.f20, .int .i64 x.f21, .int .i64 x.f22] ∧ (Kd.int .u64).R 40 w base ok v21 x.f18 ∧ (Kd.int .u64).R 40 w base ok v22 x.f19 := by
  obtain ⟨_, _, rfl, rfl, ⟨_, _, rfl, rfl, ⟨_, _, rfl, rfl, ⟨_, _, rfl, rfl, ⟨_, _, rfl, s4, ⟨_, _, rfl, rfl, ⟨_, _, rfl, rfl, ⟨_, _, rfl, rfl, ⟨_, _, rfl, rfl, ⟨_, _, rfl, rfl, ⟨_, _, rfl, rfl, ⟨_, _, rfl, rfl, ⟨_, _, rfl, rfl, ⟨_, _, rfl, rfl, ⟨_, _, rfl, rfl, ⟨_, _, rfl, rfl, ⟨_, _, rfl, rfl, ⟨_, _, rfl, rfl, ⟨_, _, rfl, ⟨v21, rfl, g21⟩, ⟨_, _, rfl, ⟨v22, rfl, g22⟩, ⟨_, _, rfl, rfl, ⟨_, _, rfl, rfl, rfl⟩⟩⟩⟩⟩⟩⟩⟩⟩⟩⟩⟩⟩⟩⟩⟩⟩⟩⟩⟩⟩⟩ := h
  obtain rfl := k39_openM s4
  exact ⟨v21, v22, rfl, g21, g22⟩
theorem k42_mk (w : World) (x : S42) {A21 : Option Addr} {c21 : Nat} (l21 : x.f18.length ≤ c21) (g21 : (Kd.int .u64).C w A21 x.f18.length x.f18) {A22 : Option Addr} {c22 : Nat} (l22 : x.f19.length ≤ c22) (g22 : (Kd.int .u64).C w A22 x.f19.length x.f19) : k42.K w x [.bool x.f0, .int .i64 x.f1, .int .i64 x.f2, .bool x.f3, .int .i64 x.f4.f0, .int .i64 x.f4.f1, .int .i64 x.f4.f2, .int .i64 x.f4.f3, .int .i64 x.f5, .int .i64 x.f6, .int .i64 x.f7, .int .i64 x.f8, .int .i64 x.f9, .int .i64 x.f10, .int .i64 x.f11, .bool x.f12, .int .i64 x.f13, .int .u64 x.f14, .int .u64 x.f15, .int .u64 x.f16, .int .u64 x.f17, .slice A21 x.f18.length c21, .slice A22 x.f19.length c22, .int .i64 x.f20, .int .i64 x.f21, .int .i64 x.f22] := ⟨[.bool x.f0], [.int .i64 x.f1, .int .i64 x.f2, .bool x.f3, .int .i64 x.f4.f0, .int .i64 x.f4.f1, .int .i64 x.f4.f2, .int .i64 x.f4.f3, .int .i64 x.f5, .int .i64 x.f6, .int .i64 x.f7, .int .i64 x.f8, .int .i64 x.f9, .int .i64 x.f10, .int .i64 x.f11, .bool x.f12, .int .i64 x.f13, .int .u64 x.f14, .int .u64 x.f15, .int .u64 x.f16, .int .u64 x.f17, .slice A21 x.f18.length c21, .slice A22 x.f19.length c22, .int .i64 x.f20, .int .i64 x.f21, .int .i64 x.f22], rfl, rfl, ⟨[.int .i64 x.f1], [.int .i64 x.f2, .bool x.f3, .int .i64 x.f4.f0, .int .i64 x.f4.f1, .int .i64 x.f4.f2, .int .i64 x.f4.f3, .int .i64 x.f5, .int .i64 x.f6, .int .i64 x.f7, .int .i64 x.f8, .int .i64 x.f9, .int .i64 x.f10, .int .i64 x.f11, .bool x.f12, .int .i64 x.f13, .int .u64 x.f14, .int .u64 x.f15, .int .u64 x.f16, .int .u64 x.f17, .slice A21 x.f18.length c21, .slice A22 x.f19.length c22, .int .i64 x.f20, .int .i64 x.f21, .int .i64 x.f22], rfl, rfl, ⟨[.int .i64 x.f2], [.bool x.f3, .int .i64 x.f4.f0, .int .i64 x.f4.f1, .int .i64 x.f4.f2, .int .i64 x.f4.f3, .int .i64 x.f5, .int .i64 x.f6, .int .i64 x.f7, .int .i64 x.f8, .int .i64 x.f9, .int .i64 x.f10, .int .i64 x.f11, .bool x.f12, .int .i64 x.f13, .int .u64 x.f14, .int .u64 x.f15, .int .u64 x.f16, .int .u64 x.f17, .slice A21 x.f18.length c21, .slice A22 x.f19.length c22, .int .i64 x.f20, .int .i64 x.f21, .int .i64 x.f22], rfl, rfl, ⟨[.bool x.f3], [.int .i64 x.f4.f0, .int .i64 x.f4.f1, .int .i64 x.f4.f2, .int .i64 x.f4.f3, .int .i64 x.f5, .int .i64 x.f6, .int .i64 x.f7, .int .i64 x.f8, .int .i64 x.f9, .int .i64 x.f10, .int .i64 x.f11, .bool x.f12, .int .i64 x.f13, .int .u64 x.f14, .int .u64 x.f15, .int .u64 x.f16, .int .u64 x.f17, .slice A21 x.f18.length c21, .slice A22 x.f19.length c22, .int .i64 x.f20, .int .i64 x.f21, .int .i64 x.f22], rfl, rfl, ⟨[.int .i64 x.f4.f0, .int .i64 x.f4.f1, .int .i64 x.f4.f2, .int .i64 x.f4.f3], [.int .i64 x.f5, .int .i64 x.f6, .int .i64 x.f7, .int .i64 x.f8, .int .i64 x.f9, .int .i64 x.f10, .int .i64 x.f11, .bool x.f12, .int .i64 x.f13, .int .u64 x.f14, .int .u64 x.f15, .int .u64 x.f16, .int .u64 x.f17, .slice A21 x.f18.length c21, .slice A22 x.f19.length c22, .int .i64 x.f20, .int .i64 x.f21, .int .i64 x.f22], rfl, (k39_mk w x.f4 ), ⟨[.int .i64 x.f5], [.int .i64 x.f6, .int .i64 x.f7, .int .i64 x.f8, .int .i64 x.f9, .int .i64 x.f10, .int .i64 x.f11, .bool x.f12, .int .i64 x.f13, .int .u64 x.f14, .int .u64 x.f15, .int .u64 x.f16, .int .u64 x.f17, .slice A21 x.f18.length c21, .slice A22 x.f19.length c22, .int .i64 x.f20, .int .i64 x.f21, .int .i64 x.f22], rfl, rfl, ⟨[.int .i64 x.f6], [.int .i64 x.f7, .int .i64 x.f8, .int .i64 x.f9, .int .i64 x.f10, .int .i64 x.f11, .bool x.f12, .int .i64 x.f13, .int .u64 x.f14, .int .u64 x.f15, .int .u64 x.f16, .int .u64 x.f17, .slice A21 x.f18.length c21, .slice A22 x.f19.length c22, .int .i64 x.f20, .int .i64 x.f21, .int .i64 x.f22], rfl, rfl, ⟨[.int .i64 x.f7], [.int .i64 x.f8, .int .i64 x.f9, .int .i64 x.f10, .int .i64 x.f11, .bool x.f12, .int .i64 x.f13, .int .u64 x.f14, .int .u64 x.f15, .int .u64 x.f16, .int .u64 x.f17, .slice A21 x.f18.length c21, .slice A22 x.f19.length c22, .int .i64 x.f20, .int .i64 x.f21, .int .i64 x.f22], rfl, rfl, ⟨[.int .i64 x.f8], [.int .i64 x.f9, .int .i64 x.f10, .int .i64 x.f11, .bool x.f12, .int .i64 x.f13, .int .u64 x.f14, .int .u64 x.f15, .int .u64 x.f16, .int .u64 x.f17, .slice A21 x.f18.length c21, .slice A22 x.f19.length c22, .int .i64 x.f20, .int .i64 x.f21, .int .i64 x.f22], rfl, rfl, ⟨[.int .i64 x.f9], [.int .i64 x.f10, .int .i64 x.f11, .bool x.f12, .int .i64 x.f13, .int .u64 x.f14, .int .u64 x.f15, .int .u64 x.f16, .int .u64 x.f17, .slice A21 x.f18.length c21, .slice A22 x.f19.length c22, .int .i64 x.f20, .int .i64 x.f21, .int .i64 x.f22], rfl, rfl, ⟨[.int .i64 x.f10], [.int .i64 x.f11, .bool x.f12, .int .i64 x.f13, .int .u64 x.f14, .int .u64 x.f15, .int .u64 x.f16, .int .u64 x.f17, .slice A21 x.f18.length c21, .slice A22 x.f19.length c22, .int .i64 x.f20, .int .i64 x.f21, .int .i64 x.f22], rfl, rfl, ⟨[.int .i64 x.f11], [.bool x.f12, .int .i64 x.f13, .int .u64 x.f14, .int .u64 x.f15, .int .u64 x.f16, .int .u64 x.f17, .slice A21 x.f18.length c21, .slice A22 x.f19.length c22, .int .i64 x.f20, .int .i64 x.f21, .int .i64 x.f22], rfl, rfl, ⟨[.bool x.f12], [.int .i64 x.f13, .int .u64 x.f14, .int .u64 x.f15, .int .u64 x.f16, .int .u64 x.f17, .slice A21 x.f18.length c21, .slice A22 x.f19.length c22, .int .i64 x.f20, .int .i64 x.f21, .int .i64 x.f22], rfl, rfl, ⟨[.int .i64 x.f13], [.int .u64 x.f14, .int .u64 x.f15, .int .u64 x.f16, .int .u64 x.f17, .slice A21 x.f18.length c21, .slice A22 x.f19.length c22, .int .i64 x.f20, .int .i64 x.f21, .int .i64 x.f22], rfl, rfl, ⟨[.int .u64 x.f14], [.int .u64 x.f15, .int .u64 x.f16, .int .u64 x.f17, .slice A21 x.f18.length c21, .slice A22 x.f19.length c22, .int .i64 x.f20, .int .i64 x.f21, .int .i64 x.f22], rfl, rfl, ⟨[.int .u64 x.f15], [.int .u64 x.f16, .int .u64 x.f17, .slice A21 x.f18.length c21, .slice A22 x.f19.length c22, .int .i64 x.f20, .int .i64 x.f21, .int .i64 x.f22], rfl, rfl, ⟨[.int .u64 x.f16], [.int .u64 x.f17, .slice A21 x.f18.length c21, .slice A22 x.f19.length c22, .int .i64 x.f20, .int .i64 x.f21, .int .i64 x.f22], rfl, rfl, ⟨[.int .u64 x.f17], [.slice A21 x.f18.length c21, .slice A22 x.f19.length c22, .int .i64 x.f20, .int .i64 x.f21, .int .i64 x.f22], rfl, rfl, ⟨[.slice A21 x.f18.length c21], [.slice A22 x.f19.length c22, .int .i64 x.f20, .int .i64 x.f21, .int .i64 x.f22], rfl, ⟨A21, c21, rfl, l21, g21⟩, ⟨[.slice A22 x.f19.length c22], [.int .i64 x.f20, .int .i64 x.f21, .int .i64 x.f22], rfl, ⟨A22, c22, rfl, l22, g22⟩, ⟨[.int .i64 x.f20], [.int .i64 x.f21, .int .i64 x.f22], rfl, rfl, ⟨[.int .i64 x.f21], [.int .i64 x.f22], rfl, rfl, rfl⟩⟩⟩⟩⟩⟩⟩⟩⟩⟩⟩⟩⟩⟩⟩⟩⟩⟩⟩⟩⟩⟩
theorem k42_mkM (w : World) (base : Nat) (ok : Nat → Prop) (x : S42) {v21 : Value} (g21 : (Kd.int .u64).R 40 w base ok v21 x.f18) {v22 : Value} (g22 : (Kd.int .u64).R 40 w base ok v22 x.f19) : k42.M w base ok x [.bool x.f0, .int .i64 x.f1, .int .i64 x.f2, .bool x.f3, .int .i64 x.f4.f0, .int .i64 x.f4.f1, .int .i64 x.f4.f2, .int .i64 x.f4.f3, .int .i64 x.f5, .int .i64 x.f6, .int .i64 x.f7, .int .i64 x.f8, .int .i64 x.f9, .int .i64 x.f10, .int .i64 x.f11, .bool x.f12, .int .i64 x.f13, .int .u64 x.f14, .int .u64 x.f15, .int .u64 x.f16, .int .u64 x.f17, v21, v22, .int .i64 x.f20, .int .i64 x.f21, .int .i64 x.f22] := ⟨[.bool x.f0], [.int .i64 x.f1, .int .i64 x.f2, .bool x.f3, .int .i64 x.f4.f0, .int .i64 x.f4.f1, .int .i64 x.f4.f2, .int .i64 x.f4.f3, .int .i64 x.f5, .int .i64 x.f6, .int .i64 x.f7, .int .i64 x.f8, .int .i64 x.f9, .int .i64 x.f10, .int .i64 x.f11, .bool x.f12, .int .i64 x.f13, .int .u64 x.f14, .int .u64 x.f15, .int .u64 x.f16, .int .u64 x.f17, v21, v22, .int .i64 x.f20, .int .i64 x.f21, .int .i64 x.f22], rfl, rfl, ⟨[.int .i64 x.f1], [.int .i64 x.f2, .bool x.f3, .int .i64 x.f4.f0, .int .i64 x.f4.f1, .int .i64 x.f4.f2, .int .i64 x.f4.f3, .int .i64 x.f5, .int .i64 x.f6, .int .i64 x.f7, .int .i64 x.f8, .int .i64 x.f9, .int .i64 x.f10, .int .i64 x.f11, .bool x.f12, .int .i64 x.f13, .int .u64 x.f14, .int .u64 x.f15, .int .u64 x.f16, .int .u64 x.f17, v21, v22, .int .i64 x.f20, .int .i64 x.f21, .int .i64 x.f22], rfl, rfl, ⟨[.int .i64 x.f2], [.bool x.f3, .int .i64 x.f4.f0, .int .i64 x.f4.f1, .int .i64 x.f4.f2, .int .i64 x.f4.f3, .int .i64 x.f5, .int .i64 x.f6, .int .i64 x.f7, .int .i64 x.f8, .int .i64 x.f9, .int .i64 x.f10, .int .i64 x.f11, .bool x.f12, .int .i64 x.f13, .int .u64 x.f14, .int .u64 x.f15, .int .u64 x.f16, .int .u64 x.f17, v21, v22, .int .i64 x.f20, .int .i64 x.f21, .int .i64 x.f22], rfl, rfl, ⟨[.bool x.f3], [.int .i64 x.f4.f0, .int .i64 x.f4.f1, .int .i64 x.f4.f2, .int .i64 x.f4.f3, .int .i64 x.f5, .int .i64 x.f6, .int .i64 x.f7, .int .i64 x.f8, .int .i64 x.f9, .int .i64 x.f10, .int .i64 x.f11, .bool x.f12, .int .i64 x.f13, .int .u64 x.f14, .int .u64 x.f15, .int .u64 x.f16, .int .u64 x.f17, v21, v22, .int .i64 x.f20, .int .i64 x.f21, .int .i64 x.f22], rfl, rfl, ⟨[.int .i64 x.f4.f0, .int .i64 x.f4.f1, .int .i64 x.f4.f2, .int .i64 x.f4.f3], [.int .i64 x.f5, .int .i64 x.f6, .int .i64 x.f7, .int .i64 x.f8, .int .i64 x.f9, .int .i64 x.f10, .int .i64 x.f11, .bool x.f12, .int .i64 x.f13, .int .u64 x.f14, .int .u64 x.f15, .int .u64 x.f16, .int .u64 x.f17, v21, v22, .int .i64 x.f20, .int .i64 x.f21, .int .i64 x.f22], rfl, (k39_mkM w base ok x.f4 ), ⟨[.int .i64 x.f5], [.int .i64 x.f6, .int .i64 x.f7, .int .i64 x.f8, .int .i64 x.f9, .int .i64 x.f10, .int .i64 x.f11, .bool x.f12, .int .i64 x.f13, .int .u64 x.f14, .int .u64 x.f15, .int .u64 x.f16, .int .u64 x.f17, v21, v22, .int .i64 x.f20, .int .i64 x.f21, .int .i64 x.f22], rfl, rfl, ⟨[.int .i64 x.f6], [.int .i64 x.f7, .int .i64 x.f8, .int .i64 x.f9, .int .i64 x.f10, .int .i64 x.f11, .bool x.f12, .int .i64 x.f13, .int .u64 x.f14, .int .u64 x.f15, .int .u64 x.f16, .int .u64 x.f17, v21, v22, .int .i64 x.f20, .int .i64 x.f21, .int .i64 x.f22], rfl, rfl, ⟨[.int .i64 x.f7], [.int .i64 x.f8, .int .i64 x.f9, .int .i64 x.f10, .int .i64 x.f11, .bool x.f12, .int .i64 x.f13, .int .u64 x.f14, .int .u64 x.f15, .int .u64 x.f16, .int .u64 x.f17, v21, v22, .int .i64 x.f20, .int .i64 x.f21, .int .i64 x.f22], rfl, rfl, ⟨[.int .i64 x.f8], [.int .i64 x.f9, .int .i64 x.f10, .int .i64 x.f11, .bool x.f12, .int .i64 x.f13, .int .u64 x.f14, .int .u64 x.f15, .int .u64 x.f16, .int .u64 x.f17, v21, v22, .int .i64 x.f20, .int .i64 x.f21, .int .i64 x.f22], rfl, rfl, ⟨[.int .i64 x.f9], [.int .i64 x.f10, .int .i64 x.f11, .bool x.f12, .int .i64 x.f13, .int .u64 x.f14, .int .u64 x.f15, .int .u64 x.f16, .int .u64 x.f17, v21, v22, .int .i64 x.f20, .int .i64 x.f21, .int .i64 x.f22], rfl, rfl, ⟨[.int .i64 x.f10], [.int .i64 x.f11, .bool x.f12, .int .i64 x.f13, .int .u64 x.f14, .int .u64 x.f15, .int .u64 x.f16, .int .u64 x.f17, v21, v22, .int .i64 x.f20, .int .i64 x.f21, .int .i64 x.f22], rfl, rfl, ⟨[.int .i64 x.f11], [.bool x.f12, .int .i64 x.f13, .int .u64 x.f14, .int .u64 x.f15, .int .u64 x.f16, .int .u64 x.f17, v21, v22, .int .i64 x.f20, .int .i64 x.f21, .int .i64 x.f22], rfl, rfl, ⟨[.bool x.f12], [.int .i64 x.f13, .int .u64 x.f14, .int .u64 x.f15, .int .u64 x.f16, .int .u64 x.f17, v21, v22, .int .i64 x.f20, .int .i64 x.f21, .int .i64 x.f22], rfl, rfl, ⟨[.int .i64 x.f13], [.int .u64 x.f14, .int .u64 x.f15, .int .u64 x.f16, .int .u64 x.f17, v21, v22, .int .i64 x.f20, .int .i64 x.f21, .int .i64 x.f22], rfl, rfl, ⟨[.int .u64 x.f14], [.int .u64 x.f15, .int .u64 x.f16, .int .u64 x.f17, v21, v22, .int .i64 x.f20, .int .i64 x.f21, .int .i64 x.f22], rfl, rfl, ⟨[.int .u64 x.f15], [.int .u64 x.f16, .int .u64 x.f17, v21, v22, .int .i64 x.f20, .int .i64 x.f21, .int .i64 x.f22], rfl, rfl, ⟨[.int .u64 x.f16], [.int .u64 x.f17, v21, v22, .int .i64 x.f20, .int .i64 x.f21, .int .i64 x.f22], rfl, rfl, ⟨[.int .u64 x.f17], [v21, v22, .int .i64 x.f20, .int .i64 x.f21, .int .i64 x.f22], rfl, rfl, ⟨[v21], [v22, .int .i64 x.f20, .int .i64 x.f21, .int .i64 x.f22], rfl, ⟨v21, rfl, g21⟩, ⟨[v22], [.int .i64 x.f20, .int .i64 x.f21, .int .i64 x.f22], rfl, ⟨v22, rfl, g22⟩, ⟨[.int .i64 x.f20], [.int .i64 x.f21, .int .i64 x.f22], rfl, rfl, ⟨[.int .i64 x.f21], [.int .i64 x.f22], rfl, rfl, rfl⟩⟩⟩⟩⟩⟩⟩⟩⟩⟩⟩⟩⟩⟩⟩⟩⟩⟩⟩⟩⟩⟩
def rd_T42 (xs : List S42) (i : Int) : S42 := xs.getD i.toNat z42
theorem at_T42 {w : World} {A : Option Addr} {n : Nat} {xs : List S42} (h : Kd.C k42 w A n xs) (i : Int) (h0 : 0 ≤ i) (h1 : i < n) : ∃ ad A21 c21 A22 c22, A = some ad ∧ w.cell? (ad.add (i.toNat * 26)) = some (.bool (rd_T42 xs i).f0) ∧ w.cell? ⟨(ad.add (i.toNat * 26)).block, (ad.add (i.toNat * 26)).off + 1, none⟩ = some (.int .i64 (rd_T42 xs i).f1) ∧ w.cell? ⟨(ad.add (i.toNat * 26)).block, (ad.add (i.toNat * 26)).off + 2, none⟩ = some (.int .i64 (rd_T42 xs i).f2) ∧ w.cell? ⟨(ad.add (i.toNat * 26)).block, (ad.add (i.toNat * 26)).off + 3, none⟩ = some (.bool (rd_T42 xs i).f3) ∧ w.cell? ⟨(ad.add (i.toNat * 26)).block, (ad.add (i.toNat * 26)).off + 4, none⟩ = some (.int .i64 (rd_T42 xs i).f4.f0) ∧ w.cell? ⟨(ad.add (i.toNat * 26)).block, (ad.add (i.toNat * 26)).off + 5, none⟩ = some (.int .i64 (rd_T42 xs i).f4.f1) ∧ w.cell? ⟨(ad.add (i.toNat * 26)).block, (ad.add (i.toNat * 26)).off + 6, none⟩ = some (.int .i64 (rd_T42 xs i).f4.f2) ∧ w.cell? ⟨(ad.add (i.toNat * 26)).block, (ad.add (i.toNat * 26)).off + 7, none⟩ = some (.int .i64 (rd_T42 xs i).f4.f3) ∧ w.cell? ⟨(ad.add (i.toNat * 26)).block, (ad.add (i.toNat * 26)).off + 8, none⟩ = some (.int .i64 (rd_T42 xs i).f5) ∧ w.cell? ⟨(ad.add (i.toNat * 26)).block, (ad.add (i.toNat * 26)).off + 9, none⟩ = some (.int .i64 (rd_T42 xs i).f6) ∧ w.cell? ⟨(ad.add (i.toNat * 26)).block, (ad.add (i.toNat * 26)).off + 10, none⟩ = some (.int .i64 (rd_T42 xs i).f7) ∧ w.cell? ⟨(ad.add (i.toNat * 26)).block, (ad.add (i.toNat * 26)).off + 11, none⟩ = some (.int .i64 (rd_T42 xs i).f8) ∧ w.cell? ⟨(ad.add (i.toNat * 26)).block, (ad.add (i.toNat * 26)).off + 12, none⟩ = some (.int .i64 (rd_T42 xs i).f9) ∧ w.cell? ⟨(ad.add (i.toNat * 26)).block, (ad.add (i.toNat * 26)).off + 13, none⟩ = some (.int .i64 (rd_T42 xs i).f10) ∧ w.cell? ⟨(ad.add (i.toNat * 26)).block, (ad.add (i.toNat * 26)).off + 14, none⟩ = some (.int .i64 (rd_T42 xs i).f11) ∧ w.cell? ⟨(ad.add (i.toNat * 26)).block, (ad.add (i.toNat * 26)).off + 15, none⟩ = some (.bool (rd_T42 xs i).f12) ∧ w.cell? ⟨(ad.add (i.toNat * 26)).block, (ad.add (i.toNat * 26)).off + 16, none⟩ = some (.int .i64 (rd_T42 xs i).f13) ∧ w.cell? ⟨(ad.add (i.toNat * 26)).block, (ad.add (i.toNat * 26)).off + 17, none⟩ = some (.int .u64 (rd_T42 xs i).f14) ∧ w.cell? ⟨(ad.add (i.toNat * 26)).block, (ad.add (i.toNat * 26)).off + 18, none⟩ = some (.int .u64 (rd_T42 xs i).f15) ∧ w.cell? ⟨(ad.add (i.toNat * 26)).block, (ad.add (i.toNat * 26)).off + 19, none⟩ = some (.int .u64 (rd_T42 xs i).f16) ∧ w.cell? ⟨(ad.add (i.toNat * 26)).block, (ad.add (i.toNat * 26)).off + 20, none⟩ = some (.int .u64 (rd_T42 xs i).f17) ∧ w.cell? ⟨(ad.add (i.toNat * 26)).block, (ad.add (i.toNat * 26)).off + 21, none⟩ = some (.slice A21 (rd_T42 xs i).f18.length c21) ∧ w.cell? ⟨(ad.add (i.toNat * 26)).block, (ad.add (i.toNat * 26)).off + 22, none⟩ = some (.slice A22 (rd_T42 xs i).f19.length c22) ∧ w.cell? ⟨(ad.add (i.toNat * 26)).block, (ad.add (i.toNat * 26)).off + 23, none⟩ = some (.int .i64 (rd_T42 xs i).f20) ∧ w.cell? ⟨(ad.add (i.toNat * 26)).block, (ad.add (i.toNat * 26)).off + 24, none⟩ = some (.int .i64 (rd_T42 xs i).f21) ∧ w.cell? ⟨(ad.add (i.toNat * 26)).block, (ad.add (i.toNat * 26)).off + 25, none⟩ = some (.int .i64 (rd_T42 xs i).f22) ∧ (rd_T42 xs i).f18.length ≤ c21 ∧ (Kd.int .u64).C w A21 (rd_T42 xs i).f18.length (rd_T42 xs i).f18 ∧ (rd_T42 xs i).f19.length ≤ c22 ∧ (Kd.int .u64).C w A22 (rd_T42 xs i).f19.length (rd_T42 xs i).f19 := by
  obtain ⟨ad, c, e, _, hK, hc0⟩ := Kd.C_get h z42 i h0 h1
  have hc : ∀ j u, c[j]? = some u → w.cell? (ad.add (i.toNat * 26 + j)) = some u := hc0
  obtain ⟨A21, c21, A22, c22, rfl, l21, g21, l22, g22⟩ := k42_open hK
  exact ⟨ad, A21, c21, A22, c22, e, hc 0 _ rfl, by rw [← add_field _ _ 1 (by omega)]; exact hc 1 _ rfl, by rw [← add_field _ _ 2 (by omega)]; exact hc 2 _ rfl, by rw [← add_field _ _ 3 (by omega)]; exact hc 3 _ rfl, by rw [← add_field _ _ 4 (by omega)]; exact hc 4 _ rfl, by rw [← add_field _ _ 5 (by omega)]; exact hc 5 _ rfl, by rw [← add_field _ _ 6 (by omega)]; exact hc 6 _ rfl, by rw [← add_field _ _ 7 (by omega)]; exact hc 7 _ rfl, by rw [← add_field _ _ 8 (by omega)]; exact hc 8 _ rfl, by rw [← add_field _ _ 9 (by omega)]; exact hc 9 _ rfl, by rw [← add_field _ _ 10 (by omega)]; exact hc 10 _ rfl, by rw [← add_field _ _ 11 (by omega)]; exact hc 11 _ rfl, by rw [← add_field _ _ 12 (by omega)]; exact hc 12 _ rfl, by rw [← add_field _ _ 13 (by omega)]; exact hc 13 _ rfl, by rw [← add_field _ _ 14 (by omega)]; exact hc 14 _ rfl, by rw [← add_field _ _ 15 (by omega)]; exact hc 15 _ rfl, by rw [← add_field _ _ 16 (by omega)]; exact hc 16 _ rfl, by rw [← add_field _ _ 17 (by omega)]; exact hc 17 _ rfl, by rw [← add_field _ _ 18 (by omega)]; exact hc 18 _ rfl, by rw [← add_field _ _ 19 (by omega)]; exact hc 19 _ rfl, by rw [← add_field _ _ 20 (by omega)]; exact hc 20 _ rfl, by rw [← add_field _ _ 21 (by omega)]; exact hc 21 _ rfl, by rw [← add_field _ _ 22 (by omega)]; exact hc 22 _ rfl, by rw [← add_field _ _ 23 (by omega)]; exact hc 23 _ rfl, by rw [← add_field _ _ 24 (by omega)]; exact hc 24 _ rfl, by rw [← add_field _ _ 25 (by omega)]; exact hc 25 _ rfl, l21, g21, l22, g22⟩

end Go.Proofs.Ytbcpkbbdmkmpkaa.PFnExactWorldOpen
