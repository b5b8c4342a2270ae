/- FnExactGuestAsk: the law's own walk. -/
import Derived.Test.YtbcpkbbdmkmpkaaGc
import Derived.Test.YtbcpkbbdmkmpkaaGd
set_option linter.unusedVariables false
set_option linter.unusedSimpArgs false
namespace Go.Proofs.Ytbcpkbbdmkmpkaa.Gu
open Go.RowKit Go.Proofs.YtbcpkbbdmkmpkaaW.PrintWords Go.Proofs.YtbcpkbbdmkmpkaaW.PrintLast Go.Proofs.YtbcpkbbdmkmpkaaW.PrintMore Go.Proofs.Ytbcpkbbdmkmpkaa.St0

def askQ (g : Gu) (k0 k2 k3 : Int) : Gu := { g with opK := k0, opS := g.slot, opA := k2, opB := k3 }
/-- A guest that is asked. -/
def askG (g : Gu) (k0 k2 k3 : Int) : Gu :=
  if g.up = false ∨ g.busy = true ∨ 1000000 ≤ g.count then g
  else if k0 < 1 ∨ 6 < k0 then ansG (askQ g k0 k2 k3) 13 0
  else if k0 = 1 ∧ 0 < g.epoch then ansG (askQ g k0 k2 k3) 6 0
  else if k0 ≠ 1 ∧ g.epoch = 0 then ansG (askQ g k0 k2 k3) 9 0
  else { askQ g k0 k2 k3 with busy := true, pc := if k0 = 1 then 4 else 1 }
theorem askG_len (g : Gu) (k0 k2 k3 : Int) : (askG g k0 k2 k3).snap.length ≤ g.snap.length ∧ (askG g k0 k2 k3).plan.length ≤ g.plan.length := by
  unfold askG
  repeat' split
  all_goals simp [ansG, askQ]
theorem specAsk_calls (g : Gu) (k0 k1 k2 k3 : Int) (A : Option Addr) (cA : Nat) (B : Option Addr) (cB : Nat) (w : World) (h : GC w g A cA B cB) (hl : g.snap.length ≤ 1048576 ∧ g.plan.length ≤ 1048576) :
    Calls Try.prog 59 #[.agg (gC g A cA B cB), .agg #[.int .i64 k0, .int .i64 k1, .int .i64 k2, .int .i64 k3]] w (RetG (askG g k0 k2 k3) w) := by
  obtain ⟨up, slot, epoch, busy, opK, opS, opA, opB, pc, k, n, seq, next, who, whoE, own, time, was, door, beat, entry, snap, plan, code, val, count⟩ := g
  cases up with
  | false =>
    have e : askG ⟨false, slot, epoch, busy, opK, opS, opA, opB, pc, k, n, seq, next, who, whoE, own, time, was, door, beat, entry, snap, plan, code, val, count⟩ k0 k2 k3 = ⟨false, slot, epoch, busy, opK, opS, opA, opB, pc, k, n, seq, next, who, whoE, own, time, was, door, beat, entry, snap, plan, code, val, count⟩ := if_pos (Or.inl rfl)
    rw [e]
    exact specAsk_A _ _ _ _ _ _ _ _ _ _ _ _ _ _ _ _ _ _ _ _ _ _ _ _ _ _ _ _ _ A cA B cB w h hl 
  | true =>
    cases busy with
    | true =>
      have e : askG ⟨true, slot, epoch, true, opK, opS, opA, opB, pc, k, n, seq, next, who, whoE, own, time, was, door, beat, entry, snap, plan, code, val, count⟩ k0 k2 k3 = ⟨true, slot, epoch, true, opK, opS, opA, opB, pc, k, n, seq, next, who, whoE, own, time, was, door, beat, entry, snap, plan, code, val, count⟩ := if_pos (Or.inr (Or.inl rfl))
      rw [e]
      exact specAsk_B _ _ _ _ _ _ _ _ _ _ _ _ _ _ _ _ _ _ _ _ _ _ _ _ _ _ _ _ A cA B cB w h hl 
    | false =>
      by_cases hc : 1000000 ≤ count
      · have e : askG ⟨true, slot, epoch, false, opK, opS, opA, opB, pc, k, n, seq, next, who, whoE, own, time, was, door, beat, entry, snap, plan, code, val, count⟩ k0 k2 k3 = ⟨true, slot, epoch, false, opK, opS, opA, opB, pc, k, n, seq, next, who, whoE, own, time, was, door, beat, entry, snap, plan, code, val, count⟩ := if_pos (Or.inr (Or.inr hc))
        rw [e]
        exact specAsk_C _ _ _ _ _ _ _ _ _ _ _ _ _ _ _ _ _ _ _ _ _ _ _ _ _ _ _ _ A cA B cB w h hl (hc)
      · have e : askG ⟨true, slot, epoch, false, opK, opS, opA, opB, pc, k, n, seq, next, who, whoE, own, time, was, door, beat, entry, snap, plan, code, val, count⟩ k0 k2 k3 = if k0 < 1 ∨ 6 < k0 then ansG (askQ ⟨true, slot, epoch, false, opK, opS, opA, opB, pc, k, n, seq, next, who, whoE, own, time, was, door, beat, entry, snap, plan, code, val, count⟩ k0 k2 k3) 13 0
            else if k0 = 1 ∧ 0 < epoch then ansG (askQ ⟨true, slot, epoch, false, opK, opS, opA, opB, pc, k, n, seq, next, who, whoE, own, time, was, door, beat, entry, snap, plan, code, val, count⟩ k0 k2 k3) 6 0
            else if k0 ≠ 1 ∧ epoch = 0 then ansG (askQ ⟨true, slot, epoch, false, opK, opS, opA, opB, pc, k, n, seq, next, who, whoE, own, time, was, door, beat, entry, snap, plan, code, val, count⟩ k0 k2 k3) 9 0
            else { askQ ⟨true, slot, epoch, false, opK, opS, opA, opB, pc, k, n, seq, next, who, whoE, own, time, was, door, beat, entry, snap, plan, code, val, count⟩ k0 k2 k3 with busy := true, pc := if k0 = 1 then 4 else 1 } := if_neg (by simpa using hc)
        rw [e]
        clear e
        by_cases h1 : k0 < 1
        · rw [if_pos (Or.inl h1)]
          exact specAsk_D1 _ _ _ _ _ _ _ _ _ _ _ _ _ _ _ _ _ _ _ _ _ _ _ _ _ _ _ _ A cA B cB w h hl (hc) (h1)
        by_cases h6 : 6 < k0
        · rw [if_pos (Or.inr h6)]
          exact specAsk_D2 _ _ _ _ _ _ _ _ _ _ _ _ _ _ _ _ _ _ _ _ _ _ _ _ _ _ _ _ A cA B cB w h hl (hc) (h1) (h6)
        rw [if_neg (by omega)]
        by_cases hk : k0 = 1
        · subst hk
          by_cases he : 0 < epoch
          · rw [if_pos ⟨rfl, he⟩]
            exact specAsk_D3 _ _ _ _ _ _ _ _ _ _ _ _ _ _ _ _ _ _ _ _ _ _ _ _ _ _ _ A cA B cB w h hl (hc) (he)
          · rw [if_neg (fun q => he q.2), if_neg (fun q => q.1 rfl)]
            exact specAsk_D4 _ _ _ _ _ _ _ _ _ _ _ _ _ _ _ _ _ _ _ _ _ _ _ _ _ _ _ A cA B cB w h hl (hc) (he)
        · rw [if_neg (fun q => hk q.1)]
          by_cases he : epoch = 0
          · subst he
            rw [if_pos ⟨hk, rfl⟩]
            exact specAsk_D5 _ _ _ _ _ _ _ _ _ _ _ _ _ _ _ _ _ _ _ _ _ _ _ _ _ _ _ A cA B cB w h hl (hc) (h1) (h6) (beq_eq_false_iff_ne.mpr hk) (bne_iff_ne.mpr hk)
          · rw [if_neg (fun q => he q.2), if_neg hk]
            exact specAsk_D6 _ _ _ _ _ _ _ _ _ _ _ _ _ _ _ _ _ _ _ _ _ _ _ _ _ _ _ _ A cA B cB w h hl (hc) (h1) (h6) (beq_eq_false_iff_ne.mpr hk) (bne_iff_ne.mpr hk) (beq_eq_false_iff_ne.mpr he)
theorem implAsk_calls (g : Gu) (k0 k1 k2 k3 : Int) (A : Option Addr) (cA : Nat) (B : Option Addr) (cB : Nat) (w : World) (h : GC w g A cA B cB) (hl : g.snap.length ≤ 1048576 ∧ g.plan.length ≤ 1048576) :
    Calls Try.prog 62 #[.agg (gC g A cA B cB), .agg #[.int .i64 k0, .int .i64 k1, .int .i64 k2, .int .i64 k3]] w (RetG (askG g k0 k2 k3) w) := by
  obtain ⟨up, slot, epoch, busy, opK, opS, opA, opB, pc, k, n, seq, next, who, whoE, own, time, was, door, beat, entry, snap, plan, code, val, count⟩ := g
  cases up with
  | false =>
    have e : askG ⟨false, slot, epoch, busy, opK, opS, opA, opB, pc, k, n, seq, next, who, whoE, own, time, was, door, beat, entry, snap, plan, code, val, count⟩ k0 k2 k3 = ⟨false, slot, epoch, busy, opK, opS, opA, opB, pc, k, n, seq, next, who, whoE, own, time, was, door, beat, entry, snap, plan, code, val, count⟩ := if_pos (Or.inl rfl)
    rw [e]
    exact implAsk_A _ _ _ _ _ _ _ _ _ _ _ _ _ _ _ _ _ _ _ _ _ _ _ _ _ _ _ _ _ A cA B cB w h hl 
  | true =>
    cases busy with
    | true =>
      have e : askG ⟨true, slot, epoch, true, opK, opS, opA, opB, pc, k, n, seq, next, who, whoE, own, time, was, door, beat, entry, snap, plan, code, val, count⟩ k0 k2 k3 = ⟨true, slot, epoch, true, opK, opS, opA, opB, pc, k, n, seq, next, who, whoE, own, time, was, door, beat, entry, snap, plan, code, val, count⟩ := if_pos (Or.inr (Or.inl rfl))
      rw [e]
      exact implAsk_B _ _ _ _ _ _ _ _ _ _ _ _ _ _ _ _ _ _ _ _ _ _ _ _ _ _ _ _ A cA B cB w h hl 
    | false =>
      by_cases hc : 1000000 ≤ count
      · have e : askG ⟨true, slot, epoch, false, opK, opS, opA, opB, pc, k, n, seq, next, who, whoE, own, time, was, door, beat, entry, snap, plan, code, val, count⟩ k0 k2 k3 = ⟨true, slot, epoch, false, opK, opS, opA, opB, pc, k, n, seq, next, who, whoE, own, time, was, door, beat, entry, snap, plan, code, val, count⟩ := if_pos (Or.inr (Or.inr hc))
        rw [e]
        exact implAsk_C _ _ _ _ _ _ _ _ _ _ _ _ _ _ _ _ _ _ _ _ _ _ _ _ _ _ _ _ A cA B cB w h hl (hc)
      · have e : askG ⟨true, slot, epoch, false, opK, opS, opA, opB, pc, k, n, seq, next, who, whoE, own, time, was, door, beat, entry, snap, plan, code, val, count⟩ k0 k2 k3 = if k0 < 1 ∨ 6 < k0 then ansG (askQ ⟨true, slot, epoch, false, opK, opS, opA, opB, pc, k, n, seq, next, who, whoE, own, time, was, door, beat, entry, snap, plan, code, val, count⟩ k0 k2 k3) 13 0
            else if k0 = 1 ∧ 0 < epoch then ansG (askQ ⟨true, slot, epoch, false, opK, opS, opA, opB, pc, k, n, seq, next, who, whoE, own, time, was, door, beat, entry, snap, plan, code, val, count⟩ k0 k2 k3) 6 0
            else if k0 ≠ 1 ∧ epoch = 0 then ansG (askQ ⟨true, slot, epoch, false, opK, opS, opA, opB, pc, k, n, seq, next, who, whoE, own, time, was, door, beat, entry, snap, plan, code, val, count⟩ k0 k2 k3) 9 0
            else { askQ ⟨true, slot, epoch, false, opK, opS, opA, opB, pc, k, n, seq, next, who, whoE, own, time, was, door, beat, entry, snap, plan, code, val, count⟩ k0 k2 k3 with busy := true, pc := if k0 = 1 then 4 else 1 } := if_neg (by simpa using hc)
        rw [e]
        clear e
        by_cases h1 : k0 < 1
        · rw [if_pos (Or.inl h1)]
          exact implAsk_D1 _ _ _ _ _ _ _ _ _ _ _ _ _ _ _ _ _ _ _ _ _ _ _ _ _ _ _ _ A cA B cB w h hl (hc) (h1)
        by_cases h6 : 6 < k0
        · rw [if_pos (Or.inr h6)]
          exact implAsk_D2 _ _ _ _ _ _ _ _ _ _ _ _ _ _ _ _ _ _ _ _ _ _ _ _ _ _ _ _ A cA B cB w h hl (hc) (h1) (h6)
        rw [if_neg (by omega)]
        by_cases hk : k0 = 1
        · subst hk
          by_cases he : 0 < epoch
          · rw [if_pos ⟨rfl, he⟩]
            exact implAsk_D3 _ _ _ _ _ _ _ _ _ _ _ _ _ _ _ _ _ _ _ _ _ _ _ _ _ _ _ A cA B cB w h hl (hc) (he)
          · rw [if_neg (fun q => he q.2), if_neg (fun q => q.1 rfl)]
            exact implAsk_D4 _ _ _ _ _ _ _ _ _ _ _ _ _ _ _ _ _ _ _ _ _ _ _ _ _ _ _ A cA B cB w h hl (hc) (he)
        · rw [if_neg (fun q => hk q.1)]
          by_cases he : epoch = 0
          · subst he
            rw [if_pos ⟨hk, rfl⟩]
            exact implAsk_D5 _ _ _ _ _ _ _ _ _ _ _ _ _ _ _ _ _ _ _ _ _ _ _ _ _ _ _ A cA B cB w h hl (hc) (h1) (h6) (beq_eq_false_iff_ne.mpr hk) (bne_iff_ne.mpr hk)
          · rw [if_neg (fun q => he q.2), if_neg hk]
            exact implAsk_D6 _ _ _ _ _ _ _ _ _ _ _ _ _ _ _ _ _ _ _ _ _ _ _ _ _ _ _ _ A cA B cB w h hl (hc) (h1) (h6) (beq_eq_false_iff_ne.mpr hk) (bne_iff_ne.mpr hk) (beq_eq_false_iff_ne.mpr he)
set_option maxHeartbeats 8000000 in
set_option maxRecDepth 100000 in
theorem lawGuestAsk_calls (g : Gu) (A : Option Addr) (cA : Nat) (B : Option Addr) (cB : Nat) (k0 k1 k2 k3 : Int) (w : World) (h : GC w g A cA B cB) (hl : g.snap.length ≤ 9223372036854775807 ∧ g.plan.length ≤ 9223372036854775807) :
    Calls Try.prog 14 #[.agg (gC g A cA B cB), .agg #[.int .i64 k0, .int .i64 k1, .int .i64 k2, .int .i64 k3]] w fun e w' => e = .returned (.bool true) ∧ Below w.heap.size w w' := by
  have HR := Aside0.mk h
  have HL := Aside0.mk hl
  have HN : Aside0 (0 ≤ szG g 1048576 → g.snap.length ≤ 1048576 ∧ g.plan.length ≤ 1048576) := ⟨szG_nn (by omega) (by omega)⟩
  obtain ⟨z, hz⟩ : ∃ z, szG g 1048576 = z := ⟨_, rfl⟩
  rw [hz] at HN
  have HZ := Aside0.mk hz
  clear h hl hz
  by_cases hz0 : z < 0
  · skip
    have S := Aside0.mk (St.start w)
    go_enter Try.func14, Try.ntmps14
    go_wp2_with (first | ((with_reducible refine gate_dst (N := 2) rfl ?_); refine box_event rfl (N := 2) rfl (cs := gC g A cA B cB) (t := 68) (by first | (go_simp; done) | (go_simp; rfl)) ?_; intro gg hg_ w1 hbox_ hb_; have Sn_ := Aside0.mk (S.out.box hg_ hbox_ hb_); clear hbox_ hb_ hg_ S; have S := Sn_; clear Sn_) | ((with_reducible refine gate_dst (N := 3) rfl ?_); refine box_event rfl (N := 3) rfl (cs := #[.int .i64 k0, .int .i64 k1, .int .i64 k2, .int .i64 k3]) (t := 66) (by first | (go_simp; done) | (go_simp; rfl)) ?_; intro go hg_ w2 hbox_ hb_; have Sn_ := Aside0.mk (S.out.box hg_ hbox_ hb_); clear hbox_ hb_ hg_ S; have S := Sn_; clear Sn_) | ((with_reducible refine gate_dst (N := 13) rfl ?_); refine Kd.event_run rfl (Row.load_row_run (g := gg) (t := 68) (cells := gC g A cA B cB) rfl rfl (S.out.blk 1 rfl) Try.underlying68 rfl (by kernel_rfl)) ?_))
    refine (szG_calls g A cA B cB 1048576 _ (by omega) (by omega) HL.out.1 HL.out.2).mono ?_
    rintro e w3 ⟨rfl, hb⟩
    rw [HZ.out]
    have Sn_ := Aside0.mk (S.out.call hb)
    clear S hb
    have S := Sn_
    clear Sn_
    go_wp2
    go_ret
    exact ⟨rfl, S.out.base⟩
  have hz1 : 0 ≤ z := by omega
  have HM := Aside0.mk (HN.out hz1)
  obtain ⟨r, hr⟩ : ∃ r, askG g k0 k2 k3 = r := ⟨_, rfl⟩
  have HRR := Aside0.mk hr
  have HM2 : Aside0 (r.snap.length ≤ 1048576 ∧ r.plan.length ≤ 1048576) := ⟨by have := askG_len g k0 k2 k3; rw [hr] at this; have := HM.out; omega⟩
  have HM3 : Aside0 (r.snap.length ≤ 9223372036854775807 ∧ r.plan.length ≤ 9223372036854775807) := ⟨by have := HM2.out; omega⟩
  clear HN hz0 hr
  have S := Aside0.mk (St.start w)
  go_enter Try.func14, Try.ntmps14
  go_wp2_with (first | ((with_reducible refine gate_dst (N := 2) rfl ?_); refine box_event rfl (N := 2) rfl (cs := gC g A cA B cB) (t := 68) (by first | (go_simp; done) | (go_simp; rfl)) ?_; intro gg hg_ w1 hbox_ hb_; have Sn_ := Aside0.mk (S.out.box hg_ hbox_ hb_); clear hbox_ hb_ hg_ S; have S := Sn_; clear Sn_) | ((with_reducible refine gate_dst (N := 3) rfl ?_); refine box_event rfl (N := 3) rfl (cs := #[.int .i64 k0, .int .i64 k1, .int .i64 k2, .int .i64 k3]) (t := 66) (by first | (go_simp; done) | (go_simp; rfl)) ?_; intro go hg_ w2 hbox_ hb_; have Sn_ := Aside0.mk (S.out.box hg_ hbox_ hb_); clear hbox_ hb_ hg_ S; have S := Sn_; clear Sn_) | ((with_reducible refine gate_dst (N := 13) rfl ?_); refine Kd.event_run rfl (Row.load_row_run (g := gg) (t := 68) (cells := gC g A cA B cB) rfl rfl (S.out.blk 1 rfl) Try.underlying68 rfl (by kernel_rfl)) ?_))
  refine (szG_calls g A cA B cB 1048576 _ (by omega) (by omega) HL.out.1 HL.out.2).mono ?_
  rintro e w3 ⟨rfl, hb⟩
  rw [HZ.out]
  have Sn_ := Aside0.mk (S.out.call hb)
  clear S hb
  have S := Sn_
  clear Sn_
  go_wp2_with fail
  refine start_ (n := 7) (S := fun w_ => St w w_ [Blk go (#[.int .i64 k0, .int .i64 k1, .int .i64 k2, .int .i64 k3]) 66, Blk gg (gC g A cA B cB) 68]) (ds := [6]) #[false, false, false, false, false, false, false] (by kernel_rfl) rfl rfl (S.out.drew) (fun hH_ => ?_)
  refine take_ (i := 0) (N := some 18) (v := .agg (gC g A cA B cB)) (a' := ?_) #[true, false, false, false, false, false, false] rfl rfl (by kernel_rfl) (fun _ _ _ h => h) (Or.inl ⟨by rfl, fun w' s0 => Row.load_row_run (g := gg) (t := 68) (cells := gC g A cA B cB) rfl rfl (s0.blk 1 rfl) Try.underlying68 rfl (by kernel_rfl)⟩) hH_ ?_ ?_
  rotate_left
  · simp only [Act.put, List.setIfInBounds_toArray, List.set_cons_zero, List.set_cons_succ, i64_w, i32_w]
    rfl
  refine take_ (i := 2) (N := some 20) (v := .agg (#[.int .i64 k0, .int .i64 k1, .int .i64 k2, .int .i64 k3])) (a' := ?_) #[true, false, true, false, false, false, false] rfl rfl (by kernel_rfl) (fun _ _ _ h => h) (Or.inl ⟨by rfl, fun w' s0 => Row.load_row_run (g := go) (t := 66) (cells := #[.int .i64 k0, .int .i64 k1, .int .i64 k2, .int .i64 k3]) rfl rfl (s0.blk 0 rfl) Try.underlying66 rfl (by kernel_rfl)⟩) hH_ ?_ ?_
  rotate_left
  · simp only [Act.put, List.setIfInBounds_toArray, List.set_cons_zero, List.set_cons_succ, i64_w, i32_w]
    rfl
  refine join_ 1 #[true, true, true, true, true, true, false] (fun (s_ : Value × Value × Value × Nat) => [(19, s_.1), (21, s_.2.1), (22, s_.2.2.1), (6, .pointer (some ⟨s_.2.2.2, 0, none⟩))]) (fun s_ w_ => ∃ (A0 : Option Addr) (c0 : Nat) (B0 : Option Addr) (d0 : Nat) (lo_ hi_ : Nat), s_.2.2.1 = .agg (gC r A0 c0 B0 d0) ∧ St w w_ (Blk s_.2.2.2 (#[.bool false, .int .i64 0, .int .i64 0, .bool false, .int .i64 0, .int .i64 0, .int .i64 0, .int .i64 0, .int .i64 0, .int .i64 0, .int .i64 0, .int .i64 0, .int .i64 0, .int .i64 0, .int .i64 0, .bool false, .int .i64 0, .int .u64 0, .int .u64 0, .int .u64 0, .int .u64 0, .slice none 0 0, .slice none 0 0, .int .i64 0, .int .i64 0, .int .i64 0]) 42 :: ⟨lo_, hi_, fun w_ => GO lo_ hi_ r A0 c0 B0 d0 w_⟩ :: [Blk go (#[.int .i64 k0, .int .i64 k1, .int .i64 k2, .int .i64 k3]) 66, Blk gg (gC g A cA B cB) 68])) ?rest_ ?all_
  case all_ =>
    intro hjoin_
    have HJ_ := Aside0.mk hjoin_
    clear hjoin_
    refine two_ (i := 1) (j := 5) (Ni := some 19) (Nj := some 6) #[true, true, true, false, false, false, false] #[true, false, true, false, false, true, false] rfl rfl rfl rfl (by kernel_rfl) (by decide) (by decide) (fun K hK => ?_) (fun K hK => ?_)
    · skip
      refine goes_ Try.func60 (by kernel_rfl) rfl #[.agg (gC g A cA B cB)] (by rfl) rfl rfl (by (try simp only [List.map_toArray, List.map_cons, List.map_nil]); first | done | rfl) ?_
      refine (toG_calls g A cA B cB _ (HR.out.below hH_.base) HM.out).mono ?_
      rintro e w4 ⟨A1, c1, B1, d1, rfl, ho, hb⟩
      have HO1 := Aside0.mk ho.c
      clear ho
      have hHw4_ := hH_.call hb
      refine ⟨_, rfl, hK.out _ _ hHw4_ (fun hX_ => ?_)⟩
      clear hK K hX_
      refine norm_ (a' := ?_) ?_ ?_
      rotate_left
      · show Act.put _ (some 19) _ = _
        simp only [Act.put, List.setIfInBounds_toArray, List.set_cons_zero, List.set_cons_succ, i64_w, i32_w]
        rfl
      refine two_ (i := 3) (j := 5) (Ni := some 21) (Nj := some 6) #[true, true, true, true, false, false, false] #[true, true, true, false, false, true, false] rfl rfl rfl rfl (by kernel_rfl) (by decide) (by decide) (fun K hK => ?_) (fun K hK => ?_)
      · skip
        refine goes_ Try.func61 (by kernel_rfl) rfl #[.agg #[.int .i64 k0, .int .i64 k1, .int .i64 k2, .int .i64 k3]] (by rfl) rfl rfl (by (try simp only [List.map_toArray, List.map_cons, List.map_nil]); first | done | rfl) ?_
        refine (toOp_calls k0 k1 k2 k3 _).mono ?_
        rintro e w5 ⟨rfl, hb⟩
        have HP1 := Aside0.mk (GC.below HO1.out hb)
        clear HO1
        have hHw5_ := hHw4_.call hb
        refine ⟨_, rfl, hK.out _ _ hHw5_ (fun hX_ => ?_)⟩
        clear hK K hX_
        refine norm_ (a' := ?_) ?_ ?_
        rotate_left
        · show Act.put _ (some 21) _ = _
          simp only [Act.put, List.setIfInBounds_toArray, List.set_cons_zero, List.set_cons_succ, i64_w, i32_w]
          rfl
        refine two_ (i := 4) (j := 5) (Ni := some 22) (Nj := some 6) #[true, true, true, true, true, false, false] #[true, true, true, true, false, true, false] rfl rfl rfl rfl (by kernel_rfl) (by decide) (by decide) (fun K hK => ?_) (fun K hK => ?_)
        · skip
          refine goes_ Try.func59 (by kernel_rfl) rfl #[.agg (gC g A1 c1 B1 d1), .agg #[.int .i64 k0, .int .i64 k1, .int .i64 k2, .int .i64 k3]] (by rfl) rfl rfl (by (try simp only [List.map_toArray, List.map_cons, List.map_nil]); first | done | rfl) ?_
          refine ((show Calls Try.prog 59 #[.agg (gC g A1 c1 B1 d1), .agg #[.int .i64 k0, .int .i64 k1, .int .i64 k2, .int .i64 k3]] _ (RetG r _) from HRR.out ▸ specAsk_calls g k0 k1 k2 k3 A1 c1 B1 d1 _ HP1.out HM.out)).mono ?_
          rintro e w6 ⟨A0, c0, B0, d0, rfl, ho, hb⟩
          clear HP1
          have hHw6_ := hHw5_.new (P := fun w_ => GO w5.heap.size w6.heap.size r A0 c0 B0 d0 w_) hb ho (GO.stable _ _ _ _ _ _ _)
          refine ⟨_, rfl, hK.out _ _ hHw6_.drop1 (fun hX_ => ?_)⟩
          clear hK K hX_
          refine norm_ (a' := ?_) ?_ ?_
          rotate_left
          · show Act.put _ (some 22) _ = _
            simp only [Act.put, List.setIfInBounds_toArray, List.set_cons_zero, List.set_cons_succ, i64_w, i32_w]
            rfl
          refine one_ (i := 5) (N := some 6) #[true, true, true, true, true, true, false] rfl rfl (by kernel_rfl) (by decide) (fun K hK => ?_)
          refine box_step (by rfl) (N := 6) rfl (cs := #[.bool false, .int .i64 0, .int .i64 0, .bool false, .int .i64 0, .int .i64 0, .int .i64 0, .int .i64 0, .int .i64 0, .int .i64 0, .int .i64 0, .int .i64 0, .int .i64 0, .int .i64 0, .int .i64 0, .bool false, .int .i64 0, .int .u64 0, .int .u64 0, .int .u64 0, .int .u64 0, .slice none 0 0, .slice none 0 0, .int .i64 0, .int .i64 0, .int .i64 0]) (t := 42) (by first | (go_simp; done) | (go_simp; rfl)) ?_
          intro g6_w7 hg_ w7 hbox_ hb_
          have hHw7_ := hHw6_.box hg_ hbox_ hb_
          refine hK.out _ _ hHw7_.drop1.drop1 (fun hX_ => ?_)
          clear hK K hX_ hg_ hbox_ hb_
          refine norm_ (a' := ?_) ?_ ?_
          rotate_left
          · show Act.put _ (some 6) _ = _
            simp only [Act.put, List.setIfInBounds_toArray, List.set_cons_zero, List.set_cons_succ, i64_w, i32_w]
            rfl
          have hj_ := HJ_.out (.agg (gC g A1 c1 B1 d1), .agg #[.int .i64 k0, .int .i64 k1, .int .i64 k2, .int .i64 k3], .agg (gC r A0 c0 B0 d0), g6_w7) _ ⟨A0, c0, B0, d0, _, _, rfl, hHw7_⟩
          refine norm_ ?_ hj_
          simp only [putAll, Act.put, List.setIfInBounds_toArray, List.set_cons_zero, List.set_cons_succ]
        · skip
          refine box_step (by rfl) (N := 6) rfl (cs := #[.bool false, .int .i64 0, .int .i64 0, .bool false, .int .i64 0, .int .i64 0, .int .i64 0, .int .i64 0, .int .i64 0, .int .i64 0, .int .i64 0, .int .i64 0, .int .i64 0, .int .i64 0, .int .i64 0, .bool false, .int .i64 0, .int .u64 0, .int .u64 0, .int .u64 0, .int .u64 0, .slice none 0 0, .slice none 0 0, .int .i64 0, .int .i64 0, .int .i64 0]) (t := 42) (by first | (go_simp; done) | (go_simp; rfl)) ?_
          intro g6_w8 hg_ w8 hbox_ hb_
          have hHw8_ := hHw5_.box hg_ hbox_ hb_
          have HQ_ := Aside0.mk (GC.below HP1.out hb_)
          clear HP1
          have HP1 := HQ_
          clear HQ_
          refine hK.out _ _ hHw8_.drop1 (fun hX_ => ?_)
          clear hK K hX_ hg_ hbox_ hb_
          refine norm_ (a' := ?_) ?_ ?_
          rotate_left
          · show Act.put _ (some 6) _ = _
            simp only [Act.put, List.setIfInBounds_toArray, List.set_cons_zero, List.set_cons_succ, i64_w, i32_w]
            rfl
          refine one_ (i := 4) (N := some 22) #[true, true, true, true, true, true, false] rfl rfl (by kernel_rfl) (by decide) (fun K hK => ?_)
          refine goes_ Try.func59 (by kernel_rfl) rfl #[.agg (gC g A1 c1 B1 d1), .agg #[.int .i64 k0, .int .i64 k1, .int .i64 k2, .int .i64 k3]] (by rfl) rfl rfl (by (try simp only [List.map_toArray, List.map_cons, List.map_nil]); first | done | rfl) ?_
          refine ((show Calls Try.prog 59 #[.agg (gC g A1 c1 B1 d1), .agg #[.int .i64 k0, .int .i64 k1, .int .i64 k2, .int .i64 k3]] _ (RetG r _) from HRR.out ▸ specAsk_calls g k0 k1 k2 k3 A1 c1 B1 d1 _ HP1.out HM.out)).mono ?_
          rintro e w9 ⟨A0, c0, B0, d0, rfl, ho, hb⟩
          clear HP1
          have hHw9_ := hHw8_.new (P := fun w_ => GO w8.heap.size w9.heap.size r A0 c0 B0 d0 w_) hb ho (GO.stable _ _ _ _ _ _ _)
          refine ⟨_, rfl, hK.out _ _ hHw9_.drop1.drop1 (fun hX_ => ?_)⟩
          clear hK K hX_
          refine norm_ (a' := ?_) ?_ ?_
          rotate_left
          · show Act.put _ (some 22) _ = _
            simp only [Act.put, List.setIfInBounds_toArray, List.set_cons_zero, List.set_cons_succ, i64_w, i32_w]
            rfl
          have hj_ := HJ_.out (.agg (gC g A1 c1 B1 d1), .agg #[.int .i64 k0, .int .i64 k1, .int .i64 k2, .int .i64 k3], .agg (gC r A0 c0 B0 d0), g6_w8) _ ⟨A0, c0, B0, d0, _, _, rfl, hHw9_.swap⟩
          refine norm_ ?_ hj_
          simp only [putAll, Act.put, List.setIfInBounds_toArray, List.set_cons_zero, List.set_cons_succ]
      · skip
        refine box_step (by rfl) (N := 6) rfl (cs := #[.bool false, .int .i64 0, .int .i64 0, .bool false, .int .i64 0, .int .i64 0, .int .i64 0, .int .i64 0, .int .i64 0, .int .i64 0, .int .i64 0, .int .i64 0, .int .i64 0, .int .i64 0, .int .i64 0, .bool false, .int .i64 0, .int .u64 0, .int .u64 0, .int .u64 0, .int .u64 0, .slice none 0 0, .slice none 0 0, .int .i64 0, .int .i64 0, .int .i64 0]) (t := 42) (by first | (go_simp; done) | (go_simp; rfl)) ?_
        intro g6_w10 hg_ w10 hbox_ hb_
        have hHw10_ := hHw4_.box hg_ hbox_ hb_
        have HQ_ := Aside0.mk (GC.below HO1.out hb_)
        clear HO1
        have HO1 := HQ_
        clear HQ_
        refine hK.out _ _ hHw10_.drop1 (fun hX_ => ?_)
        clear hK K hX_ hg_ hbox_ hb_
        refine norm_ (a' := ?_) ?_ ?_
        rotate_left
        · show Act.put _ (some 6) _ = _
          simp only [Act.put, List.setIfInBounds_toArray, List.set_cons_zero, List.set_cons_succ, i64_w, i32_w]
          rfl
        refine one_ (i := 3) (N := some 21) #[true, true, true, true, false, true, false] rfl rfl (by kernel_rfl) (by decide) (fun K hK => ?_)
        refine goes_ Try.func61 (by kernel_rfl) rfl #[.agg #[.int .i64 k0, .int .i64 k1, .int .i64 k2, .int .i64 k3]] (by rfl) rfl rfl (by (try simp only [List.map_toArray, List.map_cons, List.map_nil]); first | done | rfl) ?_
        refine (toOp_calls k0 k1 k2 k3 _).mono ?_
        rintro e w11 ⟨rfl, hb⟩
        have HP1 := Aside0.mk (GC.below HO1.out hb)
        clear HO1
        have hHw11_ := hHw10_.call hb
        refine ⟨_, rfl, hK.out _ _ hHw11_.drop1 (fun hX_ => ?_)⟩
        clear hK K hX_
        refine norm_ (a' := ?_) ?_ ?_
        rotate_left
        · show Act.put _ (some 21) _ = _
          simp only [Act.put, List.setIfInBounds_toArray, List.set_cons_zero, List.set_cons_succ, i64_w, i32_w]
          rfl
        refine one_ (i := 4) (N := some 22) #[true, true, true, true, true, true, false] rfl rfl (by kernel_rfl) (by decide) (fun K hK => ?_)
        refine goes_ Try.func59 (by kernel_rfl) rfl #[.agg (gC g A1 c1 B1 d1), .agg #[.int .i64 k0, .int .i64 k1, .int .i64 k2, .int .i64 k3]] (by rfl) rfl rfl (by (try simp only [List.map_toArray, List.map_cons, List.map_nil]); first | done | rfl) ?_
        refine ((show Calls Try.prog 59 #[.agg (gC g A1 c1 B1 d1), .agg #[.int .i64 k0, .int .i64 k1, .int .i64 k2, .int .i64 k3]] _ (RetG r _) from HRR.out ▸ specAsk_calls g k0 k1 k2 k3 A1 c1 B1 d1 _ HP1.out HM.out)).mono ?_
        rintro e w12 ⟨A0, c0, B0, d0, rfl, ho, hb⟩
        clear HP1
        have hHw12_ := hHw11_.new (P := fun w_ => GO w11.heap.size w12.heap.size r A0 c0 B0 d0 w_) hb ho (GO.stable _ _ _ _ _ _ _)
        refine ⟨_, rfl, hK.out _ _ hHw12_.drop1.drop1 (fun hX_ => ?_)⟩
        clear hK K hX_
        refine norm_ (a' := ?_) ?_ ?_
        rotate_left
        · show Act.put _ (some 22) _ = _
          simp only [Act.put, List.setIfInBounds_toArray, List.set_cons_zero, List.set_cons_succ, i64_w, i32_w]
          rfl
        have hj_ := HJ_.out (.agg (gC g A1 c1 B1 d1), .agg #[.int .i64 k0, .int .i64 k1, .int .i64 k2, .int .i64 k3], .agg (gC r A0 c0 B0 d0), g6_w10) _ ⟨A0, c0, B0, d0, _, _, rfl, hHw12_.swap⟩
        refine norm_ ?_ hj_
        simp only [putAll, Act.put, List.setIfInBounds_toArray, List.set_cons_zero, List.set_cons_succ]
    · skip
      refine box_step (by rfl) (N := 6) rfl (cs := #[.bool false, .int .i64 0, .int .i64 0, .bool false, .int .i64 0, .int .i64 0, .int .i64 0, .int .i64 0, .int .i64 0, .int .i64 0, .int .i64 0, .int .i64 0, .int .i64 0, .int .i64 0, .int .i64 0, .bool false, .int .i64 0, .int .u64 0, .int .u64 0, .int .u64 0, .int .u64 0, .slice none 0 0, .slice none 0 0, .int .i64 0, .int .i64 0, .int .i64 0]) (t := 42) (by first | (go_simp; done) | (go_simp; rfl)) ?_
      intro g6_w13 hg_ w13 hbox_ hb_
      have hHw13_ := hH_.box hg_ hbox_ hb_
      refine hK.out _ _ hHw13_.drop1 (fun hX_ => ?_)
      clear hK K hX_ hg_ hbox_ hb_
      refine norm_ (a' := ?_) ?_ ?_
      rotate_left
      · show Act.put _ (some 6) _ = _
        simp only [Act.put, List.setIfInBounds_toArray, List.set_cons_zero, List.set_cons_succ, i64_w, i32_w]
        rfl
      refine one_ (i := 1) (N := some 19) #[true, true, true, false, false, true, false] rfl rfl (by kernel_rfl) (by decide) (fun K hK => ?_)
      refine goes_ Try.func60 (by kernel_rfl) rfl #[.agg (gC g A cA B cB)] (by rfl) rfl rfl (by (try simp only [List.map_toArray, List.map_cons, List.map_nil]); first | done | rfl) ?_
      refine (toG_calls g A cA B cB _ (HR.out.below hHw13_.drop1.base) HM.out).mono ?_
      rintro e w14 ⟨A1, c1, B1, d1, rfl, ho, hb⟩
      have HO1 := Aside0.mk ho.c
      clear ho
      have hHw14_ := hHw13_.call hb
      refine ⟨_, rfl, hK.out _ _ hHw14_.drop1 (fun hX_ => ?_)⟩
      clear hK K hX_
      refine norm_ (a' := ?_) ?_ ?_
      rotate_left
      · show Act.put _ (some 19) _ = _
        simp only [Act.put, List.setIfInBounds_toArray, List.set_cons_zero, List.set_cons_succ, i64_w, i32_w]
        rfl
      refine one_ (i := 3) (N := some 21) #[true, true, true, true, false, true, false] rfl rfl (by kernel_rfl) (by decide) (fun K hK => ?_)
      refine goes_ Try.func61 (by kernel_rfl) rfl #[.agg #[.int .i64 k0, .int .i64 k1, .int .i64 k2, .int .i64 k3]] (by rfl) rfl rfl (by (try simp only [List.map_toArray, List.map_cons, List.map_nil]); first | done | rfl) ?_
      refine (toOp_calls k0 k1 k2 k3 _).mono ?_
      rintro e w15 ⟨rfl, hb⟩
      have HP1 := Aside0.mk (GC.below HO1.out hb)
      clear HO1
      have hHw15_ := hHw14_.call hb
      refine ⟨_, rfl, hK.out _ _ hHw15_.drop1 (fun hX_ => ?_)⟩
      clear hK K hX_
      refine norm_ (a' := ?_) ?_ ?_
      rotate_left
      · show Act.put _ (some 21) _ = _
        simp only [Act.put, List.setIfInBounds_toArray, List.set_cons_zero, List.set_cons_succ, i64_w, i32_w]
        rfl
      refine one_ (i := 4) (N := some 22) #[true, true, true, true, true, true, false] rfl rfl (by kernel_rfl) (by decide) (fun K hK => ?_)
      refine goes_ Try.func59 (by kernel_rfl) rfl #[.agg (gC g A1 c1 B1 d1), .agg #[.int .i64 k0, .int .i64 k1, .int .i64 k2, .int .i64 k3]] (by rfl) rfl rfl (by (try simp only [List.map_toArray, List.map_cons, List.map_nil]); first | done | rfl) ?_
      refine ((show Calls Try.prog 59 #[.agg (gC g A1 c1 B1 d1), .agg #[.int .i64 k0, .int .i64 k1, .int .i64 k2, .int .i64 k3]] _ (RetG r _) from HRR.out ▸ specAsk_calls g k0 k1 k2 k3 A1 c1 B1 d1 _ HP1.out HM.out)).mono ?_
      rintro e w16 ⟨A0, c0, B0, d0, rfl, ho, hb⟩
      clear HP1
      have hHw16_ := hHw15_.new (P := fun w_ => GO w15.heap.size w16.heap.size r A0 c0 B0 d0 w_) hb ho (GO.stable _ _ _ _ _ _ _)
      refine ⟨_, rfl, hK.out _ _ hHw16_.drop1.drop1 (fun hX_ => ?_)⟩
      clear hK K hX_
      refine norm_ (a' := ?_) ?_ ?_
      rotate_left
      · show Act.put _ (some 22) _ = _
        simp only [Act.put, List.setIfInBounds_toArray, List.set_cons_zero, List.set_cons_succ, i64_w, i32_w]
        rfl
      have hj_ := HJ_.out (.agg (gC g A1 c1 B1 d1), .agg #[.int .i64 k0, .int .i64 k1, .int .i64 k2, .int .i64 k3], .agg (gC r A0 c0 B0 d0), g6_w13) _ ⟨A0, c0, B0, d0, _, _, rfl, hHw16_.swap⟩
      refine norm_ ?_ hj_
      simp only [putAll, Act.put, List.setIfInBounds_toArray, List.set_cons_zero, List.set_cons_succ]
  case rest_ =>
    clear hH_ S
    intro s_ w17 hF_
    obtain ⟨vv0_5, vv1_5, vv2_5, g6⟩ := s_
    obtain ⟨A0, c0, B0, d0, resA0_lo, resA0_hi, rfl, hS_⟩ := hF_
    refine norm_ (a' := ?_) ?_ ?_
    rotate_left
    · simp only [putAll, Act.put, List.setIfInBounds_toArray, List.set_cons_zero, List.set_cons_succ]
      rfl
    refine last_ (i := 6) (N := none) #[true, true, true, true, true, true, true] rfl rfl (by kernel_rfl) (by decide) (fun K hK => ?_)
    refine skip_ (w1 := w17.setRow g6 (gC r A0 c0 B0 d0)) (by rfl) rfl (Row.store_row_run (g := g6) (cells := gC r A0 c0 B0 d0) (t := 42) (old := #[.bool false, .int .i64 0, .int .i64 0, .bool false, .int .i64 0, .int .i64 0, .int .i64 0, .int .i64 0, .int .i64 0, .int .i64 0, .int .i64 0, .int .i64 0, .int .i64 0, .int .i64 0, .int .i64 0, .bool false, .int .i64 0, .int .u64 0, .int .u64 0, .int .u64 0, .int .u64 0, .slice none 0 0, .slice none 0 0, .int .i64 0, .int .i64 0, .int .i64 0]) rfl (by rfl) (by rfl) (hS_.blk 0 rfl) (by kernel_rfl) rfl (by simp [Value.oneCell', gC])) ?_
    refine hK.out _ _ (done_ (by kernel_rfl) ?_)
    clear hK K
    have S := Aside0.mk (hS_.setRow (cs' := gC r A0 c0 B0 d0) (rs' := [Blk g6 (gC r A0 c0 B0 d0) 42, ⟨resA0_lo, resA0_hi, fun w_ => GO resA0_lo resA0_hi r A0 c0 B0 d0 w_⟩, Blk go (#[.int .i64 k0, .int .i64 k1, .int .i64 k2, .int .i64 k3]) 66, Blk gg (gC g A cA B cB) 68]) 0 rfl rfl)
    clear hS_
    obtain ⟨w18, hw_⟩ : ∃ w_, w17.setRow g6 (gC r A0 c0 B0 d0) = w_ := ⟨_, rfl⟩
    rw [hw_] at S
    rw [hw_]
    clear hw_
    go_wp2_with (first | ((with_reducible refine gate_dst (N := 23) rfl ?_); refine Kd.event_run rfl (Row.load_row_run (g := gg) (t := 68) (cells := gC g A cA B cB) rfl rfl (S.out.blk 3 rfl) Try.underlying68 rfl (by kernel_rfl)) ?_))
    refine (toG_calls g A cA B cB _ (HR.out.below S.out.base) HM.out).mono ?_
    rintro e w19 ⟨A2, c2, B2, d2, rfl, ho, hb⟩
    have Sn_ := Aside0.mk (S.out.new (P := fun w_ => GO w18.heap.size w19.heap.size g A2 c2 B2 d2 w_) hb ho (GO.stable _ _ _ _ _ _ _))
    clear S hb ho
    have S := Sn_
    clear Sn_
    go_wp2_with (first | ((with_reducible refine gate_dst (N := 7) rfl ?_); refine box_event rfl (N := 7) rfl (cs := #[.bool false, .int .i64 0, .int .i64 0, .bool false, .int .i64 0, .int .i64 0, .int .i64 0, .int .i64 0, .int .i64 0, .int .i64 0, .int .i64 0, .int .i64 0, .int .i64 0, .int .i64 0, .int .i64 0, .bool false, .int .i64 0, .int .u64 0, .int .u64 0, .int .u64 0, .int .u64 0, .slice none 0 0, .slice none 0 0, .int .i64 0, .int .i64 0, .int .i64 0]) (t := 42) (by first | (go_simp; done) | (go_simp; rfl)) ?_; intro gx hg_ w20 hbox_ hb_; have Sn_ := Aside0.mk (S.out.box hg_ hbox_ hb_); clear hbox_ hb_ hg_ S; have S := Sn_; clear Sn_) | ((with_reducible refine gate_store (t := 42) (p := 7) rfl ?_); refine store_event (t := 42) (p := 7) (v := ?vo_1) (w1 := w20.setRow gx (gC g A2 c2 B2 d2)) ?hg ?ho ?hn ?hr ?_; (case ho => rfl); (case hg => rfl); (case hn => rfl); (case hr => exact (Row.store_row_run (g := gx) (cells := gC g A2 c2 B2 d2) (t := 42) (old := #[.bool false, .int .i64 0, .int .i64 0, .bool false, .int .i64 0, .int .i64 0, .int .i64 0, .int .i64 0, .int .i64 0, .int .i64 0, .int .i64 0, .int .i64 0, .int .i64 0, .int .i64 0, .int .i64 0, .bool false, .int .i64 0, .int .u64 0, .int .u64 0, .int .u64 0, .int .u64 0, .slice none 0 0, .slice none 0 0, .int .i64 0, .int .i64 0, .int .i64 0]) rfl (by rfl) (by rfl) (S.out.blk 0 rfl) (by kernel_rfl) rfl (by simp [Value.oneCell', gC]))); intro w21 hw_; have Sn_ := Aside0.mk ((S.out.setRow (cs' := gC g A2 c2 B2 d2) (rs' := [Blk gx (gC g A2 c2 B2 d2) 42, ⟨w18.heap.size, w19.heap.size, fun w_ => GO w18.heap.size w19.heap.size g A2 c2 B2 d2 w_⟩, Blk g6 (gC r A0 c0 B0 d0) 42, ⟨resA0_lo, resA0_hi, fun w_ => GO resA0_lo resA0_hi r A0 c0 B0 d0 w_⟩, Blk go (#[.int .i64 k0, .int .i64 k1, .int .i64 k2, .int .i64 k3]) 66, Blk gg (gC g A cA B cB) 68]) 0 rfl rfl).of hw_); clear S hw_; have S := Sn_; clear Sn_))
    refine start_ (n := 6) (S := fun w_ => St w w_ [Blk gx (gC g A2 c2 B2 d2) 42, ⟨w18.heap.size, w19.heap.size, fun w_ => GO w18.heap.size w19.heap.size g A2 c2 B2 d2 w_⟩, Blk g6 (gC r A0 c0 B0 d0) 42, ⟨resA0_lo, resA0_hi, fun w_ => GO resA0_lo resA0_hi r A0 c0 B0 d0 w_⟩, Blk go (#[.int .i64 k0, .int .i64 k1, .int .i64 k2, .int .i64 k3]) 66, Blk gg (gC g A cA B cB) 68]) (ds := [5]) #[false, false, false, false, false, false] (by kernel_rfl) rfl rfl (S.out.drew) (fun hH_ => ?_)
    refine take_ (i := 0) (N := some 25) (v := .agg (gC g A2 c2 B2 d2)) (a' := ?_) #[true, false, false, false, false, false] rfl rfl (by kernel_rfl) (fun _ _ _ h => h) (Or.inl ⟨by rfl, fun w' s0 => Row.load_row_run (g := gx) (t := 42) (cells := gC g A2 c2 B2 d2) rfl rfl (s0.blk 0 rfl) Try.underlying42 rfl (by kernel_rfl)⟩) hH_ ?_ ?_
    rotate_left
    · simp only [Act.put, List.setIfInBounds_toArray, List.set_cons_zero, List.set_cons_succ, i64_w, i32_w]
      rfl
    refine take_ (i := 1) (N := some 26) (v := .agg (#[.int .i64 k0, .int .i64 k1, .int .i64 k2, .int .i64 k3])) (a' := ?_) #[true, true, false, false, false, false] rfl rfl (by kernel_rfl) (fun _ _ _ h => h) (Or.inl ⟨by rfl, fun w' s0 => Row.load_row_run (g := go) (t := 66) (cells := #[.int .i64 k0, .int .i64 k1, .int .i64 k2, .int .i64 k3]) rfl rfl (s0.blk 4 rfl) Try.underlying66 rfl (by kernel_rfl)⟩) hH_ ?_ ?_
    rotate_left
    · simp only [Act.put, List.setIfInBounds_toArray, List.set_cons_zero, List.set_cons_succ, i64_w, i32_w]
      rfl
    refine join_ 1 #[true, true, true, true, true, false] (fun (s_ : Value × Value × Nat) => [(27, s_.1), (28, s_.2.1), (8, .pointer (some ⟨s_.2.2, 0, none⟩))]) (fun s_ w_ => ∃ (A3 : Option Addr) (c3 : Nat) (B3 : Option Addr) (d3 : Nat) (lo_ hi_ : Nat), s_.2.1 = .agg (gC r A3 c3 B3 d3) ∧ St w w_ (Blk s_.2.2 (#[.bool false, .int .i64 0, .int .i64 0, .bool false, .int .i64 0, .int .i64 0, .int .i64 0, .int .i64 0, .int .i64 0, .int .i64 0, .int .i64 0, .int .i64 0, .int .i64 0, .int .i64 0, .int .i64 0, .bool false, .int .i64 0, .int .u64 0, .int .u64 0, .int .u64 0, .int .u64 0, .slice none 0 0, .slice none 0 0, .int .i64 0, .int .i64 0, .int .i64 0]) 42 :: ⟨lo_, hi_, fun w_ => GO lo_ hi_ r A3 c3 B3 d3 w_⟩ :: [Blk gx (gC g A2 c2 B2 d2) 42, ⟨w18.heap.size, w19.heap.size, fun w_ => GO w18.heap.size w19.heap.size g A2 c2 B2 d2 w_⟩, Blk g6 (gC r A0 c0 B0 d0) 42, ⟨resA0_lo, resA0_hi, fun w_ => GO resA0_lo resA0_hi r A0 c0 B0 d0 w_⟩, Blk go (#[.int .i64 k0, .int .i64 k1, .int .i64 k2, .int .i64 k3]) 66, Blk gg (gC g A cA B cB) 68])) ?rest_ ?all_
    case all_ =>
      intro hjoin_
      have HJ_ := Aside0.mk hjoin_
      clear hjoin_
      refine two_ (i := 2) (j := 4) (Ni := some 27) (Nj := some 8) #[true, true, true, false, false, false] #[true, true, false, false, true, false] rfl rfl rfl rfl (by kernel_rfl) (by decide) (by decide) (fun K hK => ?_) (fun K hK => ?_)
      · skip
        refine goes_ Try.func61 (by kernel_rfl) rfl #[.agg #[.int .i64 k0, .int .i64 k1, .int .i64 k2, .int .i64 k3]] (by rfl) rfl rfl (by (try simp only [List.map_toArray, List.map_cons, List.map_nil]); first | done | rfl) ?_
        refine (toOp_calls k0 k1 k2 k3 _).mono ?_
        rintro e w22 ⟨rfl, hb⟩
        have hHw22_ := hH_.call hb
        refine ⟨_, rfl, hK.out _ _ hHw22_ (fun hX_ => ?_)⟩
        clear hK K hX_
        refine norm_ (a' := ?_) ?_ ?_
        rotate_left
        · show Act.put _ (some 27) _ = _
          simp only [Act.put, List.setIfInBounds_toArray, List.set_cons_zero, List.set_cons_succ, i64_w, i32_w]
          rfl
        refine two_ (i := 3) (j := 4) (Ni := some 28) (Nj := some 8) #[true, true, true, true, false, false] #[true, true, true, false, true, false] rfl rfl rfl rfl (by kernel_rfl) (by decide) (by decide) (fun K hK => ?_) (fun K hK => ?_)
        · skip
          refine goes_ Try.func62 (by kernel_rfl) rfl #[.agg (gC g A2 c2 B2 d2), .agg #[.int .i64 k0, .int .i64 k1, .int .i64 k2, .int .i64 k3]] (by rfl) rfl rfl (by (try simp only [List.map_toArray, List.map_cons, List.map_nil]); first | done | rfl) ?_
          refine ((show Calls Try.prog 62 #[.agg (gC g A2 c2 B2 d2), .agg #[.int .i64 k0, .int .i64 k1, .int .i64 k2, .int .i64 k3]] _ (RetG r _) from HRR.out ▸ implAsk_calls g k0 k1 k2 k3 A2 c2 B2 d2 _ (GO.c (hHw22_.get 1 rfl)) HM.out)).mono ?_
          rintro e w23 ⟨A3, c3, B3, d3, rfl, ho, hb⟩
          have hHw23_ := hHw22_.new (P := fun w_ => GO w22.heap.size w23.heap.size r A3 c3 B3 d3 w_) hb ho (GO.stable _ _ _ _ _ _ _)
          refine ⟨_, rfl, hK.out _ _ hHw23_.drop1 (fun hX_ => ?_)⟩
          clear hK K hX_
          refine norm_ (a' := ?_) ?_ ?_
          rotate_left
          · show Act.put _ (some 28) _ = _
            simp only [Act.put, List.setIfInBounds_toArray, List.set_cons_zero, List.set_cons_succ, i64_w, i32_w]
            rfl
          refine one_ (i := 4) (N := some 8) #[true, true, true, true, true, false] rfl rfl (by kernel_rfl) (by decide) (fun K hK => ?_)
          refine box_step (by rfl) (N := 8) rfl (cs := #[.bool false, .int .i64 0, .int .i64 0, .bool false, .int .i64 0, .int .i64 0, .int .i64 0, .int .i64 0, .int .i64 0, .int .i64 0, .int .i64 0, .int .i64 0, .int .i64 0, .int .i64 0, .int .i64 0, .bool false, .int .i64 0, .int .u64 0, .int .u64 0, .int .u64 0, .int .u64 0, .slice none 0 0, .slice none 0 0, .int .i64 0, .int .i64 0, .int .i64 0]) (t := 42) (by first | (go_simp; done) | (go_simp; rfl)) ?_
          intro g8_w24 hg_ w24 hbox_ hb_
          have hHw24_ := hHw23_.box hg_ hbox_ hb_
          refine hK.out _ _ hHw24_.drop1.drop1 (fun hX_ => ?_)
          clear hK K hX_ hg_ hbox_ hb_
          refine norm_ (a' := ?_) ?_ ?_
          rotate_left
          · show Act.put _ (some 8) _ = _
            simp only [Act.put, List.setIfInBounds_toArray, List.set_cons_zero, List.set_cons_succ, i64_w, i32_w]
            rfl
          have hj_ := HJ_.out (.agg #[.int .i64 k0, .int .i64 k1, .int .i64 k2, .int .i64 k3], .agg (gC r A3 c3 B3 d3), g8_w24) _ ⟨A3, c3, B3, d3, _, _, rfl, hHw24_⟩
          refine norm_ ?_ hj_
          simp only [putAll, Act.put, List.setIfInBounds_toArray, List.set_cons_zero, List.set_cons_succ]
        · skip
          refine box_step (by rfl) (N := 8) rfl (cs := #[.bool false, .int .i64 0, .int .i64 0, .bool false, .int .i64 0, .int .i64 0, .int .i64 0, .int .i64 0, .int .i64 0, .int .i64 0, .int .i64 0, .int .i64 0, .int .i64 0, .int .i64 0, .int .i64 0, .bool false, .int .i64 0, .int .u64 0, .int .u64 0, .int .u64 0, .int .u64 0, .slice none 0 0, .slice none 0 0, .int .i64 0, .int .i64 0, .int .i64 0]) (t := 42) (by first | (go_simp; done) | (go_simp; rfl)) ?_
          intro g8_w25 hg_ w25 hbox_ hb_
          have hHw25_ := hHw22_.box hg_ hbox_ hb_
          refine hK.out _ _ hHw25_.drop1 (fun hX_ => ?_)
          clear hK K hX_ hg_ hbox_ hb_
          refine norm_ (a' := ?_) ?_ ?_
          rotate_left
          · show Act.put _ (some 8) _ = _
            simp only [Act.put, List.setIfInBounds_toArray, List.set_cons_zero, List.set_cons_succ, i64_w, i32_w]
            rfl
          refine one_ (i := 3) (N := some 28) #[true, true, true, true, true, false] rfl rfl (by kernel_rfl) (by decide) (fun K hK => ?_)
          refine goes_ Try.func62 (by kernel_rfl) rfl #[.agg (gC g A2 c2 B2 d2), .agg #[.int .i64 k0, .int .i64 k1, .int .i64 k2, .int .i64 k3]] (by rfl) rfl rfl (by (try simp only [List.map_toArray, List.map_cons, List.map_nil]); first | done | rfl) ?_
          refine ((show Calls Try.prog 62 #[.agg (gC g A2 c2 B2 d2), .agg #[.int .i64 k0, .int .i64 k1, .int .i64 k2, .int .i64 k3]] _ (RetG r _) from HRR.out ▸ implAsk_calls g k0 k1 k2 k3 A2 c2 B2 d2 _ (GO.c (hHw25_.drop1.get 1 rfl)) HM.out)).mono ?_
          rintro e w26 ⟨A3, c3, B3, d3, rfl, ho, hb⟩
          have hHw26_ := hHw25_.new (P := fun w_ => GO w25.heap.size w26.heap.size r A3 c3 B3 d3 w_) hb ho (GO.stable _ _ _ _ _ _ _)
          refine ⟨_, rfl, hK.out _ _ hHw26_.drop1.drop1 (fun hX_ => ?_)⟩
          clear hK K hX_
          refine norm_ (a' := ?_) ?_ ?_
          rotate_left
          · show Act.put _ (some 28) _ = _
            simp only [Act.put, List.setIfInBounds_toArray, List.set_cons_zero, List.set_cons_succ, i64_w, i32_w]
            rfl
          have hj_ := HJ_.out (.agg #[.int .i64 k0, .int .i64 k1, .int .i64 k2, .int .i64 k3], .agg (gC r A3 c3 B3 d3), g8_w25) _ ⟨A3, c3, B3, d3, _, _, rfl, hHw26_.swap⟩
          refine norm_ ?_ hj_
          simp only [putAll, Act.put, List.setIfInBounds_toArray, List.set_cons_zero, List.set_cons_succ]
      · skip
        refine box_step (by rfl) (N := 8) rfl (cs := #[.bool false, .int .i64 0, .int .i64 0, .bool false, .int .i64 0, .int .i64 0, .int .i64 0, .int .i64 0, .int .i64 0, .int .i64 0, .int .i64 0, .int .i64 0, .int .i64 0, .int .i64 0, .int .i64 0, .bool false, .int .i64 0, .int .u64 0, .int .u64 0, .int .u64 0, .int .u64 0, .slice none 0 0, .slice none 0 0, .int .i64 0, .int .i64 0, .int .i64 0]) (t := 42) (by first | (go_simp; done) | (go_simp; rfl)) ?_
        intro g8_w27 hg_ w27 hbox_ hb_
        have hHw27_ := hH_.box hg_ hbox_ hb_
        refine hK.out _ _ hHw27_.drop1 (fun hX_ => ?_)
        clear hK K hX_ hg_ hbox_ hb_
        refine norm_ (a' := ?_) ?_ ?_
        rotate_left
        · show Act.put _ (some 8) _ = _
          simp only [Act.put, List.setIfInBounds_toArray, List.set_cons_zero, List.set_cons_succ, i64_w, i32_w]
          rfl
        refine one_ (i := 2) (N := some 27) #[true, true, true, false, true, false] rfl rfl (by kernel_rfl) (by decide) (fun K hK => ?_)
        refine goes_ Try.func61 (by kernel_rfl) rfl #[.agg #[.int .i64 k0, .int .i64 k1, .int .i64 k2, .int .i64 k3]] (by rfl) rfl rfl (by (try simp only [List.map_toArray, List.map_cons, List.map_nil]); first | done | rfl) ?_
        refine (toOp_calls k0 k1 k2 k3 _).mono ?_
        rintro e w28 ⟨rfl, hb⟩
        have hHw28_ := hHw27_.call hb
        refine ⟨_, rfl, hK.out _ _ hHw28_.drop1 (fun hX_ => ?_)⟩
        clear hK K hX_
        refine norm_ (a' := ?_) ?_ ?_
        rotate_left
        · show Act.put _ (some 27) _ = _
          simp only [Act.put, List.setIfInBounds_toArray, List.set_cons_zero, List.set_cons_succ, i64_w, i32_w]
          rfl
        refine one_ (i := 3) (N := some 28) #[true, true, true, true, true, false] rfl rfl (by kernel_rfl) (by decide) (fun K hK => ?_)
        refine goes_ Try.func62 (by kernel_rfl) rfl #[.agg (gC g A2 c2 B2 d2), .agg #[.int .i64 k0, .int .i64 k1, .int .i64 k2, .int .i64 k3]] (by rfl) rfl rfl (by (try simp only [List.map_toArray, List.map_cons, List.map_nil]); first | done | rfl) ?_
        refine ((show Calls Try.prog 62 #[.agg (gC g A2 c2 B2 d2), .agg #[.int .i64 k0, .int .i64 k1, .int .i64 k2, .int .i64 k3]] _ (RetG r _) from HRR.out ▸ implAsk_calls g k0 k1 k2 k3 A2 c2 B2 d2 _ (GO.c (hHw28_.drop1.get 1 rfl)) HM.out)).mono ?_
        rintro e w29 ⟨A3, c3, B3, d3, rfl, ho, hb⟩
        have hHw29_ := hHw28_.new (P := fun w_ => GO w28.heap.size w29.heap.size r A3 c3 B3 d3 w_) hb ho (GO.stable _ _ _ _ _ _ _)
        refine ⟨_, rfl, hK.out _ _ hHw29_.drop1.drop1 (fun hX_ => ?_)⟩
        clear hK K hX_
        refine norm_ (a' := ?_) ?_ ?_
        rotate_left
        · show Act.put _ (some 28) _ = _
          simp only [Act.put, List.setIfInBounds_toArray, List.set_cons_zero, List.set_cons_succ, i64_w, i32_w]
          rfl
        have hj_ := HJ_.out (.agg #[.int .i64 k0, .int .i64 k1, .int .i64 k2, .int .i64 k3], .agg (gC r A3 c3 B3 d3), g8_w27) _ ⟨A3, c3, B3, d3, _, _, rfl, hHw29_.swap⟩
        refine norm_ ?_ hj_
        simp only [putAll, Act.put, List.setIfInBounds_toArray, List.set_cons_zero, List.set_cons_succ]
    case rest_ =>
      clear hH_ S
      intro s_ w30 hF_
      obtain ⟨vv0_7, vv1_7, g8⟩ := s_
      obtain ⟨A3, c3, B3, d3, resA3_lo, resA3_hi, rfl, hS_⟩ := hF_
      refine norm_ (a' := ?_) ?_ ?_
      rotate_left
      · simp only [putAll, Act.put, List.setIfInBounds_toArray, List.set_cons_zero, List.set_cons_succ]
        rfl
      refine last_ (i := 5) (N := none) #[true, true, true, true, true, true] rfl rfl (by kernel_rfl) (by decide) (fun K hK => ?_)
      refine skip_ (w1 := w30.setRow g8 (gC r A3 c3 B3 d3)) (by rfl) rfl (Row.store_row_run (g := g8) (cells := gC r A3 c3 B3 d3) (t := 42) (old := #[.bool false, .int .i64 0, .int .i64 0, .bool false, .int .i64 0, .int .i64 0, .int .i64 0, .int .i64 0, .int .i64 0, .int .i64 0, .int .i64 0, .int .i64 0, .int .i64 0, .int .i64 0, .int .i64 0, .bool false, .int .i64 0, .int .u64 0, .int .u64 0, .int .u64 0, .int .u64 0, .slice none 0 0, .slice none 0 0, .int .i64 0, .int .i64 0, .int .i64 0]) rfl (by rfl) (by rfl) (hS_.blk 0 rfl) (by kernel_rfl) rfl (by simp [Value.oneCell', gC])) ?_
      refine hK.out _ _ (done_ (by kernel_rfl) ?_)
      clear hK K
      have S := Aside0.mk (hS_.setRow (cs' := gC r A3 c3 B3 d3) (rs' := [Blk g8 (gC r A3 c3 B3 d3) 42, ⟨resA3_lo, resA3_hi, fun w_ => GO resA3_lo resA3_hi r A3 c3 B3 d3 w_⟩, Blk gx (gC g A2 c2 B2 d2) 42, ⟨w18.heap.size, w19.heap.size, fun w_ => GO w18.heap.size w19.heap.size g A2 c2 B2 d2 w_⟩, Blk g6 (gC r A0 c0 B0 d0) 42, ⟨resA0_lo, resA0_hi, fun w_ => GO resA0_lo resA0_hi r A0 c0 B0 d0 w_⟩, Blk go (#[.int .i64 k0, .int .i64 k1, .int .i64 k2, .int .i64 k3]) 66, Blk gg (gC g A cA B cB) 68]) 0 rfl rfl)
      clear hS_
      obtain ⟨w31, hw_⟩ : ∃ w_, w30.setRow g8 (gC r A3 c3 B3 d3) = w_ := ⟨_, rfl⟩
      rw [hw_] at S
      rw [hw_]
      clear hw_
      go_wp2_with (first | ((with_reducible refine gate_dst (N := 29) rfl ?_); refine Kd.event_run rfl (Row.load_row_run (g := g8) (t := 42) (cells := gC r A3 c3 B3 d3) rfl rfl (S.out.blk 0 rfl) Try.underlying42 rfl (by kernel_rfl)) ?_) | ((with_reducible refine gate_dst (N := 30) rfl ?_); refine Kd.event_run rfl (Row.load_row_run (g := g6) (t := 42) (cells := gC r A0 c0 B0 d0) rfl rfl (S.out.blk 4 rfl) Try.underlying42 rfl (by kernel_rfl)) ?_))
      refine (eqG_same r A3 c3 B3 d3 A0 c0 B0 d0 _ (GO.c (S.out.get 1 rfl)) (GO.c (S.out.get 5 rfl)) HM3.out).mono ?_
      rintro e w32 ⟨rfl, hb⟩
      have Sn_ := Aside0.mk (S.out.call hb)
      clear S hb
      have S := Sn_
      clear Sn_
      go_wp2_with fail
      refine start_ (n := 5) (S := fun w_ => St w w_ [Blk g8 (gC r A3 c3 B3 d3) 42, ⟨resA3_lo, resA3_hi, fun w_ => GO resA3_lo resA3_hi r A3 c3 B3 d3 w_⟩, Blk gx (gC g A2 c2 B2 d2) 42, ⟨w18.heap.size, w19.heap.size, fun w_ => GO w18.heap.size w19.heap.size g A2 c2 B2 d2 w_⟩, Blk g6 (gC r A0 c0 B0 d0) 42, ⟨resA0_lo, resA0_hi, fun w_ => GO resA0_lo resA0_hi r A0 c0 B0 d0 w_⟩, Blk go (#[.int .i64 k0, .int .i64 k1, .int .i64 k2, .int .i64 k3]) 66, Blk gg (gC g A cA B cB) 68]) (ds := []) #[false, false, false, false, false] (by kernel_rfl) rfl rfl (S.out.drew) (fun hH_ => ?_)
      refine take_ (i := 0) (N := some 33) (v := .agg (gC g A2 c2 B2 d2)) (a' := ?_) #[true, false, false, false, false] rfl rfl (by kernel_rfl) (fun _ _ _ h => h) (Or.inl ⟨by rfl, fun w' s0 => Row.load_row_run (g := gx) (t := 42) (cells := gC g A2 c2 B2 d2) rfl rfl (s0.blk 2 rfl) Try.underlying42 rfl (by kernel_rfl)⟩) hH_ ?_ ?_
      rotate_left
      · simp only [Act.put, List.setIfInBounds_toArray, List.set_cons_zero, List.set_cons_succ, i64_w, i32_w]
        rfl
      refine take_ (i := 1) (N := some 34) (v := .agg (gC g A cA B cB)) (a' := ?_) #[true, true, false, false, false] rfl rfl (by kernel_rfl) (fun _ _ _ h => h) (Or.inl ⟨by rfl, fun w' s0 => Row.load_row_run (g := gg) (t := 68) (cells := gC g A cA B cB) rfl rfl (s0.blk 7 rfl) Try.underlying68 rfl (by kernel_rfl)⟩) hH_ ?_ ?_
      rotate_left
      · simp only [Act.put, List.setIfInBounds_toArray, List.set_cons_zero, List.set_cons_succ, i64_w, i32_w]
        rfl
      refine one_ (i := 2) (N := some 35) #[true, true, true, false, false] rfl rfl (by kernel_rfl) (by decide) (fun K hK => ?_)
      refine goes_ Try.func60 (by kernel_rfl) rfl #[.agg (gC g A cA B cB)] (by rfl) rfl rfl (by (try simp only [List.map_toArray, List.map_cons, List.map_nil]); first | done | rfl) ?_
      refine (toG_calls g A cA B cB _ (HR.out.below hH_.base) HM.out).mono ?_
      rintro e w33 ⟨A4, c4, B4, d4, rfl, ho, hb⟩
      have HO4 := Aside0.mk ho.c
      clear ho
      have hHw33_ := hH_.call hb
      refine ⟨_, rfl, hK.out _ _ hHw33_ (fun hX_ => ?_)⟩
      clear hK K hX_
      refine norm_ (a' := ?_) ?_ ?_
      rotate_left
      · show Act.put _ (some 35) _ = _
        simp only [Act.put, List.setIfInBounds_toArray, List.set_cons_zero, List.set_cons_succ, i64_w, i32_w]
        rfl
      clear hb
      refine one_ (i := 3) (N := some 36) #[true, true, true, true, false] rfl rfl (by kernel_rfl) (by decide) (fun K hK => ?_)
      refine goes_ Try.func37 (by kernel_rfl) rfl #[.agg (gC g A2 c2 B2 d2), .agg (gC g A4 c4 B4 d4)] (by rfl) rfl rfl (by (try simp only [List.map_toArray, List.map_cons, List.map_nil]); first | done | rfl) ?_
      refine (eqG_same g A2 c2 B2 d2 A4 c4 B4 d4 _ (GO.c (hHw33_.get 3 rfl)) HO4.out HL.out).mono ?_
      rintro e w34 ⟨rfl, hb⟩
      have hHw34_ := hHw33_.call hb
      refine ⟨_, rfl, hK.out _ _ hHw34_ (fun hX_ => ?_)⟩
      clear hK K hX_
      refine norm_ (a' := ?_) ?_ ?_
      rotate_left
      · show Act.put _ (some 36) _ = _
        simp only [Act.put, List.setIfInBounds_toArray, List.set_cons_zero, List.set_cons_succ, i64_w, i32_w]
        rfl
      clear hb
      refine pure_ (i := 4) (N := some 37) (v := ?_) (a' := ?_) #[true, true, true, true, true] rfl rfl (by kernel_rfl) (fun _ _ _ h => h) (Or.inl ⟨by rfl, ?_⟩) ?_ ?_
      rotate_left
      · intro w'
        go_simp
        with_reducible rfl
      rotate_left
      · simp only [Act.put, List.setIfInBounds_toArray, List.set_cons_zero, List.set_cons_succ, i64_w, i32_w]
        rfl
      refine done_ (by kernel_rfl) ?_
      have Sn_ := Aside0.mk (hHw34_)
      clear S
      have S := Sn_
      clear Sn_
      clear hH_ hHw33_ hHw34_
      clear HO4
      go_wp2_with (first | ((with_reducible refine gate_dst (N := 38) rfl ?_); refine Kd.event_run rfl (Row.load_row_run (g := gx) (t := 42) (cells := gC g A2 c2 B2 d2) rfl rfl (S.out.blk 2 rfl) Try.underlying42 rfl (by kernel_rfl)) ?_))
      refine (markG_calls g A2 c2 B2 d2 1 w18.heap.size w19.heap.size _ (S.out.get 3 rfl) (S.out.le 3 rfl) (by omega) (by have := HM.out; omega)).mono ?_
      rintro e w35 ⟨m1, m2, rfl, e1_, e2_, e3_, e4_, hgo, hkp⟩
      have Sn_ := Aside0.mk (S.out.put (P := fun w_ => GO w18.heap.size w19.heap.size { g with snap := m1, plan := m2 } A2 c2 B2 d2 w_) (rs' := [Blk g8 (gC r A3 c3 B3 d3) 42, ⟨resA3_lo, resA3_hi, fun w_ => GO resA3_lo resA3_hi r A3 c3 B3 d3 w_⟩, Blk gx (gC g A2 c2 B2 d2) 42, ⟨w18.heap.size, w19.heap.size, fun w_ => GO w18.heap.size w19.heap.size { g with snap := m1, plan := m2 } A2 c2 B2 d2 w_⟩, Blk g6 (gC r A0 c0 B0 d0) 42, ⟨resA0_lo, resA0_hi, fun w_ => GO resA0_lo resA0_hi r A0 c0 B0 d0 w_⟩, Blk go (#[.int .i64 k0, .int .i64 k1, .int .i64 k2, .int .i64 k3]) 66, Blk gg (gC g A cA B cB) 68]) 3 rfl hkp hgo (GO.stable _ _ _ _ _ _ _) rfl)
      clear S hkp hgo e1_ e2_ e3_ e4_
      have S := Sn_
      clear Sn_
      have hk1 : (0 : Int) ≤ 1 + ((g.snap.length + g.plan.length : Nat) : Int) := by omega
      have Sn_ := Aside0.mk (S.out.drop (rs' := [Blk g8 (gC r A3 c3 B3 d3) 42, ⟨resA3_lo, resA3_hi, fun w_ => GO resA3_lo resA3_hi r A3 c3 B3 d3 w_⟩, Blk gx (gC g A2 c2 B2 d2) 42, Blk g6 (gC r A0 c0 B0 d0) 42, ⟨resA0_lo, resA0_hi, fun w_ => GO resA0_lo resA0_hi r A0 c0 B0 d0 w_⟩, Blk go (#[.int .i64 k0, .int .i64 k1, .int .i64 k2, .int .i64 k3]) 66, Blk gg (gC g A cA B cB) 68]) 3 rfl)
      clear S
      have S := Sn_
      clear Sn_
      have Sn_ := Aside0.mk (S.out.drop (rs' := [Blk g8 (gC r A3 c3 B3 d3) 42, ⟨resA3_lo, resA3_hi, fun w_ => GO resA3_lo resA3_hi r A3 c3 B3 d3 w_⟩, Blk g6 (gC r A0 c0 B0 d0) 42, ⟨resA0_lo, resA0_hi, fun w_ => GO resA0_lo resA0_hi r A0 c0 B0 d0 w_⟩, Blk go (#[.int .i64 k0, .int .i64 k1, .int .i64 k2, .int .i64 k3]) 66, Blk gg (gC g A cA B cB) 68]) 2 rfl)
      clear S
      have S := Sn_
      clear Sn_
      go_wp2_with (first | ((with_reducible refine gate_dst (N := 44) rfl ?_); refine gate_guard (by rfl) ?_; refine Kd.event_run rfl (Row.load_row_run (g := g8) (t := 42) (cells := gC r A3 c3 B3 d3) rfl rfl (S.out.blk 0 rfl) Try.underlying42 rfl (by kernel_rfl)) ?_) | ((with_reducible refine gate_dst (N := 45) rfl ?_); refine gate_guard (by rfl) ?_; refine Kd.event_run rfl (Row.load_row_run (g := g6) (t := 42) (cells := gC r A0 c0 B0 d0) rfl rfl (S.out.blk 2 rfl) Try.underlying42 rfl (by kernel_rfl)) ?_))
      refine (eqG_same r A3 c3 B3 d3 A0 c0 B0 d0 _ (GO.c (S.out.get 1 rfl)) (GO.c (S.out.get 3 rfl)) HM3.out).mono ?_
      rintro e w36 ⟨rfl, hb⟩
      have Sn_ := Aside0.mk (S.out.call hb)
      clear S hb
      have S := Sn_
      clear Sn_
      go_wp2_with (first | ((with_reducible refine gate_dst (N := 49) rfl ?_); refine Kd.event_run rfl (Row.load_row_run (g := g8) (t := 42) (cells := gC r A3 c3 B3 d3) rfl rfl (S.out.blk 0 rfl) Try.underlying42 rfl (by kernel_rfl)) ?_))
      refine (markG_calls r A3 c3 B3 d3 1 resA3_lo resA3_hi _ (S.out.get 1 rfl) (S.out.le 1 rfl) (by omega) (by have := HM2.out; omega)).mono ?_
      rintro e w37 ⟨l1, l2, rfl, e1_, e2_, e3_, e4_, hgo, hkp⟩
      have E1 := Aside0.mk e1_
      have E2 := Aside0.mk e2_
      have E3 := Aside0.mk e3_
      have E4 := Aside0.mk e4_
      have Sn_ := Aside0.mk (S.out.put (P := fun w_ => GO resA3_lo resA3_hi { r with snap := l1, plan := l2 } A3 c3 B3 d3 w_) (rs' := [Blk g8 (gC r A3 c3 B3 d3) 42, ⟨resA3_lo, resA3_hi, fun w_ => GO resA3_lo resA3_hi { r with snap := l1, plan := l2 } A3 c3 B3 d3 w_⟩, Blk g6 (gC r A0 c0 B0 d0) 42, ⟨resA0_lo, resA0_hi, fun w_ => GO resA0_lo resA0_hi r A0 c0 B0 d0 w_⟩, Blk go (#[.int .i64 k0, .int .i64 k1, .int .i64 k2, .int .i64 k3]) 66, Blk gg (gC g A cA B cB) 68]) 1 rfl hkp hgo (GO.stable _ _ _ _ _ _ _) rfl)
      clear S hkp hgo e1_ e2_ e3_ e4_
      have S := Sn_
      clear Sn_
      have hk2 : (0 : Int) ≤ 1 + ((r.snap.length + r.plan.length : Nat) : Int) := by omega
      go_wp2_with (first | ((with_reducible refine gate_dst (N := 52) rfl ?_); refine Kd.event_run rfl (Row.load_row_run (g := g8) (t := 42) (cells := gC r A3 c3 B3 d3) rfl rfl (S.out.blk 0 rfl) Try.underlying42 rfl (by kernel_rfl)) ?_))
      refine calls_of_args (args' := #[.agg (gC { r with snap := l1, plan := l2 } A3 c3 B3 d3), .int .i64 1]) (by simp only [gC, E1.out, E2.out]) ?_
      refine (heldG_calls { r with snap := l1, plan := l2 } A3 c3 B3 d3 1 _ (GO.c (S.out.get 1 rfl)) (by omega) (by have := HM2.out; have := E1.out; have := E2.out; simp only; omega) (fun j hj => E3.out j (by have := E1.out; simp only at hj; omega)) (fun j hj => by have h_ := E4.out j (by have := E2.out; simp only at hj; omega); simp only [E1.out]; exact h_)).mono ?_
      rintro e w38 ⟨rfl, hb⟩
      simp only [E1.out, E2.out]
      have Sn_ := Aside0.mk (S.out.call hb)
      clear S hb
      have S := Sn_
      clear Sn_
      go_wp2_with fail
      refine start_ (n := 7) (S := fun w_ => St w w_ [Blk g8 (gC r A3 c3 B3 d3) 42, ⟨resA3_lo, resA3_hi, fun w_ => GO resA3_lo resA3_hi { r with snap := l1, plan := l2 } A3 c3 B3 d3 w_⟩, Blk g6 (gC r A0 c0 B0 d0) 42, ⟨resA0_lo, resA0_hi, fun w_ => GO resA0_lo resA0_hi r A0 c0 B0 d0 w_⟩, Blk go (#[.int .i64 k0, .int .i64 k1, .int .i64 k2, .int .i64 k3]) 66, Blk gg (gC g A cA B cB) 68]) (ds := [6]) #[false, false, false, false, false, false, false] (by kernel_rfl) rfl rfl (S.out.drew) (fun hH_ => ?_)
      refine take_ (i := 0) (N := some 60) (v := .agg (gC g A cA B cB)) (a' := ?_) #[true, false, false, false, false, false, false] rfl rfl (by kernel_rfl) (fun _ _ _ h => h) (Or.inl ⟨by rfl, fun w' s0 => Row.load_row_run (g := gg) (t := 68) (cells := gC g A cA B cB) rfl rfl (s0.blk 5 rfl) Try.underlying68 rfl (by kernel_rfl)⟩) hH_ ?_ ?_
      rotate_left
      · simp only [Act.put, List.setIfInBounds_toArray, List.set_cons_zero, List.set_cons_succ, i64_w, i32_w]
        rfl
      refine take_ (i := 2) (N := some 62) (v := .agg (#[.int .i64 k0, .int .i64 k1, .int .i64 k2, .int .i64 k3])) (a' := ?_) #[true, false, true, false, false, false, false] rfl rfl (by kernel_rfl) (fun _ _ _ h => h) (Or.inl ⟨by rfl, fun w' s0 => Row.load_row_run (g := go) (t := 66) (cells := #[.int .i64 k0, .int .i64 k1, .int .i64 k2, .int .i64 k3]) rfl rfl (s0.blk 4 rfl) Try.underlying66 rfl (by kernel_rfl)⟩) hH_ ?_ ?_
      rotate_left
      · simp only [Act.put, List.setIfInBounds_toArray, List.set_cons_zero, List.set_cons_succ, i64_w, i32_w]
        rfl
      refine join_ 1 #[true, true, true, true, true, true, false] (fun (s_ : Value × Value × Value × Nat) => [(61, s_.1), (63, s_.2.1), (64, s_.2.2.1), (12, .pointer (some ⟨s_.2.2.2, 0, none⟩))]) (fun s_ w_ => ∃ (A7 : Option Addr) (c7 : Nat) (B7 : Option Addr) (d7 : Nat) (lo_ hi_ : Nat), s_.2.2.1 = .agg (gC r A7 c7 B7 d7) ∧ St w w_ (Blk s_.2.2.2 (#[.bool false, .int .i64 0, .int .i64 0, .bool false, .int .i64 0, .int .i64 0, .int .i64 0, .int .i64 0, .int .i64 0, .int .i64 0, .int .i64 0, .int .i64 0, .int .i64 0, .int .i64 0, .int .i64 0, .bool false, .int .i64 0, .int .u64 0, .int .u64 0, .int .u64 0, .int .u64 0, .slice none 0 0, .slice none 0 0, .int .i64 0, .int .i64 0, .int .i64 0]) 42 :: ⟨lo_, hi_, fun w_ => GO lo_ hi_ r A7 c7 B7 d7 w_⟩ :: [Blk g8 (gC r A3 c3 B3 d3) 42, ⟨resA3_lo, resA3_hi, fun w_ => GO resA3_lo resA3_hi { r with snap := l1, plan := l2 } A3 c3 B3 d3 w_⟩, Blk g6 (gC r A0 c0 B0 d0) 42, ⟨resA0_lo, resA0_hi, fun w_ => GO resA0_lo resA0_hi r A0 c0 B0 d0 w_⟩, Blk go (#[.int .i64 k0, .int .i64 k1, .int .i64 k2, .int .i64 k3]) 66, Blk gg (gC g A cA B cB) 68])) ?rest_ ?all_
      case all_ =>
        intro hjoin_
        have HJ_ := Aside0.mk hjoin_
        clear hjoin_
        refine two_ (i := 1) (j := 5) (Ni := some 61) (Nj := some 12) #[true, true, true, false, false, false, false] #[true, false, true, false, false, true, false] rfl rfl rfl rfl (by kernel_rfl) (by decide) (by decide) (fun K hK => ?_) (fun K hK => ?_)
        · skip
          refine goes_ Try.func60 (by kernel_rfl) rfl #[.agg (gC g A cA B cB)] (by rfl) rfl rfl (by (try simp only [List.map_toArray, List.map_cons, List.map_nil]); first | done | rfl) ?_
          refine (toG_calls g A cA B cB _ (HR.out.below hH_.base) HM.out).mono ?_
          rintro e w39 ⟨A6, c6, B6, d6, rfl, ho, hb⟩
          have HO6 := Aside0.mk ho.c
          clear ho
          have hHw39_ := hH_.call hb
          refine ⟨_, rfl, hK.out _ _ hHw39_ (fun hX_ => ?_)⟩
          clear hK K hX_
          refine norm_ (a' := ?_) ?_ ?_
          rotate_left
          · show Act.put _ (some 61) _ = _
            simp only [Act.put, List.setIfInBounds_toArray, List.set_cons_zero, List.set_cons_succ, i64_w, i32_w]
            rfl
          refine two_ (i := 3) (j := 5) (Ni := some 63) (Nj := some 12) #[true, true, true, true, false, false, false] #[true, true, true, false, false, true, false] rfl rfl rfl rfl (by kernel_rfl) (by decide) (by decide) (fun K hK => ?_) (fun K hK => ?_)
          · skip
            refine goes_ Try.func61 (by kernel_rfl) rfl #[.agg #[.int .i64 k0, .int .i64 k1, .int .i64 k2, .int .i64 k3]] (by rfl) rfl rfl (by (try simp only [List.map_toArray, List.map_cons, List.map_nil]); first | done | rfl) ?_
            refine (toOp_calls k0 k1 k2 k3 _).mono ?_
            rintro e w40 ⟨rfl, hb⟩
            have HP6 := Aside0.mk (GC.below HO6.out hb)
            clear HO6
            have hHw40_ := hHw39_.call hb
            refine ⟨_, rfl, hK.out _ _ hHw40_ (fun hX_ => ?_)⟩
            clear hK K hX_
            refine norm_ (a' := ?_) ?_ ?_
            rotate_left
            · show Act.put _ (some 63) _ = _
              simp only [Act.put, List.setIfInBounds_toArray, List.set_cons_zero, List.set_cons_succ, i64_w, i32_w]
              rfl
            refine two_ (i := 4) (j := 5) (Ni := some 64) (Nj := some 12) #[true, true, true, true, true, false, false] #[true, true, true, true, false, true, false] rfl rfl rfl rfl (by kernel_rfl) (by decide) (by decide) (fun K hK => ?_) (fun K hK => ?_)
            · skip
              refine goes_ Try.func62 (by kernel_rfl) rfl #[.agg (gC g A6 c6 B6 d6), .agg #[.int .i64 k0, .int .i64 k1, .int .i64 k2, .int .i64 k3]] (by rfl) rfl rfl (by (try simp only [List.map_toArray, List.map_cons, List.map_nil]); first | done | rfl) ?_
              refine ((show Calls Try.prog 62 #[.agg (gC g A6 c6 B6 d6), .agg #[.int .i64 k0, .int .i64 k1, .int .i64 k2, .int .i64 k3]] _ (RetG r _) from HRR.out ▸ implAsk_calls g k0 k1 k2 k3 A6 c6 B6 d6 _ HP6.out HM.out)).mono ?_
              rintro e w41 ⟨A7, c7, B7, d7, rfl, ho, hb⟩
              clear HP6
              have hHw41_ := hHw40_.new (P := fun w_ => GO w40.heap.size w41.heap.size r A7 c7 B7 d7 w_) hb ho (GO.stable _ _ _ _ _ _ _)
              refine ⟨_, rfl, hK.out _ _ hHw41_.drop1 (fun hX_ => ?_)⟩
              clear hK K hX_
              refine norm_ (a' := ?_) ?_ ?_
              rotate_left
              · show Act.put _ (some 64) _ = _
                simp only [Act.put, List.setIfInBounds_toArray, List.set_cons_zero, List.set_cons_succ, i64_w, i32_w]
                rfl
              refine one_ (i := 5) (N := some 12) #[true, true, true, true, true, true, false] rfl rfl (by kernel_rfl) (by decide) (fun K hK => ?_)
              refine box_step (by rfl) (N := 12) rfl (cs := #[.bool false, .int .i64 0, .int .i64 0, .bool false, .int .i64 0, .int .i64 0, .int .i64 0, .int .i64 0, .int .i64 0, .int .i64 0, .int .i64 0, .int .i64 0, .int .i64 0, .int .i64 0, .int .i64 0, .bool false, .int .i64 0, .int .u64 0, .int .u64 0, .int .u64 0, .int .u64 0, .slice none 0 0, .slice none 0 0, .int .i64 0, .int .i64 0, .int .i64 0]) (t := 42) (by first | (go_simp; done) | (go_simp; rfl)) ?_
              intro g12_w42 hg_ w42 hbox_ hb_
              have hHw42_ := hHw41_.box hg_ hbox_ hb_
              refine hK.out _ _ hHw42_.drop1.drop1 (fun hX_ => ?_)
              clear hK K hX_ hg_ hbox_ hb_
              refine norm_ (a' := ?_) ?_ ?_
              rotate_left
              · show Act.put _ (some 12) _ = _
                simp only [Act.put, List.setIfInBounds_toArray, List.set_cons_zero, List.set_cons_succ, i64_w, i32_w]
                rfl
              have hj_ := HJ_.out (.agg (gC g A6 c6 B6 d6), .agg #[.int .i64 k0, .int .i64 k1, .int .i64 k2, .int .i64 k3], .agg (gC r A7 c7 B7 d7), g12_w42) _ ⟨A7, c7, B7, d7, _, _, rfl, hHw42_⟩
              refine norm_ ?_ hj_
              simp only [putAll, Act.put, List.setIfInBounds_toArray, List.set_cons_zero, List.set_cons_succ]
            · skip
              refine box_step (by rfl) (N := 12) rfl (cs := #[.bool false, .int .i64 0, .int .i64 0, .bool false, .int .i64 0, .int .i64 0, .int .i64 0, .int .i64 0, .int .i64 0, .int .i64 0, .int .i64 0, .int .i64 0, .int .i64 0, .int .i64 0, .int .i64 0, .bool false, .int .i64 0, .int .u64 0, .int .u64 0, .int .u64 0, .int .u64 0, .slice none 0 0, .slice none 0 0, .int .i64 0, .int .i64 0, .int .i64 0]) (t := 42) (by first | (go_simp; done) | (go_simp; rfl)) ?_
              intro g12_w43 hg_ w43 hbox_ hb_
              have hHw43_ := hHw40_.box hg_ hbox_ hb_
              have HQ_ := Aside0.mk (GC.below HP6.out hb_)
              clear HP6
              have HP6 := HQ_
              clear HQ_
              refine hK.out _ _ hHw43_.drop1 (fun hX_ => ?_)
              clear hK K hX_ hg_ hbox_ hb_
              refine norm_ (a' := ?_) ?_ ?_
              rotate_left
              · show Act.put _ (some 12) _ = _
                simp only [Act.put, List.setIfInBounds_toArray, List.set_cons_zero, List.set_cons_succ, i64_w, i32_w]
                rfl
              refine one_ (i := 4) (N := some 64) #[true, true, true, true, true, true, false] rfl rfl (by kernel_rfl) (by decide) (fun K hK => ?_)
              refine goes_ Try.func62 (by kernel_rfl) rfl #[.agg (gC g A6 c6 B6 d6), .agg #[.int .i64 k0, .int .i64 k1, .int .i64 k2, .int .i64 k3]] (by rfl) rfl rfl (by (try simp only [List.map_toArray, List.map_cons, List.map_nil]); first | done | rfl) ?_
              refine ((show Calls Try.prog 62 #[.agg (gC g A6 c6 B6 d6), .agg #[.int .i64 k0, .int .i64 k1, .int .i64 k2, .int .i64 k3]] _ (RetG r _) from HRR.out ▸ implAsk_calls g k0 k1 k2 k3 A6 c6 B6 d6 _ HP6.out HM.out)).mono ?_
              rintro e w44 ⟨A7, c7, B7, d7, rfl, ho, hb⟩
              clear HP6
              have hHw44_ := hHw43_.new (P := fun w_ => GO w43.heap.size w44.heap.size r A7 c7 B7 d7 w_) hb ho (GO.stable _ _ _ _ _ _ _)
              refine ⟨_, rfl, hK.out _ _ hHw44_.drop1.drop1 (fun hX_ => ?_)⟩
              clear hK K hX_
              refine norm_ (a' := ?_) ?_ ?_
              rotate_left
              · show Act.put _ (some 64) _ = _
                simp only [Act.put, List.setIfInBounds_toArray, List.set_cons_zero, List.set_cons_succ, i64_w, i32_w]
                rfl
              have hj_ := HJ_.out (.agg (gC g A6 c6 B6 d6), .agg #[.int .i64 k0, .int .i64 k1, .int .i64 k2, .int .i64 k3], .agg (gC r A7 c7 B7 d7), g12_w43) _ ⟨A7, c7, B7, d7, _, _, rfl, hHw44_.swap⟩
              refine norm_ ?_ hj_
              simp only [putAll, Act.put, List.setIfInBounds_toArray, List.set_cons_zero, List.set_cons_succ]
          · skip
            refine box_step (by rfl) (N := 12) rfl (cs := #[.bool false, .int .i64 0, .int .i64 0, .bool false, .int .i64 0, .int .i64 0, .int .i64 0, .int .i64 0, .int .i64 0, .int .i64 0, .int .i64 0, .int .i64 0, .int .i64 0, .int .i64 0, .int .i64 0, .bool false, .int .i64 0, .int .u64 0, .int .u64 0, .int .u64 0, .int .u64 0, .slice none 0 0, .slice none 0 0, .int .i64 0, .int .i64 0, .int .i64 0]) (t := 42) (by first | (go_simp; done) | (go_simp; rfl)) ?_
            intro g12_w45 hg_ w45 hbox_ hb_
            have hHw45_ := hHw39_.box hg_ hbox_ hb_
            have HQ_ := Aside0.mk (GC.below HO6.out hb_)
            clear HO6
            have HO6 := HQ_
            clear HQ_
            refine hK.out _ _ hHw45_.drop1 (fun hX_ => ?_)
            clear hK K hX_ hg_ hbox_ hb_
            refine norm_ (a' := ?_) ?_ ?_
            rotate_left
            · show Act.put _ (some 12) _ = _
              simp only [Act.put, List.setIfInBounds_toArray, List.set_cons_zero, List.set_cons_succ, i64_w, i32_w]
              rfl
            refine one_ (i := 3) (N := some 63) #[true, true, true, true, false, true, false] rfl rfl (by kernel_rfl) (by decide) (fun K hK => ?_)
            refine goes_ Try.func61 (by kernel_rfl) rfl #[.agg #[.int .i64 k0, .int .i64 k1, .int .i64 k2, .int .i64 k3]] (by rfl) rfl rfl (by (try simp only [List.map_toArray, List.map_cons, List.map_nil]); first | done | rfl) ?_
            refine (toOp_calls k0 k1 k2 k3 _).mono ?_
            rintro e w46 ⟨rfl, hb⟩
            have HP6 := Aside0.mk (GC.below HO6.out hb)
            clear HO6
            have hHw46_ := hHw45_.call hb
            refine ⟨_, rfl, hK.out _ _ hHw46_.drop1 (fun hX_ => ?_)⟩
            clear hK K hX_
            refine norm_ (a' := ?_) ?_ ?_
            rotate_left
            · show Act.put _ (some 63) _ = _
              simp only [Act.put, List.setIfInBounds_toArray, List.set_cons_zero, List.set_cons_succ, i64_w, i32_w]
              rfl
            refine one_ (i := 4) (N := some 64) #[true, true, true, true, true, true, false] rfl rfl (by kernel_rfl) (by decide) (fun K hK => ?_)
            refine goes_ Try.func62 (by kernel_rfl) rfl #[.agg (gC g A6 c6 B6 d6), .agg #[.int .i64 k0, .int .i64 k1, .int .i64 k2, .int .i64 k3]] (by rfl) rfl rfl (by (try simp only [List.map_toArray, List.map_cons, List.map_nil]); first | done | rfl) ?_
            refine ((show Calls Try.prog 62 #[.agg (gC g A6 c6 B6 d6), .agg #[.int .i64 k0, .int .i64 k1, .int .i64 k2, .int .i64 k3]] _ (RetG r _) from HRR.out ▸ implAsk_calls g k0 k1 k2 k3 A6 c6 B6 d6 _ HP6.out HM.out)).mono ?_
            rintro e w47 ⟨A7, c7, B7, d7, rfl, ho, hb⟩
            clear HP6
            have hHw47_ := hHw46_.new (P := fun w_ => GO w46.heap.size w47.heap.size r A7 c7 B7 d7 w_) hb ho (GO.stable _ _ _ _ _ _ _)
            refine ⟨_, rfl, hK.out _ _ hHw47_.drop1.drop1 (fun hX_ => ?_)⟩
            clear hK K hX_
            refine norm_ (a' := ?_) ?_ ?_
            rotate_left
            · show Act.put _ (some 64) _ = _
              simp only [Act.put, List.setIfInBounds_toArray, List.set_cons_zero, List.set_cons_succ, i64_w, i32_w]
              rfl
            have hj_ := HJ_.out (.agg (gC g A6 c6 B6 d6), .agg #[.int .i64 k0, .int .i64 k1, .int .i64 k2, .int .i64 k3], .agg (gC r A7 c7 B7 d7), g12_w45) _ ⟨A7, c7, B7, d7, _, _, rfl, hHw47_.swap⟩
            refine norm_ ?_ hj_
            simp only [putAll, Act.put, List.setIfInBounds_toArray, List.set_cons_zero, List.set_cons_succ]
        · skip
          refine box_step (by rfl) (N := 12) rfl (cs := #[.bool false, .int .i64 0, .int .i64 0, .bool false, .int .i64 0, .int .i64 0, .int .i64 0, .int .i64 0, .int .i64 0, .int .i64 0, .int .i64 0, .int .i64 0, .int .i64 0, .int .i64 0, .int .i64 0, .bool false, .int .i64 0, .int .u64 0, .int .u64 0, .int .u64 0, .int .u64 0, .slice none 0 0, .slice none 0 0, .int .i64 0, .int .i64 0, .int .i64 0]) (t := 42) (by first | (go_simp; done) | (go_simp; rfl)) ?_
          intro g12_w48 hg_ w48 hbox_ hb_
          have hHw48_ := hH_.box hg_ hbox_ hb_
          refine hK.out _ _ hHw48_.drop1 (fun hX_ => ?_)
          clear hK K hX_ hg_ hbox_ hb_
          refine norm_ (a' := ?_) ?_ ?_
          rotate_left
          · show Act.put _ (some 12) _ = _
            simp only [Act.put, List.setIfInBounds_toArray, List.set_cons_zero, List.set_cons_succ, i64_w, i32_w]
            rfl
          refine one_ (i := 1) (N := some 61) #[true, true, true, false, false, true, false] rfl rfl (by kernel_rfl) (by decide) (fun K hK => ?_)
          refine goes_ Try.func60 (by kernel_rfl) rfl #[.agg (gC g A cA B cB)] (by rfl) rfl rfl (by (try simp only [List.map_toArray, List.map_cons, List.map_nil]); first | done | rfl) ?_
          refine (toG_calls g A cA B cB _ (HR.out.below hHw48_.drop1.base) HM.out).mono ?_
          rintro e w49 ⟨A6, c6, B6, d6, rfl, ho, hb⟩
          have HO6 := Aside0.mk ho.c
          clear ho
          have hHw49_ := hHw48_.call hb
          refine ⟨_, rfl, hK.out _ _ hHw49_.drop1 (fun hX_ => ?_)⟩
          clear hK K hX_
          refine norm_ (a' := ?_) ?_ ?_
          rotate_left
          · show Act.put _ (some 61) _ = _
            simp only [Act.put, List.setIfInBounds_toArray, List.set_cons_zero, List.set_cons_succ, i64_w, i32_w]
            rfl
          refine one_ (i := 3) (N := some 63) #[true, true, true, true, false, true, false] rfl rfl (by kernel_rfl) (by decide) (fun K hK => ?_)
          refine goes_ Try.func61 (by kernel_rfl) rfl #[.agg #[.int .i64 k0, .int .i64 k1, .int .i64 k2, .int .i64 k3]] (by rfl) rfl rfl (by (try simp only [List.map_toArray, List.map_cons, List.map_nil]); first | done | rfl) ?_
          refine (toOp_calls k0 k1 k2 k3 _).mono ?_
          rintro e w50 ⟨rfl, hb⟩
          have HP6 := Aside0.mk (GC.below HO6.out hb)
          clear HO6
          have hHw50_ := hHw49_.call hb
          refine ⟨_, rfl, hK.out _ _ hHw50_.drop1 (fun hX_ => ?_)⟩
          clear hK K hX_
          refine norm_ (a' := ?_) ?_ ?_
          rotate_left
          · show Act.put _ (some 63) _ = _
            simp only [Act.put, List.setIfInBounds_toArray, List.set_cons_zero, List.set_cons_succ, i64_w, i32_w]
            rfl
          refine one_ (i := 4) (N := some 64) #[true, true, true, true, true, true, false] rfl rfl (by kernel_rfl) (by decide) (fun K hK => ?_)
          refine goes_ Try.func62 (by kernel_rfl) rfl #[.agg (gC g A6 c6 B6 d6), .agg #[.int .i64 k0, .int .i64 k1, .int .i64 k2, .int .i64 k3]] (by rfl) rfl rfl (by (try simp only [List.map_toArray, List.map_cons, List.map_nil]); first | done | rfl) ?_
          refine ((show Calls Try.prog 62 #[.agg (gC g A6 c6 B6 d6), .agg #[.int .i64 k0, .int .i64 k1, .int .i64 k2, .int .i64 k3]] _ (RetG r _) from HRR.out ▸ implAsk_calls g k0 k1 k2 k3 A6 c6 B6 d6 _ HP6.out HM.out)).mono ?_
          rintro e w51 ⟨A7, c7, B7, d7, rfl, ho, hb⟩
          clear HP6
          have hHw51_ := hHw50_.new (P := fun w_ => GO w50.heap.size w51.heap.size r A7 c7 B7 d7 w_) hb ho (GO.stable _ _ _ _ _ _ _)
          refine ⟨_, rfl, hK.out _ _ hHw51_.drop1.drop1 (fun hX_ => ?_)⟩
          clear hK K hX_
          refine norm_ (a' := ?_) ?_ ?_
          rotate_left
          · show Act.put _ (some 64) _ = _
            simp only [Act.put, List.setIfInBounds_toArray, List.set_cons_zero, List.set_cons_succ, i64_w, i32_w]
            rfl
          have hj_ := HJ_.out (.agg (gC g A6 c6 B6 d6), .agg #[.int .i64 k0, .int .i64 k1, .int .i64 k2, .int .i64 k3], .agg (gC r A7 c7 B7 d7), g12_w48) _ ⟨A7, c7, B7, d7, _, _, rfl, hHw51_.swap⟩
          refine norm_ ?_ hj_
          simp only [putAll, Act.put, List.setIfInBounds_toArray, List.set_cons_zero, List.set_cons_succ]
      case rest_ =>
        clear hH_ S
        intro s_ w52 hF_
        obtain ⟨vv0_24, vv1_24, vv2_24, g12⟩ := s_
        obtain ⟨A7, c7, B7, d7, resA7_lo, resA7_hi, rfl, hS_⟩ := hF_
        refine norm_ (a' := ?_) ?_ ?_
        rotate_left
        · simp only [putAll, Act.put, List.setIfInBounds_toArray, List.set_cons_zero, List.set_cons_succ]
          rfl
        refine last_ (i := 6) (N := none) #[true, true, true, true, true, true, true] rfl rfl (by kernel_rfl) (by decide) (fun K hK => ?_)
        refine skip_ (w1 := w52.setRow g12 (gC r A7 c7 B7 d7)) (by rfl) rfl (Row.store_row_run (g := g12) (cells := gC r A7 c7 B7 d7) (t := 42) (old := #[.bool false, .int .i64 0, .int .i64 0, .bool false, .int .i64 0, .int .i64 0, .int .i64 0, .int .i64 0, .int .i64 0, .int .i64 0, .int .i64 0, .int .i64 0, .int .i64 0, .int .i64 0, .int .i64 0, .bool false, .int .i64 0, .int .u64 0, .int .u64 0, .int .u64 0, .int .u64 0, .slice none 0 0, .slice none 0 0, .int .i64 0, .int .i64 0, .int .i64 0]) rfl (by rfl) (by rfl) (hS_.blk 0 rfl) (by kernel_rfl) rfl (by simp [Value.oneCell', gC])) ?_
        refine hK.out _ _ (done_ (by kernel_rfl) ?_)
        clear hK K
        have S := Aside0.mk (hS_.setRow (cs' := gC r A7 c7 B7 d7) (rs' := [Blk g12 (gC r A7 c7 B7 d7) 42, ⟨resA7_lo, resA7_hi, fun w_ => GO resA7_lo resA7_hi r A7 c7 B7 d7 w_⟩, Blk g8 (gC r A3 c3 B3 d3) 42, ⟨resA3_lo, resA3_hi, fun w_ => GO resA3_lo resA3_hi { r with snap := l1, plan := l2 } A3 c3 B3 d3 w_⟩, Blk g6 (gC r A0 c0 B0 d0) 42, ⟨resA0_lo, resA0_hi, fun w_ => GO resA0_lo resA0_hi r A0 c0 B0 d0 w_⟩, Blk go (#[.int .i64 k0, .int .i64 k1, .int .i64 k2, .int .i64 k3]) 66, Blk gg (gC g A cA B cB) 68]) 0 rfl rfl)
        clear hS_
        obtain ⟨w53, hw_⟩ : ∃ w_, w52.setRow g12 (gC r A7 c7 B7 d7) = w_ := ⟨_, rfl⟩
        rw [hw_] at S
        rw [hw_]
        clear hw_
        go_wp2_with (first | ((with_reducible refine gate_dst (N := 65) rfl ?_); refine Kd.event_run rfl (Row.load_row_run (g := g12) (t := 42) (cells := gC r A7 c7 B7 d7) rfl rfl (S.out.blk 0 rfl) Try.underlying42 rfl (by kernel_rfl)) ?_) | ((with_reducible refine gate_dst (N := 66) rfl ?_); refine Kd.event_run rfl (Row.load_row_run (g := g6) (t := 42) (cells := gC r A0 c0 B0 d0) rfl rfl (S.out.blk 4 rfl) Try.underlying42 rfl (by kernel_rfl)) ?_))
        refine (eqG_same r A7 c7 B7 d7 A0 c0 B0 d0 _ (GO.c (S.out.get 1 rfl)) (GO.c (S.out.get 5 rfl)) HM3.out).mono ?_
        rintro e w54 ⟨rfl, hb⟩
        have Sn_ := Aside0.mk (S.out.call hb)
        clear S hb
        have S := Sn_
        clear Sn_
        go_wp2_with (first | ((with_reducible refine gate_dst (N := 69) rfl ?_); refine Kd.event_run rfl (Row.load_row_run (g := g8) (t := 42) (cells := gC r A3 c3 B3 d3) rfl rfl (S.out.blk 2 rfl) Try.underlying42 rfl (by kernel_rfl)) ?_))
        refine calls_of_args (args' := #[.agg (gC { r with snap := l1, plan := l2 } A3 c3 B3 d3), .int .i64 1]) (by simp only [gC, E1.out, E2.out]) ?_
        refine (heldG_calls { r with snap := l1, plan := l2 } A3 c3 B3 d3 1 _ (GO.c (S.out.get 3 rfl)) (by omega) (by have := HM2.out; have := E1.out; have := E2.out; simp only; omega) (fun j hj => E3.out j (by have := E1.out; simp only at hj; omega)) (fun j hj => by have h_ := E4.out j (by have := E2.out; simp only at hj; omega); simp only [E1.out]; exact h_)).mono ?_
        rintro e w55 ⟨rfl, hb⟩
        simp only [E1.out, E2.out]
        have Sn_ := Aside0.mk (S.out.call hb)
        clear S hb
        have S := Sn_
        clear Sn_
        go_wp2
        go_ret
        exact ⟨rfl, S.out.base⟩
end Go.Proofs.Ytbcpkbbdmkmpkaa.Gu
